/-
  What the proof stands on, part 3.
-/
import Derived.Test.YtjmegoiclgancaaKA2
namespace Go.Proofs.Ytjmegoiclgancaa
open Go Go.RowKit
set_option linter.unusedVariables false
set_option linter.unusedSimpArgs false
theorem k23_ (g : GridR) (w : World) (f_g : okGridR 549755813888 w g) :
    Calls Try.prog 29 #[.agg #[i64 g.W, i64 g.H, .slice g.Cells.A g.Cells.n g.Cells.c]] w fun e w' => e = .returned (.bool (gridOk g.dat)) ∧ St w [] [] w' := by
 have nb_g_Cells := f_g.Cells_n
 have nl_g_Cells := f_g.Cells.len
 refine enter 24 Try.func29 rfl Try.ntmps29 rfl rfl ?_
 have hs1 := St.init w
 refine WC.sr (WL.bx hs1 rfl (fun b2 _ hs3 => WL.r 1 hs3 [] rfl (WL.nil (WC.sr (WL.r 4 hs3 [0, 0] rfl (WL.cl Try.call25 rfl (k12_ _ _ _) ?_))))))
 rintro _ whs4 ⟨rfl, hs4⟩
 replace hs4 := hs3.call0 hs4
 refine ⟨_, rfl, WL.r 1 hs4 [] rfl ?_⟩
 apply WL.gA 9 Acts.nil hs4 rfl
 ·intro g5 J6
  have qg5 := g5
  try simp only [bf, within_iff, within_not] at qg5
  refine WL.runA tbk 9 (Acts.nil.cons (j := 5) rfl g5) hs4 [0, 0, 0] rfl ⟨?_, rfl, rfl, rfl, trivial⟩ ?_
  · (obtain ⟨_, _, h9, h10⟩ := isSize_bnd (w := g.W) (h := g.H) (by assumption); constructor <;> omega)
  exact WL.eA 9 Acts.nil J6 hs4 g5 rfl rfl
 intro _ hs7
 refine WL.r 1 hs7 [] rfl ?_
 apply WL.gA 3 Acts.nil hs7 rfl
 ·intro g8 J9
  have qg8 := g8
  try simp only [bf, within_iff, within_not] at qg8
  refine WL.runA tbk 2 (Acts.nil.cons (j := 16) rfl g8) hs7 [0] rfl ⟨rfl, trivial⟩ (WL.call (wantT rfl g8) rfl rfl (Run.call Try.call67 rfl rfl rfl) (k10_ _ _ _ _ _ (SlF.st0 f_g.Cells hs7) ?_) ?_)
  · first | assumption | rfl | omega
  rintro _ whs10 ⟨rfl, hs10⟩
  replace hs10 := hs7.call0 hs10
  refine ⟨_, rfl, WL.eA 3 Acts.nil J9 hs10 g8 rfl rfl⟩
 intro _ hs11
 refine WL.r 1 hs11 [] rfl (WL.nil (WC.ret (rtv rfl rfl hs11 ?_)))
 rw [← nl_g_Cells]; rfl
theorem k24_ (g : GridR) (x : Int) (y : Int) (w : World) (f_g : okGridR 549755813888 w g) (hw : 0 ≤ g.W ∧ g.W ≤ 120) (hh : 0 ≤ g.H ∧ g.H ≤ 120) :
    Calls Try.prog 30 #[.agg #[i64 g.W, i64 g.H, .slice g.Cells.A g.Cells.n g.Cells.c], i64 x, i64 y] w fun e w' => e = .returned (.bool (gridHas g.dat x y)) ∧ St w [] [] w' := by
 have nb_g_Cells := f_g.Cells_n
 have nl_g_Cells := f_g.Cells.len
 refine enter 19 Try.func30 rfl Try.ntmps30 rfl rfl ?_
 have hs1 := St.init w
 refine WC.sr (WL.bx hs1 rfl (fun b2 _ hs3 => WL.r 1 hs3 [] rfl (WL.nil (WC.sr (WL.r 4 hs3 [0] rfl (WL.cl Try.call33 rfl (k0_ _ _ _ _) ?_))))))
 rintro _ whs4 ⟨rfl, hs4⟩
 replace hs4 := hs3.call0 hs4
 refine ⟨_, rfl, WL.r 1 hs4 [] rfl ?_⟩
 apply WL.gA 5 Acts.nil hs4 rfl
 ·intro g5 J6
  have qg5 := g5
  try simp only [bf, within_iff, within_not] at qg5
  refine WL.runA tbk 4 (Acts.nil.cons (j := 5) rfl g5) hs4 [0] rfl ⟨by omega, rfl, trivial⟩ (WL.call (wantT rfl g5) rfl rfl (Run.call Try.call33 rfl rfl rfl) (k0_ _ _ _ _) ?_)
  rintro _ whs7 ⟨rfl, hs7⟩
  replace hs7 := hs4.call0 hs7
  refine ⟨_, rfl, WL.eA 5 Acts.nil J6 hs7 g5 rfl rfl⟩
 intro _ hs8
 refine WL.r 1 hs8 [] rfl (WL.nil (WC.ret (rtv rfl rfl hs8 ?_)))
 rfl
theorem k25_ (A_l : Option Addr) (n_l c_l : Nat) (l : List Int) (lo : Int) (hi : Int) (w : World) (f_l : SlF encI w A_l n_l l) (hn : n_l ≤ 549755813888) :
    Calls Try.prog 32 #[.slice A_l n_l c_l, i64 lo, i64 hi] w fun e w' => e = .returned (.bool (isAsc l lo hi)) ∧ St w [] [] w' := by
 refine enter 35 Try.func32 rfl Try.ntmps32 rfl rfl ?_
 have hs1 := St.init w
 refine WC.r1 hs1 [] rfl (WC.seq (fun K2 hK2 => WC.r1 hs1 [] rfl (WC.block ?_)))
 refine WC.lS [0, 1, 2, 9, 10] rfl hs1 (fun k_ f w' => ∃ (i : Nat), k_ = n_l - i ∧ (i ≤ n_l) ∧ (∀ j, j < i → ascAt l lo hi j = true) ∧ Sub [(11, .int .i64 i)] f) ((fun (i : Nat) => n_l - i) (0)) ?_ ?_
 ·refine ⟨0, rfl, ?_, ?_, ⟨rfl, trivial⟩⟩
  · exact Nat.zero_le _
  · exact fun j hj => absurd hj (by omega)
 clear hs1
 rintro _ f w ⟨i, rfl, p0, p1, hG⟩ hF hs3
 refine WC.sub _ (hG.app hF) ?_
 clear hG hF
 refine WC.r1 hs3 [] rfl (WC.seq (fun K4 hK4 => ?_))
 refine WC.cq rfl (fun h5 qh5 => ?_) (fun h5 qh5 => ?_)
 ·refine WC.skip (hK4 _ _ (WC.seq (fun K6 hK6 => WC.block (WC.sr (WL.r 1 hs3 [] rfl ?_)))))
  refine WL.val rfl rfl rfl (Run.idxN Try.runUnderlying28 Try.sizeOf3 rfl rfl rfl ?_ ?_ ?_) ?_
  · exact SlF.some_ (SlF.st0 f_l hs3)
  · omega
  · omega
  refine WL.val rfl rfl rfl (Run.load Try.isAgg3 rfl rfl (SlF.one1 (SlF.st0 f_l hs3) ?_ rfl)) ?_
  · omega
  refine WL.r 2 hs3 [] rfl (WL.nil (WC.sr (WL.r 3 hs3 [] rfl (WL.cl Try.call33 rfl (k0_ _ _ _ _) ?_))))
  rintro _ whs7 ⟨rfl, hs7⟩
  replace hs7 := hs3.call0 hs7
  refine ⟨_, rfl, WL.r 2 hs7 [] rfl ?_⟩
  apply WL.gO 11 Acts.nil hs7 rfl
  ·intro g8 J9
   have qg8 := g8
   try simp only [bf, within_iff, within_not] at qg8
   refine WL.runA tbk 3 (Acts.nil.cons (j := 5) rfl g8) hs7 [] rfl trivial ?_
   apply WL.gA 7 (Acts.nil.cons (j := 5) rfl g8) hs7 rfl
   ·intro g10 J11
    have qg10 := g10
    try simp only [bf, within_iff, within_not] at qg10
    refine WL.runA tbk 3 (Acts.nil.cons (j := 8) rfl g10) hs7 [] rfl ⟨by omega, trivial⟩ (WL.val (wantT rfl g10) rfl rfl (Run.idxK (i - 1) Try.runUnderlying28 Try.sizeOf3 rfl rfl rfl ?_ ?_ ?_) ?_)
    · exact SlF.some_ (SlF.st0 f_l hs7)
    · omega
    · omega
    refine WL.val (wantT rfl g10) rfl rfl (Run.load Try.isAgg3 rfl rfl (SlF.one1 (SlF.st0 f_l hs7) ?_ rfl)) ?_
    · omega
    refine WL.runA tbk 2 (Acts.nil.cons (j := 8) rfl g10) hs7 [] rfl trivial (WL.eA 7 (Acts.nil.cons (j := 5) rfl g8) J11 hs7 g10 rfl rfl)
   intro _ hs12
   exact WL.eO 4 Acts.nil J9 hs12 g8 rfl rfl
  intro _ hs13
  refine WL.nil (WC.cq rfl (fun h14 qh14 => ?_) (fun h14 qh14 => ?_))
  ·have ha : ascAt l lo hi i = false := by unfold ascAt; have h9 := h14; simp only [iat]; cases hw_ : within (gat encI l i) lo hi <;> rw [hw_] at h9 <;> simp at h9 ⊢ <;> omega
   refine WC.r1 hs13 [] rfl (WC.ret (ibR (tkR (tkR (ibR (tkR ?_))))))
   clear hK6 hK2
   refine rtv rfl rfl hs13 ?_
   rw [isAsc_not (by rw [f_l.len]; omega) ha]
  have ha : ascAt l lo hi i = true := by unfold ascAt; have h9 := h14; simp only [iat]; cases hw_ : within (gat encI l i) lo hi <;> rw [hw_] at h9 <;> simp at h9 ⊢ <;> omega
  refine WC.skip (hK6 _ _ (WC.region (WL.r 2 hs13 [] rfl (WL.nil (tkN ?_)))))
  refine ⟨sbF rfl, hs13, _, ?_, i + 1, rfl, ?_, ?_, ⟨rfl, trivial⟩⟩
  · omega
  · omega
  · intro j hj; rcases Nat.lt_or_ge j i with h_ | h_
    · exact p1 j h_
    · obtain rfl : j = i := by omega
      exact ha
 refine WC.exit (hK2 _ _ (WC.r1 hs3 [] rfl (WC.ret (rtv rfl rfl hs3 ?_))))
 rw [isAsc_all (fun j hj => p1 j (by rw [f_l.len] at hj; omega))]
theorem k26_ (r : RowR) (w : World) (f_r : okRowR 549755813888 w r) :
    Calls Try.prog 69 #[.agg #[.slice r.Cells.A r.Cells.n r.Cells.c]] w fun e w' => e = .returned (.bool (!rowOk r.dat)) ∧ St w [] [] w' := by
 have nb_r_Cells := f_r.Cells_n
 have nl_r_Cells := f_r.Cells.len
 refine enter 14 Try.func69 rfl Try.ntmps69 rfl rfl ?_
 have hs1 := St.init w
 refine WC.sr (WL.bx hs1 rfl (fun b2 _ hs3 => WL.r 1 hs3 [] rfl (WL.nil (WC.sr (WL.r 3 hs3 [0] rfl (WL.cl Try.call33 rfl (k0_ _ _ _ _) ?_))))))
 rintro _ whs4 ⟨rfl, hs4⟩
 replace hs4 := hs3.call0 hs4
 refine ⟨_, rfl, WL.r 2 hs4 [] rfl ?_⟩
 apply WL.gO 4 Acts.nil hs4 rfl
 ·intro g5 J6
  have qg5 := g5
  try simp only [bf, within_iff, within_not] at qg5
  refine WL.runA tbk 2 (Acts.nil.cons (j := 5) rfl g5) hs4 [0] rfl ⟨rfl, trivial⟩ (WL.call (wantF rfl g5) rfl rfl (Run.call Try.call67 rfl rfl rfl) (k10_ _ _ _ _ _ (SlF.st0 f_r.Cells hs4) ?_) ?_)
  · first | assumption | rfl | omega
  rintro _ whs7 ⟨rfl, hs7⟩
  replace hs7 := hs4.call0 hs7
  refine ⟨_, rfl, WL.runA tbk 1 (Acts.nil.cons (j := 5) rfl g5) hs7 [] rfl trivial (WL.eO 4 Acts.nil J6 hs7 g5 rfl rfl)⟩
 intro _ hs8
 refine WL.r 1 hs8 [] rfl (WL.nil (WC.ret (rtv rfl rfl hs8 ?_)))
 rw [show rowOk r.dat = (within (r.Cells.n : Int) 1 120 && cellsOk r.Cells.xs) by unfold rowOk; rw [← nl_r_Cells]; rfl, Bool.not_and]
theorem k27_ (A_s : Option Addr) (n_s c_s : Nat) (s : List RowR) (w : World) (f_s : SlN encRowR (okRowR 549755813888) w A_s n_s s) (hn : n_s ≤ 549755813888) :
    Calls Try.prog 100 #[.slice A_s n_s c_s, .func (.func 69) #[] #[]] w fun e w' => e = .returned (.int .i64 (findI (fun r => !rowOk r.dat) s)) ∧ St w [] [] w' := by
 refine enter 19 Try.func100 rfl Try.ntmps100 rfl rfl ?_
 have hs1 := St.init w
 refine WC.r1 hs1 [] rfl (WC.seq (fun K2 hK2 => WC.r1 hs1 [] rfl (WC.block ?_)))
 refine WC.lS [0, 1, 7] rfl hs1 (fun k_ f w' => ∃ (i : Nat), k_ = n_s - i ∧ (i ≤ n_s) ∧ (∀ j, j < i → (fun r => !rowOk r.dat) (gat encRowR s j) = false) ∧ Sub [(8, .int .i64 i)] f) ((fun (i : Nat) => n_s - i) (0)) ?_ ?_
 ·refine ⟨0, rfl, ?_, ?_, ⟨rfl, trivial⟩⟩
  · exact Nat.zero_le _
  · exact fun j hj => absurd hj (by omega)
 clear hs1
 rintro _ f w ⟨i, rfl, p0, p1, hG⟩ hF hs3
 refine WC.sub _ (hG.app hF) ?_
 clear hG hF
 refine WC.r1 hs3 [] rfl (WC.seq (fun K4 hK4 => ?_))
 refine WC.cond rfl (fun h5 => ?_) (fun h5 => ?_)
 ·have qh5 := h5
  try simp only [decide_eq_true_eq, decide_eq_false_iff_not] at qh5
  refine WC.skip (hK4 _ _ (WC.seq (fun K6 hK6 => WC.block (WC.r1 hs3 [] rfl (WC.sr (WL.r 3 hs3 [] rfl ?_))))))
  refine WL.val rfl rfl rfl (Run.idxN Try.runUnderlying29 Try.sizeOf56 rfl rfl rfl ?_ ?_ ?_) ?_
  · exact SlF.some_ (SlF.st0 f_s.sl hs3)
  · omega
  · omega
  refine WL.val rfl rfl rfl (Run.loadA Try.isAgg56 Try.sizeOf56 rfl rfl (SlF.whole (SlF.st0 f_s.sl hs3) ?_)) ?_
  · omega
  refine WL.cl Try.call69 rfl (k26_ (gat encRowR s i) _ (okRowR.st0 (SlN.nth f_s (by omega)) hs3)) ?_
  rintro _ whs7 ⟨rfl, hs7⟩
  replace hs7 := hs3.call0 hs7
  refine ⟨_, rfl, WL.nil (WC.cond rfl (fun h8 => ?_) (fun h8 => ?_))⟩
  ·have qh8 := h8
   try simp only [decide_eq_true_eq, decide_eq_false_iff_not] at qh8
   refine WC.r1 hs7 [] rfl (WC.ret (ibR (tkR (tkR (ibR (tkR ?_))))))
   clear hK6 hK2
   refine rtv rfl rfl hs7 ?_
   rw [findI_some (F := encRowR) (by rw [f_s.len]; omega) p1 h8]
  have qh8 := h8
  try simp only [decide_eq_true_eq, decide_eq_false_iff_not] at qh8
  refine WC.skip (hK6 _ _ (WC.region (WL.r 2 hs7 [] rfl (WL.nil (tkN ?_)))))
  refine ⟨sbF rfl, hs7, _, ?_, i + 1, rfl, ?_, ?_, ⟨rfl, trivial⟩⟩
  · omega
  · omega
  · intro j hj; rcases Nat.lt_or_ge j i with h_ | h_
    · exact p1 j h_
    · obtain rfl : j = i := by omega
      exact h8
 have qh5 := h5
 try simp only [decide_eq_true_eq, decide_eq_false_iff_not] at qh5
 refine WC.exit (hK2 _ _ (WC.r1 hs3 [] rfl (WC.ret (rtv rfl rfl hs3 ?_))))
 rw [findI_none (F := encRowR) (fun j hj => p1 j (by rw [f_s.len] at hj; omega))]
theorem k28_ (A_s : Option Addr) (n_s c_s : Nat) (s : List RowR) (w : World) (f_s : SlN encRowR (okRowR 549755813888) w A_s n_s s) (hn : n_s ≤ 549755813888) :
    Calls Try.prog 68 #[.slice A_s n_s c_s, .func (.func 69) #[] #[]] w fun e w' => e = .returned (.bool (decide (0 ≤ findI (fun r => !rowOk r.dat) s))) ∧ St w [] [] w' := by
 refine enter 9 Try.func68 rfl Try.ntmps68 rfl rfl ?_
 have hs1 := St.init w
 refine WC.r1 hs1 [] rfl (WC.sr (WL.r 2 hs1 [] rfl (WL.cl Try.call100 rfl (k27_ _ _ _ _ _ (SlN.st0 okRowR.st0 f_s hs1) ?_) ?_)))
 · first | assumption | rfl | omega
 rintro _ whs2 ⟨rfl, hs2⟩
 replace hs2 := hs1.call0 hs2
 refine ⟨_, rfl, WL.r 2 hs2 [] rfl (WL.nil (WC.ret (rtv rfl rfl hs2 ?_)))⟩
 rfl
theorem k29_ (A_b : Option Addr) (n_b c_b : Nat) (b : List RowR) (l : Int) (w : World) (f_b : SlN encRowR (okRowR 549755813888) w A_b n_b b) (hn : n_b ≤ 549755813888) :
    Calls Try.prog 34 #[.slice A_b n_b c_b, i64 l] w fun e w' => e = .returned (.bool (backOk (b.map RowR.dat) l)) ∧ St w [] [] w' := by
 refine enter 14 Try.func34 rfl Try.ntmps34 rfl rfl ?_
 have hs1 := St.init w
 refine WC.r1 hs1 [] rfl (WC.sr (WL.r 5 hs1 [] rfl ?_))
 apply WL.gA 3 Acts.nil hs1 rfl
 ·intro g2 J3
  have qg2 := g2
  try simp only [bf, within_iff, within_not] at qg2
  refine WL.runA tbk 1 (Acts.nil.cons (j := 4) rfl g2) hs1 [] rfl trivial (WL.call (wantT rfl g2) rfl rfl (Run.call Try.call68 rfl rfl rfl) (k28_ _ _ _ _ _ (SlN.st0 okRowR.st0 f_b hs1) ?_) ?_)
  · first | assumption | rfl | omega
  rintro _ whs4 ⟨rfl, hs4⟩
  replace hs4 := hs1.call0 hs4
  refine ⟨_, rfl, WL.runA tbk 1 (Acts.nil.cons (j := 4) rfl g2) hs4 [] rfl trivial (WL.eA 3 Acts.nil J3 hs4 g2 rfl rfl)⟩
 intro _ hs5
 refine WL.r 1 hs5 [] rfl (WL.nil (WC.ret (rtv rfl rfl hs5 ?_)))
 unfold backOk; rw [List.length_map, f_b.len, List.all_map, ← all_find]; rfl
set_option maxHeartbeats 4000000 in
theorem k30_ (s : ScrR) (w : World) (f_s : okScrR 549755813888 w s) :
    Calls Try.prog 8 #[.agg #[i64 s.W, i64 s.H, i64 s.Main.W, i64 s.Main.H, .slice s.Main.Cells.A s.Main.Cells.n s.Main.Cells.c, i64 s.Alt.W, i64 s.Alt.H, .slice s.Alt.Cells.A s.Alt.Cells.n s.Alt.Cells.c, .bool s.OnAlt, i64 s.X, i64 s.Y, .bool s.Wrap, i64 s.A.Fg, i64 s.A.Bg, .bool s.A.Bold, .bool s.A.Under, .bool s.A.Turn, i64 s.Top, i64 s.Bot, .bool s.NoWrap, .bool s.Hide, i64 s.SaveX, i64 s.SaveY, i64 s.SaveA.Fg, i64 s.SaveA.Bg, .bool s.SaveA.Bold, .bool s.SaveA.Under, .bool s.SaveA.Turn, .slice s.Tabs.A s.Tabs.n s.Tabs.c, i64 s.Limit, .slice s.Back.A s.Back.n s.Back.c]] w fun e w' => e = .returned (.bool (scrOk s.dat)) ∧ St w [] [] w' := by
 have nb_s_Main_Cells := f_s.Main.Cells_n
 have nl_s_Main_Cells := f_s.Main.Cells.len
 have nb_s_Alt_Cells := f_s.Alt.Cells_n
 have nl_s_Alt_Cells := f_s.Alt.Cells.len
 have nb_s_Tabs := f_s.Tabs_n
 have nl_s_Tabs := f_s.Tabs.len
 have nb_s_Back := f_s.Back_n
 have nl_s_Back := f_s.Back.sl.len
 have hlit : ∀ y, y ∈ [s.Main, s.Alt] → okGridR 549755813888 w y := by intro y hy; simp only [List.mem_cons, List.not_mem_nil, or_false] at hy; rcases hy with rfl | rfl; exact f_s.Main; exact f_s.Alt
 refine enter 122 Try.func8 rfl Try.ntmps8 rfl rfl ?_
 have hs1 := St.init w
 refine WC.sr (WL.bx hs1 rfl (fun b2 _ hs3 => WL.r 1 hs3 [] rfl (WL.nil (WC.seq (fun K4 hK4 => WC.sr (WL.r 4 hs3 [0, 0] rfl (WL.buildF (F := encGridR) hs3 ([s.Main, s.Alt]) Try.runUnderlying68 Try.sizeOf25 Try.zeroValue25 rfl rfl rfl rfl rfl rfl rfl rfl rfl rfl rfl rfl (fun A8 c9 L5 whs6 hs6 ho7 => ?_))))))))
 replace hs6 := St.back [_] hs6
 refine WL.r 2 hs6 [] rfl (WL.nil (WC.block (WC.lS [1, 9, 10] rfl hs6 (fun k_ f w' => ∃ (i : Nat), k_ = 2 - i ∧ (i ≤ 2) ∧ (∀ j, j < i → gridFit (GridR.dat (gat encGridR [s.Main, s.Alt] j)) s.W s.H = true) ∧ Sub [(11, .int .i64 i)] f) ((fun (i : Nat) => 2 - i) (0)) ?_ ?_)))
 ·refine ⟨0, rfl, ?_, ?_, ⟨rfl, trivial⟩⟩
  · omega
  · exact fun j hj => absurd hj (by omega)
 clear hs6
 rintro _ f w ⟨i, rfl, p0, p1, hG⟩ hF hs10
 refine WC.sub _ (hG.app hF) ?_
 clear hG hF
 refine WC.r1 hs10 [] rfl (WC.seq (fun K11 hK11 => ?_))
 refine WC.cq rfl (fun h12 qh12 => ?_) (fun h12 qh12 => ?_)
 ·have hi2 : i < 2 := by have h8 := h12; simp at h8; omega
  refine WC.skip (hK11 _ _ (WC.seq (fun K13 hK13 => WC.block (WC.sr ?_))))
  refine WL.val rfl rfl rfl (Run.idxN Try.runUnderlying68 Try.sizeOf25 rfl rfl rfl ?_ ?_ ?_) ?_
  · exact SlF.some_ (SlF.ofOwn ho7 (hs10.ow L5))
  · first | omega | (simp; omega)
  · first | omega | (simp; omega)
  refine WL.val rfl rfl rfl (Run.loadA Try.isAgg25 Try.sizeOf25 rfl rfl (SlF.whole (SlF.ofOwn ho7 (hs10.ow L5)) ?_)) ?_
  · first | omega | (simp; omega)
  refine WL.al hs10 Try.zeroValue25 rfl rfl (fun b14 _ hs15 => WL.st tbk hs15 0 rfl rfl (fun _ hs16 => WL.nil (WC.sr (WL.r 1 hs16 [0] rfl ?_))))
  refine WL.cl Try.call29 rfl (k23_ (gat encGridR [s.Main, s.Alt] i) _ (okGridR.st0 (hlit _ (gat_mem (by first | omega | (simp; omega)))) hs16)) ?_
  rintro _ whs17 ⟨rfl, hs17⟩
  replace hs17 := hs16.call0 hs17
  refine ⟨_, rfl, WL.r 2 hs17 [] rfl (WL.pO tbk 5 Acts.nil hs17 [0, 1] rfl rfl rfl rfl (fun g_ => ⟨rfl, rfl, trivial⟩) (WL.r 1 hs17 [] rfl (WL.pO tbk 5 Acts.nil hs17 [0, 1] rfl rfl rfl rfl (fun g_ => ⟨rfl, rfl, trivial⟩) (WL.nil (WC.cq rfl (fun h18 qh18 => ?_) (fun h18 qh18 => ?_))))))⟩
  ·have ha : gridFit (GridR.dat (gat encGridR [s.Main, s.Alt] i)) s.W s.H = false := by unfold gridFit; have h9 := h18; show (gridOk (GridR.dat (gat encGridR [s.Main, s.Alt] i)) && (decide ((gat encGridR [s.Main, s.Alt] i).W = s.W) && decide ((gat encGridR [s.Main, s.Alt] i).H = s.H))) = false; revert h9; cases gridOk (GridR.dat (gat encGridR [s.Main, s.Alt] i)) <;> cases decide ((gat encGridR [s.Main, s.Alt] i).W = s.W) <;> cases decide ((gat encGridR [s.Main, s.Alt] i).H = s.H) <;> simp
   have hp1 : scrP1 s.dat = false := by unfold scrP1; rcases (show i = 0 ∨ i = 1 by omega) with rfl | rfl; (rw [show gridFit s.dat.Main s.dat.W s.dat.H = false from ha]; rfl); (rw [show gridFit s.dat.Alt s.dat.W s.dat.H = false from ha, Bool.and_false])
   refine WC.r1 hs17 [] rfl (WC.ret (ibR (tkR (tkR (ibR (tkR ?_))))))
   clear hK13 hK4
   refine rtv rfl rfl hs17 ?_
   rw [scrOk_no (.inl hp1)]
  have ha : gridFit (GridR.dat (gat encGridR [s.Main, s.Alt] i)) s.W s.H = true := by unfold gridFit; have h9 := h18; show (gridOk (GridR.dat (gat encGridR [s.Main, s.Alt] i)) && (decide ((gat encGridR [s.Main, s.Alt] i).W = s.W) && decide ((gat encGridR [s.Main, s.Alt] i).H = s.H))) = true; revert h9; cases gridOk (GridR.dat (gat encGridR [s.Main, s.Alt] i)) <;> cases decide ((gat encGridR [s.Main, s.Alt] i).W = s.W) <;> cases decide ((gat encGridR [s.Main, s.Alt] i).H = s.H) <;> simp
  refine WC.skip (hK13 _ _ (WC.region (WL.r 2 hs17 [] rfl (WL.nil (tkN ?_)))))
  refine ⟨sbF rfl, (hs17.drop (by repeat (first | exact List.Sublist.refl _ | exact List.sublist_append_left _ _ | exact List.Sublist.trans (List.sublist_append_left _ _) (List.sublist_append_left _ _) | apply List.Sublist.cons | refine List.Sublist.trans ?_ (sR _)))), _, ?_, i + 1, rfl, ?_, ?_, ⟨rfl, trivial⟩⟩
  · omega
  · omega
  · intro j hj; rcases Nat.lt_or_ge j i with h_ | h_
    · exact p1 j h_
    · obtain rfl : j = i := by omega
      exact ha
 have hi2 : ¬ i < 2 := by have h8 := h12; simp at h8; omega
 have hp1 : scrP1 s.dat = true := by unfold scrP1; rw [show gridFit s.dat.Main s.dat.W s.dat.H = true from p1 0 (by omega), show gridFit s.dat.Alt s.dat.W s.dat.H = true from p1 1 (by omega)]; rfl
 have hbn : (1 ≤ s.W ∧ s.W ≤ 120) ∧ (1 ≤ s.H ∧ s.H ≤ 120) ∧ s.Main.W = s.W ∧ s.Main.H = s.H ∧ s.Alt.W = s.W ∧ s.Alt.H = s.H := scrP1_bnd hp1
 refine WC.exit (hK4 _ _ (WC.seq (fun K19 hK19 => WC.sr (WL.r 6 hs10 [0, 0, 0] rfl ?_))))
 refine WL.cl Try.call30 rfl (k24_ s.Main _ _ _ (okGridR.st0 f_s.Main hs10) ?_ ?_) ?_
 iterate 2 first | assumption | rfl | omega
 rintro _ whs20 ⟨rfl, hs20⟩
 replace hs20 := hs10.call0 hs20
 refine ⟨_, rfl, WL.r 2 hs20 [] rfl ?_⟩
 apply WL.gO 8 Acts.nil hs20 rfl
 ·intro g21 J22
  have qg21 := g21
  try simp only [bf, within_iff, within_not] at qg21
  refine WL.runA tbk 6 (Acts.nil.cons (j := 8) rfl g21) hs20 [0, 0, 0] rfl ⟨rfl, rfl, rfl, trivial⟩ (WL.call (wantF rfl g21) rfl rfl (Run.call Try.call30 rfl rfl rfl) (k24_ s.Main _ _ _ (okGridR.st0 f_s.Main hs20) ?_ ?_) ?_)
  iterate 2 first | assumption | rfl | omega
  rintro _ whs23 ⟨rfl, hs23⟩
  replace hs23 := hs20.call0 hs23
  refine ⟨_, rfl, WL.runA tbk 1 (Acts.nil.cons (j := 8) rfl g21) hs23 [] rfl trivial (WL.eO 8 Acts.nil J22 hs23 g21 rfl rfl)⟩
 intro _ hs24
 refine WL.r 1 hs24 [] rfl ?_
 apply WL.gO 10 Acts.nil hs24 rfl
 ·intro g25 J26
  have qg25 := g25
  try simp only [bf, within_iff, within_not] at qg25
  refine WL.runA tbk 3 (Acts.nil.cons (j := 18) rfl g25) hs24 [0] rfl ⟨rfl, trivial⟩ ?_
  refine WL.pA tbk 6 (Acts.nil.cons (j := 18) rfl g25) hs24 [0, 0] rfl rfl rfl rfl (fun g_ => by (try simp only [bf, within_iff, within_not] at g_); exact ⟨by omega, rfl, rfl, trivial⟩) (WL.eO 4 Acts.nil J26 hs24 g25 rfl rfl)
 intro _ hs27
 refine WL.r 1 hs27 [] rfl ?_
 apply WL.gO 4 Acts.nil hs27 rfl
 ·intro g28 J29
  have qg28 := g28
  try simp only [bf, within_iff, within_not] at qg28
  refine WL.runA tbk 2 (Acts.nil.cons (j := 30) rfl g28) hs27 [0] rfl ⟨rfl, trivial⟩ (WL.call (wantF rfl g28) rfl rfl (Run.call Try.call31 rfl rfl rfl) (k3_ _ _ _ _ _ _) ?_)
  rintro _ whs30 ⟨rfl, hs30⟩
  replace hs30 := hs27.call0 hs30
  refine ⟨_, rfl, WL.runA tbk 1 (Acts.nil.cons (j := 30) rfl g28) hs30 [] rfl trivial (WL.eO 4 Acts.nil J29 hs30 g28 rfl rfl)⟩
 intro _ hs31
 refine WL.r 1 hs31 [] rfl ?_
 apply WL.gO 4 Acts.nil hs31 rfl
 ·intro g32 J33
  have qg32 := g32
  try simp only [bf, within_iff, within_not] at qg32
  refine WL.runA tbk 2 (Acts.nil.cons (j := 36) rfl g32) hs31 [0] rfl ⟨rfl, trivial⟩ (WL.call (wantF rfl g32) rfl rfl (Run.call Try.call31 rfl rfl rfl) (k3_ _ _ _ _ _ _) ?_)
  rintro _ whs34 ⟨rfl, hs34⟩
  replace hs34 := hs31.call0 hs34
  refine ⟨_, rfl, WL.runA tbk 1 (Acts.nil.cons (j := 36) rfl g32) hs34 [] rfl trivial (WL.eO 4 Acts.nil J33 hs34 g32 rfl rfl)⟩
 intro _ hs35
 refine WL.nil (WC.cq rfl (fun h36 qh36 => ?_) (fun h36 qh36 => ?_))
 ·have hp2 : scrP2 s.dat = false := by have h9 := h36; unfold scrP2; show (((gridHas s.Main.dat s.X s.Y && gridHas s.Main.dat s.SaveX s.SaveY) && ((!s.Wrap || decide (s.X = s.W - 1)) && (attrOk s.A.Fg s.A.Bg && attrOk s.SaveA.Fg s.SaveA.Bg)))) = false; revert h9; cases gridHas s.Main.dat s.X s.Y <;> cases gridHas s.Main.dat s.SaveX s.SaveY <;> cases s.Wrap <;> cases decide (s.X = s.W - 1) <;> cases attrOk s.A.Fg s.A.Bg <;> cases attrOk s.SaveA.Fg s.SaveA.Bg <;> simp
  refine WC.r1 hs35 [] rfl (WC.ret (tkR ?_))
  clear hK19
  refine rtv rfl rfl hs35 ?_
  rw [scrOk_no (.inr (.inl hp2))]
 have hp2 : scrP2 s.dat = true := by have h9 := h36; unfold scrP2; show (((gridHas s.Main.dat s.X s.Y && gridHas s.Main.dat s.SaveX s.SaveY) && ((!s.Wrap || decide (s.X = s.W - 1)) && (attrOk s.A.Fg s.A.Bg && attrOk s.SaveA.Fg s.SaveA.Bg)))) = true; revert h9; cases gridHas s.Main.dat s.X s.Y <;> cases gridHas s.Main.dat s.SaveX s.SaveY <;> cases s.Wrap <;> cases decide (s.X = s.W - 1) <;> cases attrOk s.A.Fg s.A.Bg <;> cases attrOk s.SaveA.Fg s.SaveA.Bg <;> simp
 refine WC.skip (hK19 _ _ (WC.seq (fun K37 hK37 => WC.sr (WL.r 4 hs35 [0] rfl (WL.pO tbk 5 Acts.nil hs35 [0, 0] rfl rfl rfl rfl (fun g_ => ⟨rfl, rfl, trivial⟩) (WL.r 1 hs35 [] rfl (WL.pO tbk 5 Acts.nil hs35 [0, 0] rfl rfl rfl rfl (fun g_ => ⟨rfl, rfl, trivial⟩) ?_)))))))
 refine WL.r 1 hs35 [] rfl ?_
 apply WL.gO 10 Acts.nil hs35 rfl
 ·intro g38 J39
  have qg38 := g38
  try simp only [bf, within_iff, within_not] at qg38
  refine WL.runA tbk 6 (Acts.nil.cons (j := 17) rfl g38) hs35 [0, 0] rfl ⟨rfl, rfl, trivial⟩ (WL.pA tbk 3 (Acts.nil.cons (j := 17) rfl g38) hs35 [0] rfl rfl rfl rfl (fun g_ => ⟨rfl, trivial⟩) (WL.eO 7 Acts.nil J39 hs35 g38 rfl rfl))
 intro _ hs40
 refine WL.nil (WC.cq rfl (fun h41 qh41 => ?_) (fun h41 qh41 => ?_))
 ·have hp3 : scrP3 s.dat = false := by have h9 := h41; unfold scrP3; show ((decide (0 ≤ s.Top) && decide (s.Top ≤ s.Bot)) && (decide (s.Bot < s.H) && (!decide (s.Top = s.Bot) || decide (s.H = 1)))) = false; simp at h9 ⊢; omega
  refine WC.r1 hs40 [] rfl (WC.ret (tkR ?_))
  clear hK37
  refine rtv rfl rfl hs40 ?_
  rw [scrOk_no (.inr (.inr (.inl hp3)))]
 have hp3 : scrP3 s.dat = true := by have h9 := h41; unfold scrP3; show ((decide (0 ≤ s.Top) && decide (s.Top ≤ s.Bot)) && (decide (s.Bot < s.H) && (!decide (s.Top = s.Bot) || decide (s.H = 1)))) = true; simp at h9 ⊢; omega
 refine WC.skip (hK37 _ _ (WC.sr (WL.r 5 hs40 [0, 0] rfl ?_)))
 refine WL.cl Try.call32 rfl (k25_ _ _ _ _ _ _ _ (SlF.st0 f_s.Tabs hs40) ?_) ?_
 · first | assumption | rfl | omega
 rintro _ whs42 ⟨rfl, hs42⟩
 replace hs42 := hs40.call0 hs42
 refine ⟨_, rfl, WL.r 1 hs42 [] rfl ?_⟩
 apply WL.gA 3 Acts.nil hs42 rfl
 ·intro g43 J44
  have qg43 := g43
  try simp only [bf, within_iff, within_not] at qg43
  refine WL.runA tbk 2 (Acts.nil.cons (j := 6) rfl g43) hs42 [0] rfl ⟨rfl, trivial⟩ (WL.call (wantT rfl g43) rfl rfl (Run.call Try.call33 rfl rfl rfl) (k0_ _ _ _ _) ?_)
  rintro _ whs45 ⟨rfl, hs45⟩
  replace hs45 := hs42.call0 hs45
  refine ⟨_, rfl, WL.eA 3 Acts.nil J44 hs45 g43 rfl rfl⟩
 intro _ hs46
 refine WL.r 1 hs46 [] rfl ?_
 apply WL.gA 5 Acts.nil hs46 rfl
 ·intro g47 J48
  have qg47 := g47
  try simp only [bf, within_iff, within_not] at qg47
  refine WL.runA tbk 4 (Acts.nil.cons (j := 11) rfl g47) hs46 [0, 0] rfl ⟨rfl, rfl, trivial⟩ (WL.call (wantT rfl g47) rfl rfl (Run.call Try.call34 rfl rfl rfl) (k29_ _ _ _ _ _ _ (SlN.st0 okRowR.st0 f_s.Back hs46) ?_) ?_)
  · first | assumption | rfl | omega
  rintro _ whs49 ⟨rfl, hs49⟩
  replace hs49 := hs46.call0 hs49
  refine ⟨_, rfl, WL.eA 5 Acts.nil J48 hs49 g47 rfl rfl⟩
 intro _ hs50
 refine WL.r 1 hs50 [] rfl (WL.nil (WC.ret (rtv rfl rfl hs50 ?_)))
 rw [scrOk_yes hp1 hp2 hp3]; rfl
theorem k31_ (g : GridR) (w : World) (f_g : okGridR 549755813888 w g) :
    Calls Try.prog 71 #[.agg #[i64 g.W, i64 g.H, .slice g.Cells.A g.Cells.n g.Cells.c]] w fun e w' => e = .returned (.bool (gridOk g.dat)) ∧ St w [] [] w' := by
 have nb_g_Cells := f_g.Cells_n
 have nl_g_Cells := f_g.Cells.len
 refine enter 53 Try.func71 rfl Try.ntmps71 rfl rfl ?_
 have hs1 := St.init w
 refine WC.sr (WL.bx hs1 rfl (fun b2 _ hs3 => WL.r 1 hs3 [] rfl (WL.nil (WC.seq (fun K4 hK4 => WC.sr (WL.r 4 hs3 [0] rfl (WL.pO tbk 3 Acts.nil hs3 [0] rfl rfl rfl rfl (fun g_ => ⟨rfl, trivial⟩) ?_)))))))
 refine WL.r 1 hs3 [] rfl (WL.pO tbk 3 Acts.nil hs3 [0] rfl rfl rfl rfl (fun g_ => ⟨rfl, trivial⟩) (WL.r 1 hs3 [] rfl (WL.pO tbk 3 Acts.nil hs3 [0] rfl rfl rfl rfl (fun g_ => ⟨rfl, trivial⟩) (WL.r 1 hs3 [] rfl ?_))))
 apply WL.gO 6 Acts.nil hs3 rfl
 ·intro g5 J6
  have qg5 := g5
  try simp only [bf, within_iff, within_not] at qg5
  refine WL.runA tbk 6 (Acts.nil.cons (j := 18) rfl g5) hs3 [0, 0] rfl ⟨?_, rfl, rfl, trivial⟩ ?_
  · (have h9 := mul_size (w := g.W) (h := g.H) (by omega) (by omega); constructor <;> omega)
  exact WL.eO 6 Acts.nil J6 hs3 g5 rfl rfl
 intro _ hs7
 refine WL.r 1 hs7 [] rfl ?_
 apply WL.gO 9 Acts.nil hs7 rfl
 ·intro g8 J9
  have qg8 := g8
  try simp only [bf, within_iff, within_not] at qg8
  refine WL.runA tbk 9 (Acts.nil.cons (j := 26) rfl g8) hs7 [0, 0, 0] rfl ⟨?_, rfl, rfl, rfl, trivial⟩ ?_
  · (have h9 := mul_size (w := g.W) (h := g.H) (by omega) (by omega); constructor <;> omega)
  exact WL.eO 9 Acts.nil J9 hs7 g8 rfl rfl
 intro _ hs10
 refine WL.nil (WC.cq rfl (fun h11 qh11 => ?_) (fun h11 qh11 => ?_))
 ·have hg : gridOk g.dat = false := by rw [← Bool.not_eq_true]; intro h8; have hb : (1 ≤ g.W ∧ g.W ≤ 120) ∧ (1 ≤ g.H ∧ g.H ≤ 120) ∧ 1 ≤ g.W * g.H ∧ g.W * g.H ≤ 4000 := gridOk_bnd h8; unfold gridOk at h8; rw [Bool.and_eq_true, Bool.and_eq_true, decide_eq_true_eq] at h8; have h7 : (g.Cells.xs.length : Int) = g.W * g.H := h8.1.2; have h9 := h11; simp at h9; omega
  refine WC.r1 hs10 [] rfl (WC.ret (tkR ?_))
  clear hK4
  refine rtv rfl rfl hs10 ?_
  rw [hg]
 have hs : isSize g.W g.H = true ∧ (g.Cells.n : Int) = g.W * g.H := by rw [isSize_iff]; have h9 := h11; simp at h9; omega
 refine WC.skip (hK4 _ _ (WC.seq (fun K12 hK12 => WC.r1 hs10 [0] rfl (WC.block ?_))))
 refine WC.lS [41, 43, 44] rfl hs10 (fun k_ f w' => ∃ (i : Nat), k_ = g.Cells.n - i ∧ (i ≤ g.Cells.n) ∧ (∀ j, j < i → cellOk (gat encCell g.Cells.xs j) = true) ∧ Sub [(45, .int .i64 i)] f) ((fun (i : Nat) => g.Cells.n - i) (0)) ?_ ?_
 ·refine ⟨0, rfl, ?_, ?_, ⟨rfl, trivial⟩⟩
  · exact Nat.zero_le _
  · exact fun j hj => absurd hj (by omega)
 clear hs10
 rintro _ f w ⟨i, rfl, p0, p1, hG⟩ hF hs13
 refine WC.sub _ (hG.app hF) ?_
 clear hG hF
 refine WC.r1 hs13 [] rfl (WC.seq (fun K14 hK14 => ?_))
 refine WC.cq rfl (fun h15 qh15 => ?_) (fun h15 qh15 => ?_)
 ·refine WC.skip (hK14 _ _ (WC.seq (fun K16 hK16 => WC.block (WC.sr ?_))))
  refine WL.val rfl rfl rfl (Run.idxN Try.runUnderlying23 Try.sizeOf58 rfl rfl rfl ?_ ?_ ?_) ?_
  · exact SlF.some_ (SlF.st0 f_g.Cells hs13)
  · omega
  · omega
  refine WL.val rfl rfl rfl (Run.loadA Try.isAgg58 Try.sizeOf58 rfl rfl (SlF.whole (SlF.st0 f_g.Cells hs13) ?_)) ?_
  · omega
  refine WL.al hs13 Try.zeroValue58 rfl rfl (fun b17 _ hs18 => WL.st tbk hs18 0 rfl rfl (fun _ hs19 => WL.nil (WC.sr (WL.r 1 hs19 [0] rfl (WL.cl Try.call101 rfl (k6_ _ _ _ _ _ _ _) ?_)))))
  rintro _ whs20 ⟨rfl, hs20⟩
  replace hs20 := hs19.call0 hs20
  refine ⟨_, rfl, WL.r 1 hs20 [] rfl (WL.nil (WC.cq rfl (fun h21 qh21 => ?_) (fun h21 qh21 => ?_)))⟩
  ·have hci : cellOk (gat encCell g.Cells.xs i) = false := by simpa using h21
   refine WC.r1 hs20 [] rfl (WC.ret (ibR (tkR (tkR (ibR (tkR ?_))))))
   clear hK16 hK12
   refine rtv rfl rfl hs20 ?_
   rw [show gridOk g.dat = false from by unfold gridOk; rw [show cellsOk g.dat.Cells = false from cellsOk_not (i := i) (by show i < g.Cells.xs.length; omega) hci, Bool.and_false]]
  have hci : cellOk (gat encCell g.Cells.xs i) = true := by simpa using h21
  refine WC.skip (hK16 _ _ (WC.region (WL.r 2 hs20 [] rfl (WL.nil (tkN ?_)))))
  refine ⟨sbF rfl, (hs20.drop (by repeat (first | exact List.Sublist.refl _ | exact List.sublist_append_left _ _ | exact List.Sublist.trans (List.sublist_append_left _ _) (List.sublist_append_left _ _) | apply List.Sublist.cons | refine List.Sublist.trans ?_ (sR _)))), _, ?_, i + 1, rfl, ?_, ?_, ⟨rfl, trivial⟩⟩
  · omega
  · omega
  · intro j hj; rcases Nat.lt_or_ge j i with h_ | h_
    · exact p1 j h_
    · obtain rfl : j = i := by omega
      exact hci
 refine WC.exit (hK12 _ _ (WC.r1 hs13 [] rfl (WC.ret (rtv rfl rfl hs13 ?_))))
 rw [show gridOk g.dat = true from by unfold gridOk; rw [show cellsOk g.dat.Cells = true from cellsOk_all (fun j hj => p1 j (by have : j < g.Cells.xs.length := hj; omega)), show isSize g.dat.W g.dat.H = true from hs.1, decide_eq_true (show (g.dat.Cells.length : Int) = g.dat.W * g.dat.H from by show (g.Cells.xs.length : Int) = g.W * g.H; rw [nl_g_Cells]; exact hs.2)]; rfl]
theorem k32_ (r : RowR) (w : World) (f_r : okRowR 549755813888 w r) :
    Calls Try.prog 73 #[.agg #[.slice r.Cells.A r.Cells.n r.Cells.c]] w fun e w' => e = .returned (.bool (rowOk r.dat)) ∧ St w [] [] w' := by
 have nb_r_Cells := f_r.Cells_n
 have nl_r_Cells := f_r.Cells.len
 refine enter 26 Try.func73 rfl Try.ntmps73 rfl rfl ?_
 have hs1 := St.init w
 refine WC.sr (WL.bx hs1 rfl (fun b2 _ hs3 => WL.r 1 hs3 [] rfl (WL.nil (WC.seq (fun K4 hK4 => WC.r1 hs3 [0] rfl (WC.block ?_))))))
 refine WC.lS [1, 6, 7] rfl hs3 (fun k_ f w' => ∃ (i : Nat), k_ = r.Cells.n - i ∧ (i ≤ r.Cells.n) ∧ (∀ j, j < i → cellOk (gat encCell r.Cells.xs j) = true) ∧ Sub [(8, .int .i64 i)] f) ((fun (i : Nat) => r.Cells.n - i) (0)) ?_ ?_
 ·refine ⟨0, rfl, ?_, ?_, ⟨rfl, trivial⟩⟩
  · exact Nat.zero_le _
  · exact fun j hj => absurd hj (by omega)
 clear hs3
 rintro _ f w ⟨i, rfl, p0, p1, hG⟩ hF hs5
 refine WC.sub _ (hG.app hF) ?_
 clear hG hF
 refine WC.r1 hs5 [] rfl (WC.seq (fun K6 hK6 => ?_))
 refine WC.cq rfl (fun h7 qh7 => ?_) (fun h7 qh7 => ?_)
 ·refine WC.skip (hK6 _ _ (WC.seq (fun K8 hK8 => WC.block (WC.sr ?_))))
  refine WL.val rfl rfl rfl (Run.idxN Try.runUnderlying23 Try.sizeOf58 rfl rfl rfl ?_ ?_ ?_) ?_
  · exact SlF.some_ (SlF.st0 f_r.Cells hs5)
  · omega
  · omega
  refine WL.val rfl rfl rfl (Run.loadA Try.isAgg58 Try.sizeOf58 rfl rfl (SlF.whole (SlF.st0 f_r.Cells hs5) ?_)) ?_
  · omega
  refine WL.al hs5 Try.zeroValue58 rfl rfl (fun b9 _ hs10 => WL.st tbk hs10 0 rfl rfl (fun _ hs11 => WL.nil (WC.sr (WL.r 1 hs11 [0] rfl (WL.cl Try.call101 rfl (k6_ _ _ _ _ _ _ _) ?_)))))
  rintro _ whs12 ⟨rfl, hs12⟩
  replace hs12 := hs11.call0 hs12
  refine ⟨_, rfl, WL.r 1 hs12 [] rfl (WL.nil (WC.cq rfl (fun h13 qh13 => ?_) (fun h13 qh13 => ?_)))⟩
  ·have hci : cellOk (gat encCell r.Cells.xs i) = false := by simpa using h13
   refine WC.r1 hs12 [] rfl (WC.ret (ibR (tkR (tkR (ibR (tkR ?_))))))
   clear hK8 hK4
   refine rtv rfl rfl hs12 ?_
   rw [show rowOk r.dat = false from by unfold rowOk; rw [show cellsOk r.dat.Cells = false from cellsOk_not (i := i) (by show i < r.Cells.xs.length; omega) hci, Bool.and_false]]
  have hci : cellOk (gat encCell r.Cells.xs i) = true := by simpa using h13
  refine WC.skip (hK8 _ _ (WC.region (WL.r 2 hs12 [] rfl (WL.nil (tkN ?_)))))
  refine ⟨sbF rfl, (hs12.drop (by repeat (first | exact List.Sublist.refl _ | exact List.sublist_append_left _ _ | exact List.Sublist.trans (List.sublist_append_left _ _) (List.sublist_append_left _ _) | apply List.Sublist.cons | refine List.Sublist.trans ?_ (sR _)))), _, ?_, i + 1, rfl, ?_, ?_, ⟨rfl, trivial⟩⟩
  · omega
  · omega
  · intro j hj; rcases Nat.lt_or_ge j i with h_ | h_
    · exact p1 j h_
    · obtain rfl : j = i := by omega
      exact hci
 refine WC.exit (hK4 _ _ (WC.sr (WL.r 5 hs5 [0] rfl (WL.pA tbk 4 Acts.nil hs5 [0] rfl rfl rfl rfl (fun g_ => ⟨rfl, trivial⟩) (WL.r 1 hs5 [] rfl (WL.nil (WC.ret ?_)))))))
 refine rtv rfl rfl hs5 ?_
 rw [show rowOk r.dat = within (r.Cells.n : Int) 1 120 from by unfold rowOk; rw [show cellsOk r.dat.Cells = true from cellsOk_all (fun j hj => p1 j (by have : j < r.Cells.xs.length := hj; omega)), Bool.and_true, ← nl_r_Cells]; rfl]; rfl
set_option maxHeartbeats 4000000 in
theorem k33_ (s : ScrR) (w : World) (f_s : okScrR 549755813888 w s) :
    Calls Try.prog 38 #[.agg #[i64 s.W, i64 s.H, i64 s.Main.W, i64 s.Main.H, .slice s.Main.Cells.A s.Main.Cells.n s.Main.Cells.c, i64 s.Alt.W, i64 s.Alt.H, .slice s.Alt.Cells.A s.Alt.Cells.n s.Alt.Cells.c, .bool s.OnAlt, i64 s.X, i64 s.Y, .bool s.Wrap, i64 s.A.Fg, i64 s.A.Bg, .bool s.A.Bold, .bool s.A.Under, .bool s.A.Turn, i64 s.Top, i64 s.Bot, .bool s.NoWrap, .bool s.Hide, i64 s.SaveX, i64 s.SaveY, i64 s.SaveA.Fg, i64 s.SaveA.Bg, .bool s.SaveA.Bold, .bool s.SaveA.Under, .bool s.SaveA.Turn, .slice s.Tabs.A s.Tabs.n s.Tabs.c, i64 s.Limit, .slice s.Back.A s.Back.n s.Back.c]] w fun e w' => e = .returned (.bool (scrOk s.dat)) ∧ St w [] [] w' := by
 have nb_s_Main_Cells := f_s.Main.Cells_n
 have nl_s_Main_Cells := f_s.Main.Cells.len
 have nb_s_Alt_Cells := f_s.Alt.Cells_n
 have nl_s_Alt_Cells := f_s.Alt.Cells.len
 have nb_s_Tabs := f_s.Tabs_n
 have nl_s_Tabs := f_s.Tabs.len
 have nb_s_Back := f_s.Back_n
 have nl_s_Back := f_s.Back.sl.len
 refine enter 208 Try.func38 rfl Try.ntmps38 rfl rfl ?_
 have hs1 := St.init w
 refine WC.sr (WL.bx hs1 rfl (fun b2 _ hs3 => WL.r 1 hs3 [] rfl (WL.nil (WC.seq (fun K4 hK4 => WC.sr (WL.r 2 hs3 [0] rfl (WL.cl Try.call71 rfl (k31_ s.Main _ (okGridR.st0 f_s.Main hs3)) ?_)))))))
 rintro _ whs5 ⟨rfl, hs5⟩
 replace hs5 := hs3.call0 hs5
 refine ⟨_, rfl, WL.r 2 hs5 [] rfl ?_⟩
 apply WL.gO 4 Acts.nil hs5 rfl
 ·intro g6 J7
  have qg6 := g6
  try simp only [bf, within_iff, within_not] at qg6
  refine WL.runA tbk 2 (Acts.nil.cons (j := 4) rfl g6) hs5 [0] rfl ⟨rfl, trivial⟩ (WL.call (wantF rfl g6) rfl rfl (Run.call Try.call71 rfl rfl rfl) (k31_ s.Alt _ (okGridR.st0 f_s.Alt hs5)) ?_)
  rintro _ whs8 ⟨rfl, hs8⟩
  replace hs8 := hs5.call0 hs8
  refine ⟨_, rfl, WL.runA tbk 1 (Acts.nil.cons (j := 4) rfl g6) hs8 [] rfl trivial (WL.eO 4 Acts.nil J7 hs8 g6 rfl rfl)⟩
 intro _ hs9
 refine WL.r 1 hs9 [] rfl (WL.pO tbk 6 Acts.nil hs9 [0, 0] rfl rfl rfl rfl (fun g_ => ⟨rfl, rfl, trivial⟩) (WL.r 1 hs9 [] rfl (WL.pO tbk 6 Acts.nil hs9 [0, 0] rfl rfl rfl rfl (fun g_ => ⟨rfl, rfl, trivial⟩) (WL.r 1 hs9 [] rfl (WL.pO tbk 6 Acts.nil hs9 [0, 0] rfl rfl rfl rfl (fun g_ => ⟨rfl, rfl, trivial⟩) (WL.r 1 hs9 [] rfl (WL.pO tbk 6 Acts.nil hs9 [0, 0] rfl rfl rfl rfl (fun g_ => ⟨rfl, rfl, trivial⟩) ?_)))))))
 refine WL.nil (WC.cq rfl (fun h10 qh10 => ?_) (fun h10 qh10 => ?_))
 ·have hp1 : scrP1 s.dat = false := by have h9 := h10; unfold scrP1 gridFit; show ((gridOk s.Main.dat && (decide (s.Main.W = s.W) && decide (s.Main.H = s.H))) && (gridOk s.Alt.dat && (decide (s.Alt.W = s.W) && decide (s.Alt.H = s.H)))) = false; revert h9; cases gridOk s.Main.dat <;> cases gridOk s.Alt.dat <;> cases decide (s.Main.W = s.W) <;> cases decide (s.Main.H = s.H) <;> cases decide (s.Alt.W = s.W) <;> cases decide (s.Alt.H = s.H) <;> simp
  refine WC.r1 hs9 [] rfl (WC.ret (tkR ?_))
  clear hK4
  refine rtv rfl rfl hs9 ?_
  rw [scrOk_no (.inl hp1)]
 have hp1 : scrP1 s.dat = true := by have h9 := h10; unfold scrP1 gridFit; show ((gridOk s.Main.dat && (decide (s.Main.W = s.W) && decide (s.Main.H = s.H))) && (gridOk s.Alt.dat && (decide (s.Alt.W = s.W) && decide (s.Alt.H = s.H)))) = true; revert h9; cases gridOk s.Main.dat <;> cases gridOk s.Alt.dat <;> cases decide (s.Main.W = s.W) <;> cases decide (s.Main.H = s.H) <;> cases decide (s.Alt.W = s.W) <;> cases decide (s.Alt.H = s.H) <;> simp
 have hbn : (1 ≤ s.W ∧ s.W ≤ 120) ∧ (1 ≤ s.H ∧ s.H ≤ 120) ∧ s.Main.W = s.W ∧ s.Main.H = s.H ∧ s.Alt.W = s.W ∧ s.Alt.H = s.H := scrP1_bnd hp1
 refine WC.skip (hK4 _ _ (WC.seq (fun K11 hK11 => WC.sr (WL.r 4 hs9 [0] rfl (WL.pO tbk 5 Acts.nil hs9 [0, 0] rfl rfl rfl rfl (fun g_ => ⟨rfl, rfl, trivial⟩) (WL.r 1 hs9 [] rfl (WL.pO tbk 3 Acts.nil hs9 [0] rfl rfl rfl rfl (fun g_ => ⟨rfl, trivial⟩) ?_)))))))
 refine WL.r 1 hs9 [] rfl (WL.pO tbk 5 Acts.nil hs9 [0, 0] rfl rfl rfl rfl (fun g_ => ⟨rfl, rfl, trivial⟩) (WL.r 1 hs9 [] rfl ?_))
 apply WL.gO 10 Acts.nil hs9 rfl
 ·intro g12 J13
  have qg12 := g12
  try simp only [bf, within_iff, within_not] at qg12
  refine WL.runA tbk 3 (Acts.nil.cons (j := 22) rfl g12) hs9 [0] rfl ⟨rfl, trivial⟩ ?_
  refine WL.pA tbk 6 (Acts.nil.cons (j := 22) rfl g12) hs9 [0, 0] rfl rfl rfl rfl (fun g_ => by (try simp only [bf, within_iff, within_not] at g_); exact ⟨by omega, rfl, rfl, trivial⟩) (WL.eO 4 Acts.nil J13 hs9 g12 rfl rfl)
 intro _ hs14
 refine WL.r 1 hs14 [] rfl (WL.pO tbk 3 Acts.nil hs14 [0] rfl rfl rfl rfl (fun g_ => ⟨rfl, trivial⟩) (WL.r 1 hs14 [] rfl (WL.pO tbk 5 Acts.nil hs14 [0, 0] rfl rfl rfl rfl (fun g_ => ⟨rfl, rfl, trivial⟩) (WL.r 1 hs14 [] rfl (WL.pO tbk 3 Acts.nil hs14 [0] rfl rfl rfl rfl (fun g_ => ⟨rfl, trivial⟩) (WL.r 1 hs14 [] rfl (WL.pO tbk 5 Acts.nil hs14 [0, 0] rfl rfl rfl rfl (fun g_ => ⟨rfl, rfl, trivial⟩) ?_)))))))
 refine WL.r 1 hs14 [] rfl ?_
 apply WL.gO 4 Acts.nil hs14 rfl
 ·intro g15 J16
  have qg15 := g15
  try simp only [bf, within_iff, within_not] at qg15
  refine WL.runA tbk 2 (Acts.nil.cons (j := 58) rfl g15) hs14 [0] rfl ⟨rfl, trivial⟩ (WL.call (wantF rfl g15) rfl rfl (Run.call Try.call72 rfl rfl rfl) (k4_ _ _ _ _ _ _) ?_)
  rintro _ whs17 ⟨rfl, hs17⟩
  replace hs17 := hs14.call0 hs17
  refine ⟨_, rfl, WL.runA tbk 1 (Acts.nil.cons (j := 58) rfl g15) hs17 [] rfl trivial (WL.eO 4 Acts.nil J16 hs17 g15 rfl rfl)⟩
 intro _ hs18
 refine WL.r 1 hs18 [] rfl ?_
 apply WL.gO 4 Acts.nil hs18 rfl
 ·intro g19 J20
  have qg19 := g19
  try simp only [bf, within_iff, within_not] at qg19
  refine WL.runA tbk 2 (Acts.nil.cons (j := 64) rfl g19) hs18 [0] rfl ⟨rfl, trivial⟩ (WL.call (wantF rfl g19) rfl rfl (Run.call Try.call72 rfl rfl rfl) (k4_ _ _ _ _ _ _) ?_)
  rintro _ whs21 ⟨rfl, hs21⟩
  replace hs21 := hs18.call0 hs21
  refine ⟨_, rfl, WL.runA tbk 1 (Acts.nil.cons (j := 64) rfl g19) hs21 [] rfl trivial (WL.eO 4 Acts.nil J20 hs21 g19 rfl rfl)⟩
 intro _ hs22
 refine WL.nil (WC.cq rfl (fun h23 qh23 => ?_) (fun h23 qh23 => ?_))
 ·have hp2 : scrP2 s.dat = false := by have h9 := h23; unfold scrP2 gridHas within; show ((((decide (0 ≤ s.X) && decide (s.X ≤ s.Main.W - 1)) && (decide (0 ≤ s.Y) && decide (s.Y ≤ s.Main.H - 1))) && ((decide (0 ≤ s.SaveX) && decide (s.SaveX ≤ s.Main.W - 1)) && (decide (0 ≤ s.SaveY) && decide (s.SaveY ≤ s.Main.H - 1)))) && ((!s.Wrap || decide (s.X = s.W - 1)) && (attrOk s.A.Fg s.A.Bg && attrOk s.SaveA.Fg s.SaveA.Bg))) = false; revert h9; cases s.Wrap <;> cases attrOk s.A.Fg s.A.Bg <;> cases attrOk s.SaveA.Fg s.SaveA.Bg <;> intro h9 <;> simp at h9 ⊢ <;> omega
  refine WC.r1 hs22 [] rfl (WC.ret (tkR ?_))
  clear hK11
  refine rtv rfl rfl hs22 ?_
  rw [scrOk_no (.inr (.inl hp2))]
 have hp2 : scrP2 s.dat = true := by have h9 := h23; unfold scrP2 gridHas within; show ((((decide (0 ≤ s.X) && decide (s.X ≤ s.Main.W - 1)) && (decide (0 ≤ s.Y) && decide (s.Y ≤ s.Main.H - 1))) && ((decide (0 ≤ s.SaveX) && decide (s.SaveX ≤ s.Main.W - 1)) && (decide (0 ≤ s.SaveY) && decide (s.SaveY ≤ s.Main.H - 1)))) && ((!s.Wrap || decide (s.X = s.W - 1)) && (attrOk s.A.Fg s.A.Bg && attrOk s.SaveA.Fg s.SaveA.Bg))) = true; revert h9; cases s.Wrap <;> cases attrOk s.A.Fg s.A.Bg <;> cases attrOk s.SaveA.Fg s.SaveA.Bg <;> intro h9 <;> simp at h9 ⊢ <;> omega
 refine WC.skip (hK11 _ _ (WC.seq (fun K24 hK24 => WC.sr (WL.r 4 hs22 [0] rfl (WL.pO tbk 5 Acts.nil hs22 [0, 0] rfl rfl rfl rfl (fun g_ => ⟨rfl, rfl, trivial⟩) (WL.r 1 hs22 [] rfl (WL.pO tbk 5 Acts.nil hs22 [0, 0] rfl rfl rfl rfl (fun g_ => ⟨rfl, rfl, trivial⟩) ?_)))))))
 refine WL.r 1 hs22 [] rfl ?_
 apply WL.gO 10 Acts.nil hs22 rfl
 ·intro g25 J26
  have qg25 := g25
  try simp only [bf, within_iff, within_not] at qg25
  refine WL.runA tbk 6 (Acts.nil.cons (j := 17) rfl g25) hs22 [0, 0] rfl ⟨rfl, rfl, trivial⟩ (WL.pA tbk 3 (Acts.nil.cons (j := 17) rfl g25) hs22 [0] rfl rfl rfl rfl (fun g_ => ⟨rfl, trivial⟩) (WL.eO 7 Acts.nil J26 hs22 g25 rfl rfl))
 intro _ hs27
 refine WL.r 1 hs27 [] rfl (WL.pO tbk 3 Acts.nil hs27 [0] rfl rfl rfl rfl (fun g_ => ⟨rfl, trivial⟩) (WL.r 1 hs27 [] rfl (WL.pO tbk 3 Acts.nil hs27 [0] rfl rfl rfl rfl (fun g_ => ⟨rfl, trivial⟩) (WL.r 1 hs27 [] rfl (WL.pO tbk 6 Acts.nil hs27 [0, 0] rfl rfl rfl rfl (fun g_ => ⟨rfl, rfl, trivial⟩) (WL.nil (WC.cq rfl (fun h28 qh28 => ?_) (fun h28 qh28 => ?_))))))))
 ·have hp34 : scrP3 s.dat = false ∨ scrP4 s.dat = false := by have h9 := h28; unfold scrP3 scrP4 within; show ((decide (0 ≤ s.Top) && decide (s.Top ≤ s.Bot)) && (decide (s.Bot < s.H) && (!decide (s.Top = s.Bot) || decide (s.H = 1)))) = false ∨ ((decide (0 ≤ s.Limit) && decide (s.Limit ≤ 100)) && decide (((s.Back.xs.map RowR.dat).length : Int) ≤ s.Limit)) = false; rw [List.length_map, nl_s_Back]; simp at h9 ⊢; omega
  refine WC.r1 hs27 [] rfl (WC.ret (tkR ?_))
  clear hK24
  refine rtv rfl rfl hs27 ?_
  rw [scrOk_no (.inr (.inr (hp34.elim .inl (fun h => .inr (.inl h)))))]
 have hp34 : scrP3 s.dat = true ∧ scrP4 s.dat = true := by have h9 := h28; unfold scrP3 scrP4 within; show ((decide (0 ≤ s.Top) && decide (s.Top ≤ s.Bot)) && (decide (s.Bot < s.H) && (!decide (s.Top = s.Bot) || decide (s.H = 1)))) = true ∧ ((decide (0 ≤ s.Limit) && decide (s.Limit ≤ 100)) && decide (((s.Back.xs.map RowR.dat).length : Int) ≤ s.Limit)) = true; rw [List.length_map, nl_s_Back]; simp at h9 ⊢; omega
 refine WC.skip (hK24 _ _ (WC.seq (fun K29 hK29 => WC.r1 hs27 [0] rfl (WC.block ?_))))
 refine WC.lS [1, 48, 118, 165, 167, 168] rfl hs27 (fun k_ f w' => ∃ (i : Nat), k_ = s.Tabs.n - i ∧ (i ≤ s.Tabs.n) ∧ (∀ j, j < i → ascAt s.Tabs.xs 0 (s.W - 1) j = true) ∧ Sub [(169, .int .i64 i)] f) ((fun (i : Nat) => s.Tabs.n - i) (0)) ?_ ?_
 ·refine ⟨0, rfl, ?_, ?_, ⟨rfl, trivial⟩⟩
  · exact Nat.zero_le _
  · exact fun j hj => absurd hj (by omega)
 clear hs27
 rintro _ f w ⟨i, rfl, p0, p1, hG⟩ hF hs30
 refine WC.sub _ (hG.app hF) ?_
 clear hG hF
 refine WC.r1 hs30 [] rfl (WC.seq (fun K31 hK31 => ?_))
 refine WC.cq rfl (fun h32 qh32 => ?_) (fun h32 qh32 => ?_)
 ·refine WC.skip (hK31 _ _ (WC.seq (fun K33 hK33 => WC.block (WC.sr (WL.r 1 hs30 [] rfl ?_)))))
  refine WL.val rfl rfl rfl (Run.idxN Try.runUnderlying28 Try.sizeOf3 rfl rfl rfl ?_ ?_ ?_) ?_
  · exact SlF.some_ (SlF.st0 f_s.Tabs hs30)
  · omega
  · omega
  refine WL.val rfl rfl rfl (Run.load Try.isAgg3 rfl rfl (SlF.one1 (SlF.st0 f_s.Tabs hs30) ?_ rfl)) ?_
  · omega
  refine WL.r 2 hs30 [] rfl (WL.nil (WC.sr (WL.r 3 hs30 [] rfl (WL.pO tbk 4 Acts.nil hs30 [0] rfl rfl rfl rfl (fun g_ => ⟨rfl, trivial⟩) (WL.r 1 hs30 [] rfl ?_)))))
  apply WL.gO 12 Acts.nil hs30 rfl
  ·intro g34 J35
   have qg34 := g34
   try simp only [bf, within_iff, within_not] at qg34
   refine WL.runA tbk 3 (Acts.nil.cons (j := 8) rfl g34) hs30 [] rfl trivial ?_
   apply WL.gA 8 (Acts.nil.cons (j := 8) rfl g34) hs30 rfl
   ·intro g36 J37
    have qg36 := g36
    try simp only [bf, within_iff, within_not] at qg36
    refine WL.runA tbk 4 (Acts.nil.cons (j := 11) rfl g36) hs30 [0] rfl ⟨by omega, rfl, trivial⟩ (WL.val (wantT rfl g36) rfl rfl (Run.idxK (i - 1) Try.runUnderlying28 Try.sizeOf3 rfl rfl rfl ?_ ?_ ?_) ?_)
    · exact SlF.some_ (SlF.st0 f_s.Tabs hs30)
    · omega
    · omega
    refine WL.val (wantT rfl g36) rfl rfl (Run.load Try.isAgg3 rfl rfl (SlF.one1 (SlF.st0 f_s.Tabs hs30) ?_ rfl)) ?_
    · omega
    refine WL.runA tbk 2 (Acts.nil.cons (j := 11) rfl g36) hs30 [] rfl trivial (WL.eA 8 (Acts.nil.cons (j := 8) rfl g34) J37 hs30 g36 rfl rfl)
   intro _ hs38
   exact WL.eO 4 Acts.nil J35 hs38 g34 rfl rfl
  intro _ hs39
  refine WL.nil (WC.cq rfl (fun h40 qh40 => ?_) (fun h40 qh40 => ?_))
  ·have ha : ascAt s.Tabs.xs 0 (s.W - 1) i = false := by unfold ascAt within iat; have h9 := h40; simp at h9 ⊢; omega
   refine WC.r1 hs39 [] rfl (WC.ret (ibR (tkR (tkR (ibR (tkR ?_))))))
   clear hK33 hK29
   refine rtv rfl rfl hs39 ?_
   rw [scrOk_no (.inr (.inr (.inr (.inr (.inl (isAsc_not (i := i) (by show i < s.Tabs.xs.length; omega) ha))))))]
  have ha : ascAt s.Tabs.xs 0 (s.W - 1) i = true := by unfold ascAt within iat; have h9 := h40; simp at h9 ⊢; omega
  refine WC.skip (hK33 _ _ (WC.region (WL.r 2 hs39 [] rfl (WL.nil (tkN ?_)))))
  refine ⟨sbF rfl, hs39, _, ?_, i + 1, rfl, ?_, ?_, ⟨rfl, trivial⟩⟩
  · omega
  · omega
  · intro j hj; rcases Nat.lt_or_ge j i with h_ | h_
    · exact p1 j h_
    · obtain rfl : j = i := by omega
      exact ha
 have hasc : isAsc s.dat.Tabs 0 (s.dat.W - 1) = true := isAsc_all (fun j hj => p1 j (by have : j < s.Tabs.xs.length := hj; omega))
 refine WC.exit (hK29 _ _ (WC.seq (fun K41 hK41 => WC.r1 hs30 [0] rfl (WC.block ?_))))
 refine WC.lS [48, 118, 165, 170, 198, 199] rfl hs30 (fun k_ f w' => ∃ (i : Nat), k_ = s.Back.n - i ∧ (i ≤ s.Back.n) ∧ (∀ j, j < i → rowOk (RowR.dat (gat encRowR s.Back.xs j)) = true) ∧ Sub [(200, .int .i64 i)] f) ((fun (i : Nat) => s.Back.n - i) (0)) ?_ ?_
 ·refine ⟨0, rfl, ?_, ?_, ⟨rfl, trivial⟩⟩
  · exact Nat.zero_le _
  · exact fun j hj => absurd hj (by omega)
 clear hs30
 rintro _ f w ⟨i, rfl, r0, r1, hG⟩ hF hs42
 refine WC.sub _ (hG.app hF) ?_
 clear hG hF
 refine WC.r1 hs42 [] rfl (WC.seq (fun K43 hK43 => ?_))
 refine WC.cq rfl (fun h44 qh44 => ?_) (fun h44 qh44 => ?_)
 ·refine WC.skip (hK43 _ _ (WC.seq (fun K45 hK45 => WC.block (WC.sr ?_))))
  refine WL.val rfl rfl rfl (Run.idxN Try.runUnderlying29 Try.sizeOf56 rfl rfl rfl ?_ ?_ ?_) ?_
  · exact SlF.some_ (SlF.st0 f_s.Back.sl hs42)
  · omega
  · omega
  refine WL.val rfl rfl rfl (Run.loadA Try.isAgg56 Try.sizeOf56 rfl rfl (SlF.whole (SlF.st0 f_s.Back.sl hs42) ?_)) ?_
  · omega
  refine WL.al hs42 Try.zeroValue56 rfl rfl (fun b46 _ hs47 => WL.st tbk hs47 0 rfl rfl (fun _ hs48 => WL.nil (WC.sr (WL.r 1 hs48 [0] rfl (WL.cl Try.call73 rfl (k32_ (gat encRowR s.Back.xs i) _ (okRowR.st0 (SlN.nth f_s.Back (by omega)) hs48)) ?_)))))
  rintro _ whs49 ⟨rfl, hs49⟩
  replace hs49 := hs48.call0 hs49
  refine ⟨_, rfl, WL.r 1 hs49 [] rfl (WL.nil (WC.cq rfl (fun h50 qh50 => ?_) (fun h50 qh50 => ?_)))⟩
  ·refine WC.r1 hs49 [] rfl (WC.ret (ibR (tkR (tkR (ibR (tkR ?_))))))
   clear hK45 hK41
   refine rtv rfl rfl hs49 ?_
   rw [scrOk_no (.inr (.inr (.inr (.inr (.inr (all_gat_not (F := encRowR) (j := i) (by omega) (by simpa using h50)))))))]
  refine WC.skip (hK45 _ _ (WC.region (WL.r 2 hs49 [] rfl (WL.nil (tkN ?_)))))
  refine ⟨sbF rfl, (hs49.drop (by repeat (first | exact List.Sublist.refl _ | exact List.sublist_append_left _ _ | exact List.Sublist.trans (List.sublist_append_left _ _) (List.sublist_append_left _ _) | apply List.Sublist.cons | refine List.Sublist.trans ?_ (sR _)))), _, ?_, i + 1, rfl, ?_, ?_, ⟨rfl, trivial⟩⟩
  · omega
  · omega
  · intro j hj; rcases Nat.lt_or_ge j i with h_ | h_
    · exact r1 j h_
    · obtain rfl : j = i := by omega
      simpa using h50
 refine WC.exit (hK41 _ _ (WC.r1 hs42 [] rfl (WC.ret (rtv rfl rfl hs42 ?_))))
 rw [scrOk_all hp1 hp2 hp34.1 hp34.2 hasc (all_gat (F := encRowR) (fun j hj => r1 j (by omega)))]
theorem inf56 : Try.prog.info? 56 = some Try.t56 := by kernel_rfl
theorem built_56_0 (x0 : Option Addr) (x1 : Nat) (x2 : Nat) : Try.prog.built 56 [(0, .slice x0 x1 x2)] = some (List.toArray [.slice x0 x1 x2]) := by kernel_rfl
theorem k34_ (A_s : Option Addr) (n_s c_s : Nat) (s : List CellD) (w : World) (f_s : SlF encCell w A_s n_s s) (hn : n_s ≤ 268435456) :
    Calls Try.prog 70 #[.slice A_s n_s c_s] w fun e w' => ∃ A c L1, e = .returned (.slice A (s).length c) ∧ St w [] L1 w' ∧ OwnF encCell 58 (.slice A (s).length c) (s) L1 := by
 have hl := f_s.len
 refine enter 8 Try.func70 rfl Try.ntmps70 rfl rfl ?_
 have hs1 := St.init w
 refine WC.r1 hs1 [] rfl (WC.seq (fun K2 hK2 => WC.sr (WL.r 1 hs1 [] rfl (WL.val rfl rfl rfl (Run.eqlNil Try.underlying23 rfl rfl rfl) (WL.nil ?_)))))
 refine WC.cq rfl (fun h3 qh3 => ?_) (fun h3 qh3 => ?_)
 ·obtain rfl : A_s = none := by simpa using qh3
  have h0 : n_s = 0 := SlF.none_ f_s
  have hs : s = [] := List.eq_nil_of_length_eq_zero (by omega)
  refine WC.r1 hs1 [] rfl (WC.ret (tkR ?_))
  clear hK2
  refine retV1 rfl (resV.tmp rfl) ?_
  have hx_ := OwnF.eqOf (xs := s) (OwnF.nil encCell 58) (by rw [hs])
  rw [← hx_]
  exact ⟨_, _, _, rfl, hs1.nil, (OwnF.nil encCell 58)⟩
 refine WC.skip (hK2 _ _ (WC.sr (WL.buildF (F := encCell) hs1 ([]) Try.runUnderlying23 Try.sizeOf58 Try.zeroValue58 rfl rfl rfl rfl rfl rfl rfl rfl rfl rfl rfl rfl (fun A7 c8 L4 whs5 hs5 ho6 => WL.r 1 hs5 [] rfl ?_))))
 refine WL.appendG hs5 ho6 (SlF.src (SlF.st0 f_s hs5) Try.underlying23) Try.underlying23 inf58 rfl rfl rfl rfl rfl rfl rfl rfl rfl rfl ?_ (fun A12 c13 L9 whs10 hs10 ho11 => ?_)
 · simp; omega
 refine WL.r 1 hs10 [] rfl (WL.nil (WC.ret (retV1 rfl (resV.tmp rfl) ?_)))
 have hx_ := OwnF.eqOf (xs := s) ho11 (by simp)
 rw [← hx_]
 first | exact ⟨_, _, _, rfl, (St.keep1 hs10), ho11⟩ | exact ⟨A12, c13, _, by rw [OwnF.len_ ho11], (St.keep1 hs10), by rw [OwnF.len_ ho11]; exact ho11⟩
theorem k35_ (g : GridR) (w : World) (f_g : okGridR 549755813888 w g) (hsm : smGrid 1048576 g.dat) :
    Calls Try.prog 36 #[.agg #[i64 g.W, i64 g.H, .slice g.Cells.A g.Cells.n g.Cells.c]] w fun e w' => ∃ r L1, e = .returned (.agg #[i64 r.W, i64 r.H, .slice r.Cells.A r.Cells.n r.Cells.c]) ∧ St w [] L1 w' ∧ ownGridR r L1 ∧ r.dat = g.dat := by
 have nb_g_Cells := f_g.Cells_n
 have nl_g_Cells := f_g.Cells.len
 have hl9 : g.Cells.xs.length ≤ 1048576 := hsm
 refine enter 11 Try.func36 rfl Try.ntmps36 rfl rfl ?_
 have hs1 := St.init w
 refine WC.sr (WL.bx hs1 rfl (fun b2 _ hs3 => WL.al hs3 Try.zeroValue25 rfl rfl (fun b4 _ hs5 => WL.nil (WC.seq (fun K6 hK6 => WC.rH hs5.d1 hs5 (fun _ hs7 => ?_))))))
 refine WH.rn [0, 1, 2, 3, 4, 5] hs7.d1 [0, 0, 0] rfl rfl (WH.o1 6 rfl (WL.cl Try.call70 rfl (k34_ _ _ _ _ _ (SlF.st0 f_g.Cells hs7) ?_) ?_))
 · first | assumption | rfl | omega
 rintro _ whs8 ⟨A9, c10, L1_11, rfl, hs8, ho12⟩
 replace hs8 := hs7.callF hs8
 refine ⟨_, rfl, ?_⟩
 replace hs8 := St.back [_, _] hs8
 refine WL.nil ⟨(hs8.d1.rm L1_11), ?_⟩
 refine WH.take 7 rfl (by kernel_rfl) rfl rfl rfl (hs8.d1.rm L1_11) (fun w_ hs_ => (Run.build rfl rfl rfl rfl (built_25_0_1_2 _ _ _ _ _))) ?_
 refine WH.o1 8 rfl (WL.st tbk hs8 0 rfl rfl (fun _ hs13 => WL.nil ⟨(hs13.d1.rm L1_11), WH.dn (hK6 _ _ (WC.ret (retV1 rfl (resV.cellA tbk hs13 0 rfl rfl rfl rfl) ?_)))⟩))
 refine ⟨⟨g.W, g.H, SlD.of ho12⟩, _, rfl, (St.keep1 (hs13.fr L1_11)), ?_, ?_⟩
 · exact ho12
 · rfl
theorem k36_ (s : ScrR) (w : World) (f_s : okScrR 549755813888 w s) (hsm : smScr 1048576 s.dat) :
    Calls Try.prog 62 #[.agg #[i64 s.W, i64 s.H, i64 s.Main.W, i64 s.Main.H, .slice s.Main.Cells.A s.Main.Cells.n s.Main.Cells.c, i64 s.Alt.W, i64 s.Alt.H, .slice s.Alt.Cells.A s.Alt.Cells.n s.Alt.Cells.c, .bool s.OnAlt, i64 s.X, i64 s.Y, .bool s.Wrap, i64 s.A.Fg, i64 s.A.Bg, .bool s.A.Bold, .bool s.A.Under, .bool s.A.Turn, i64 s.Top, i64 s.Bot, .bool s.NoWrap, .bool s.Hide, i64 s.SaveX, i64 s.SaveY, i64 s.SaveA.Fg, i64 s.SaveA.Bg, .bool s.SaveA.Bold, .bool s.SaveA.Under, .bool s.SaveA.Turn, .slice s.Tabs.A s.Tabs.n s.Tabs.c, i64 s.Limit, .slice s.Back.A s.Back.n s.Back.c]] w fun e w' => ∃ r L1, e = .returned (.agg #[i64 r.W, i64 r.H, i64 r.Main.W, i64 r.Main.H, .slice r.Main.Cells.A r.Main.Cells.n r.Main.Cells.c, i64 r.Alt.W, i64 r.Alt.H, .slice r.Alt.Cells.A r.Alt.Cells.n r.Alt.Cells.c, .bool r.OnAlt, i64 r.X, i64 r.Y, .bool r.Wrap, i64 r.A.Fg, i64 r.A.Bg, .bool r.A.Bold, .bool r.A.Under, .bool r.A.Turn, i64 r.Top, i64 r.Bot, .bool r.NoWrap, .bool r.Hide, i64 r.SaveX, i64 r.SaveY, i64 r.SaveA.Fg, i64 r.SaveA.Bg, .bool r.SaveA.Bold, .bool r.SaveA.Under, .bool r.SaveA.Turn, .slice r.Tabs.A r.Tabs.n r.Tabs.c, i64 r.Limit, .slice r.Back.A r.Back.n r.Back.c]) ∧ St w [] L1 w' ∧ ownScrR r L1 ∧ r.dat = s.dat := by
 have nb_s_Main_Cells := f_s.Main.Cells_n
 have nl_s_Main_Cells := f_s.Main.Cells.len
 have nb_s_Alt_Cells := f_s.Alt.Cells_n
 have nl_s_Alt_Cells := f_s.Alt.Cells.len
 have nb_s_Tabs := f_s.Tabs_n
 have nl_s_Tabs := f_s.Tabs.len
 have nb_s_Back := f_s.Back_n
 have nl_s_Back := f_s.Back.sl.len
 have hM : s.Main.Cells.xs.length ≤ 1048576 := hsm.1
 have hA : s.Alt.Cells.xs.length ≤ 1048576 := hsm.2.1
 have hT : s.Tabs.xs.length ≤ 1048576 := hsm.2.2.1
 have hB : s.Back.xs.length ≤ 1048576 := by have h_ := hsm.2.2.2.1; simpa [ScrR.dat] using h_
 have hR : ∀ y, y ∈ s.Back.xs → y.Cells.xs.length ≤ 1048576 := fun y hy => hsm.2.2.2.2 _ (List.mem_map_of_mem hy)
 refine enter 37 Try.func62 rfl Try.ntmps62 rfl rfl ?_
 have hs1 := St.init w
 refine WC.sr (WL.bx hs1 rfl (fun b2 _ hs3 => WL.al hs3 Try.zeroValue31 rfl rfl (fun b4 _ hs5 => WL.nil (WC.seq (fun K6 hK6 => WC.rG 10 (hs5.fb b2).d1 hs5 hs5 (fun _ hs7 => ?_))))))
 refine WG.rn [0, 1, 3, 4, 6, 7] hs7 [1, 1, 1] rfl rfl (WG.o1 2 rfl rfl (WL.cl Try.call36 rfl (k35_ s.Main _ (okGridR.st0 f_s.Main hs7) ?_) ?_))
 · first | assumption | rfl | omega | exact hsm.1 | exact hsm.2.1 | (exact Nat.le_trans hsm.1 (by decide)) | (exact Nat.le_trans hsm.2.1 (by decide)) | (have := hR _ (gat_mem (F := encRowR) (show i < s.Back.xs.length by omega)); omega)
 rintro _ whs8 ⟨r9, L1_10, rfl, hs8, ho11, hd12⟩
 replace hs8 := hs7.callF hs8
 refine ⟨_, rfl, ?_⟩
 replace hs8 := St.back [_, _] hs8
 refine WL.nil ⟨(hs8.rm L1_10), WG.rn [9] (hs8.rm L1_10) [] rfl rfl (WG.o1 5 rfl rfl (WL.cl Try.call36 rfl (k35_ s.Alt _ (okGridR.st0 f_s.Alt hs8) ?_) ?_))⟩
 · first | assumption | rfl | omega | exact hsm.1 | exact hsm.2.1 | (exact Nat.le_trans hsm.1 (by decide)) | (exact Nat.le_trans hsm.2.1 (by decide)) | (have := hR _ (gat_mem (F := encRowR) (show i < s.Back.xs.length by omega)); omega)
 rintro _ whs13 ⟨r14, L1_15, rfl, hs13, ho16, hd17⟩
 replace hs13 := hs8.callF hs13
 refine ⟨_, rfl, ?_⟩
 replace hs13 := St.back [_, _] hs13
 refine WL.nil ⟨((hs13.rm L1_15).rm L1_10), WG.o1 8 rfl rfl (WL.cl Try.call93 rfl (k11_ _ _ _ _ _ (SlF.st0 f_s.Tabs hs13) ?_) ?_)⟩
 · first | assumption | rfl | omega | exact hsm.1 | exact hsm.2.1 | (exact Nat.le_trans hsm.1 (by decide)) | (exact Nat.le_trans hsm.2.1 (by decide)) | (have := hR _ (gat_mem (F := encRowR) (show i < s.Back.xs.length by omega)); omega)
 rintro _ whs18 ⟨A19, c20, L1_21, rfl, hs18, ho22⟩
 replace hs18 := hs13.callF hs18
 refine ⟨_, rfl, ?_⟩
 replace hs18 := St.back [_, _] hs18
 refine WL.nil ⟨(((hs18.rm L1_21).rm L1_15).rm L1_10), WG.oK rfl (WL.st tbk hs18 1 rfl rfl (fun _ hs23 => WL.nil ⟨((((hs23.fb b2).d1.rm L1_21).rm L1_15).rm L1_10), WH.rn [11] ((((hs23.fb b2).d1.rm L1_21).rm L1_15).rm L1_10) [] rfl rfl (WH.o1 12 rfl (WL.st tbk hs23 1 rfl rfl (fun _ hs24 => WL.nil ⟨((((hs24.fb b2).d1.rm L1_21).rm L1_15).rm L1_10), ?_⟩)))⟩))⟩
 refine WH.rn [13] ((((hs24.fb b2).d1.rm L1_21).rm L1_15).rm L1_10) [] rfl rfl (WH.o1 14 rfl (WL.st tbk hs24 1 rfl rfl (fun _ hs25 => WL.nil ⟨((((hs25.fb b2).d1.rm L1_21).rm L1_15).rm L1_10), WH.dn (hK6 _ _ (WC.sr (WL.buildF (F := encRowR) hs25 ([]) Try.runUnderlying29 Try.sizeOf56 Try.zeroValue56 rfl rfl rfl rfl rfl rfl rfl rfl rfl rfl rfl rfl (fun A29 c30 L26 whs27 hs27 ho28 => ?_))))⟩)))
 replace hs27 := St.back [_, _] hs27
 obtain ⟨L31, hs32, ho33⟩ := OwnN.fresh (own := ownRowR) (hs27.fr L26) ho28 Bag.nil
 have hs34 := ((hs32.fb b2).fb b4)
 refine WL.r 1 hs34 [] rfl (WL.nil (WC.seq (fun K35 hK35 => WC.r1 hs34 [1] rfl (WC.block ?_))))
 have hM40 := (St.grp1 (L1 := L31) [] ((((((hs34.fr L1_10).fr L1_15).fr L1_21).fb b2).fb b4).fr L31))
 refine WC.lV [1, 2, 20, 21] rfl hM40 (fun k_ (a_ : Hp) f => ∃ (i : Nat) (rows_ : List RowR) (A36 : Option Addr) (c37 : Nat) (L38 : Hp), k_ = s.Back.n - i ∧ a_ = L38 ∧ (i ≤ s.Back.n) ∧ (rows_.map RowR.dat = (s.Back.xs.take i).map RowR.dat) ∧ (rows_.length = i) ∧ OwnN encRowR ownRowR 56 (.slice A36 (rows_).length c37) (rows_) L38 ∧ Sub [(3, .slice A36 (rows_).length c37), (22, .int .i64 i)] f) (((fun (i : Nat) (rows_ : List RowR) => s.Back.n - i) (0) ([]))) ?_ ?_
 ·refine ⟨0, [], A29, c30, L31, rfl, rfl, ?_, ?_, ?_, ho33, ⟨rfl, rfl, trivial⟩⟩
  · exact Nat.zero_le _
  · rfl
  · rfl
 rintro _ L38 f w ⟨i, rows_, A36, c37, _, rfl, rfl, p0, p1, p2, ho39, hG⟩ hF hs41
 refine WC.sub _ (hG.app hF) ?_
 clear hG hF
 replace hs41 := St.ungrp1 [] hs41
 have hs42 := ((hs41.fb b2).fb b4)
 refine WC.r1 hs42 [] rfl (WC.seq (fun K43 hK43 => ?_))
 refine WC.cD rfl (fun qh44 => ?_) (fun qh44 => ?_)
 ·have hnl := (SlN.nth f_s.Back (show i < s.Back.n by omega)).Cells.len
  refine WC.skip (hK43 _ _ (WC.seq (fun K45 hK45 => WC.block (WC.sr ?_))))
  refine WL.val rfl rfl rfl (Run.idxN Try.runUnderlying29 Try.sizeOf56 rfl rfl rfl ?_ ?_ ?_) ?_
  · exact SlF.some_ (SlF.st0 f_s.Back.sl hs42)
  · omega
  · omega
  refine WL.val rfl rfl rfl (Run.loadA Try.isAgg56 Try.sizeOf56 rfl rfl (SlF.whole (SlF.st0 f_s.Back.sl hs42) ?_)) ?_
  · omega
  refine WL.al hs42 Try.zeroValue56 rfl rfl (fun b46 _ hs47 => WL.st tbk hs47 0 rfl rfl (fun _ hs48 => WL.nil (WC.region (WL.r 3 hs48 [0] rfl ?_))))
  refine WL.cl Try.call70 rfl (k34_ _ _ _ _ _ (SlF.st0 (SlN.nth f_s.Back (by omega)).Cells hs48) ?_) ?_
  · first | assumption | rfl | omega | exact hsm.1 | exact hsm.2.1 | (exact Nat.le_trans hsm.1 (by decide)) | (exact Nat.le_trans hsm.2.1 (by decide)) | (have := hR _ (gat_mem (F := encRowR) (show i < s.Back.xs.length by omega)); omega)
  rintro _ whs49 ⟨A50, c51, L1_52, rfl, hs49, ho53⟩
  replace hs49 := hs48.callF hs49
  refine ⟨_, rfl, ?_⟩
  replace hs49 := St.back [_, _, _] hs49
  refine WL.val rfl rfl rfl (Run.build rfl rfl rfl rfl (built_56_0 _ _ _)) (WL.buildSlice hs49 Try.runUnderlying29 Try.sizeOf56 Try.zeroValue56 rfl rfl rfl rfl rfl rfl rfl rfl rfl rfl (fun b54 whs55 hs55 => ?_))
  obtain ⟨L56, L57, hs60, ho58, ho59⟩ := OwnN.open_ (hs55.fr L38) ho39
  have hs61 := ((((hs60.fb b2).fb b4).fb b46).fb b54)
  refine WL.appendG (hs61.fr L56) ho58 (srcF (F := encRowR) (ys := [(⟨SlD.of ho53⟩ : RowR)]) Try.underlying29 rfl rfl (hs61.own _ (nthL_mem (i := 0) rfl)).1) Try.underlying29 inf56 rfl rfl rfl rfl rfl rfl rfl rfl rfl rfl ?_ (fun A65 c66 L62 whs63 hs63 ho64 => ?_)
  · (try simp only [List.length_append, List.length_singleton, List.nil_append, List.length_nil]); first | omega | (have := hR _ (gat_mem (F := encRowR) (show i < s.Back.xs.length by omega)); omega)
  replace hs63 := St.back [_, _, _, _] hs63
  obtain ⟨L67, hs68, hb69⟩ := Bag.put (x := (⟨SlD.of ho53⟩ : RowR)) ((hs63.fr L1_52).fr L57) ho59 ho53
  have hs70 := ((((hs68.fb b2).fb b4).fb b46).fb b54)
  obtain ⟨L72, hs71, ho73⟩ := OwnN.fold ((hs70.fr L67).fr L62) ho64 hb69
  have hs74 := ((((hs71.fb b2).fb b4).fb b46).fb b54)
  refine WL.r 1 hs74 [] rfl (WL.nil (hK45 _ _ (WC.region (WL.r 2 hs74 [] rfl (WL.nil (tkN ?_))))))
  replace hs74 := hs74.d1.d1
  have hF75 := (St.grp1 (L1 := L72) [] ((((((hs74.fr L1_10).fr L1_15).fr L1_21).fb b2).fb b4).fr L72))
  refine ⟨sbF rfl, _, hF75, _, ?_, i + 1, ((rows_) ++ [(⟨SlD.of ho53⟩ : RowR)]), A65, c66, L72, rfl, rfl, ?_, ?_, ?_, ho73, ⟨rfl, rfl, trivial⟩⟩
  · omega
  · omega
  · rw [List.map_append, p1, map_take_succ (F := encRowR) (by omega)]; congr 1
  · simp only [List.length_append, List.length_singleton]; omega
 refine WC.exit (hK35 _ _ (WC.sr (WL.r 2 hs42 [] rfl (WL.st tbk hs42 1 rfl rfl (fun _ hs76 => WL.nil (WC.sr (WL.r 1 hs76 [1] rfl ?_)))))))
 refine WL.st tbk hs76 0 rfl rfl (fun _ hs77 => WL.nil (WC.ret (retV1 rfl (resV.cellA tbk hs77 0 rfl rfl rfl rfl) ?_)))
 have hi_ : i = s.Back.n := by omega
 have hbk : rows_.map RowR.dat = s.dat.Back := by rw [p1, List.take_of_length_le (by omega)]; rfl
 obtain ⟨L79, hs78, ho80⟩ := ownScrR.fl hs77 ho11 ho16 ho22 ho39
 have hs81 := ((hs78.fb b2).fb b4)
 refine ownScrR.ret rfl (St.keep1 (hs81.fr L79)) ho80 ?_
 · exact ScrD.ext' rfl rfl hd12 hd17 rfl rfl rfl rfl rfl rfl rfl rfl rfl rfl rfl rfl rfl rfl hbk
theorem k37_ (s : ScrR) (w : World) (f_s : okScrR 549755813888 w s) (hsm : smScr 1048576 s.dat) :
    Calls Try.prog 86 #[.agg #[i64 s.W, i64 s.H, i64 s.Main.W, i64 s.Main.H, .slice s.Main.Cells.A s.Main.Cells.n s.Main.Cells.c, i64 s.Alt.W, i64 s.Alt.H, .slice s.Alt.Cells.A s.Alt.Cells.n s.Alt.Cells.c, .bool s.OnAlt, i64 s.X, i64 s.Y, .bool s.Wrap, i64 s.A.Fg, i64 s.A.Bg, .bool s.A.Bold, .bool s.A.Under, .bool s.A.Turn, i64 s.Top, i64 s.Bot, .bool s.NoWrap, .bool s.Hide, i64 s.SaveX, i64 s.SaveY, i64 s.SaveA.Fg, i64 s.SaveA.Bg, .bool s.SaveA.Bold, .bool s.SaveA.Under, .bool s.SaveA.Turn, .slice s.Tabs.A s.Tabs.n s.Tabs.c, i64 s.Limit, .slice s.Back.A s.Back.n s.Back.c]] w fun e w' => ∃ r L1, e = .returned (.agg #[i64 r.W, i64 r.H, i64 r.Main.W, i64 r.Main.H, .slice r.Main.Cells.A r.Main.Cells.n r.Main.Cells.c, i64 r.Alt.W, i64 r.Alt.H, .slice r.Alt.Cells.A r.Alt.Cells.n r.Alt.Cells.c, .bool r.OnAlt, i64 r.X, i64 r.Y, .bool r.Wrap, i64 r.A.Fg, i64 r.A.Bg, .bool r.A.Bold, .bool r.A.Under, .bool r.A.Turn, i64 r.Top, i64 r.Bot, .bool r.NoWrap, .bool r.Hide, i64 r.SaveX, i64 r.SaveY, i64 r.SaveA.Fg, i64 r.SaveA.Bg, .bool r.SaveA.Bold, .bool r.SaveA.Under, .bool r.SaveA.Turn, .slice r.Tabs.A r.Tabs.n r.Tabs.c, i64 r.Limit, .slice r.Back.A r.Back.n r.Back.c]) ∧ St w [] L1 w' ∧ ownScrR r L1 ∧ r.dat = s.dat := by
 have nb_s_Main_Cells := f_s.Main.Cells_n
 have nl_s_Main_Cells := f_s.Main.Cells.len
 have nb_s_Alt_Cells := f_s.Alt.Cells_n
 have nl_s_Alt_Cells := f_s.Alt.Cells.len
 have nb_s_Tabs := f_s.Tabs_n
 have nl_s_Tabs := f_s.Tabs.len
 have nb_s_Back := f_s.Back_n
 have nl_s_Back := f_s.Back.sl.len
 have hM : s.Main.Cells.xs.length ≤ 1048576 := hsm.1
 have hA : s.Alt.Cells.xs.length ≤ 1048576 := hsm.2.1
 have hT : s.Tabs.xs.length ≤ 1048576 := hsm.2.2.1
 have hB : s.Back.xs.length ≤ 1048576 := by have h_ := hsm.2.2.2.1; simpa [ScrR.dat] using h_
 have hR : ∀ y, y ∈ s.Back.xs → y.Cells.xs.length ≤ 1048576 := fun y hy => hsm.2.2.2.2 _ (List.mem_map_of_mem hy)
 refine enter 39 Try.func86 rfl Try.ntmps86 rfl rfl ?_
 have hs1 := St.init w
 refine WC.sr (WL.bx hs1 rfl (fun b2 _ hs3 => WL.al hs3 Try.zeroValue31 rfl rfl (fun b4 _ hs5 => WL.nil (WC.sr (WL.r 2 hs5 [1] rfl ?_)))))
 refine WL.cl Try.call39 rfl (k19_ s.Main _ (okGridR.st0 f_s.Main hs5) ?_) ?_
 · first | assumption | rfl | omega | exact hsm.1 | exact hsm.2.1 | (exact Nat.le_trans hsm.1 (by decide)) | (exact Nat.le_trans hsm.2.1 (by decide)) | (have := hR _ (gat_mem (F := encRowR) (show i < s.Back.xs.length by omega)); omega)
 rintro _ whs6 ⟨r7, L1_8, rfl, hs6, ho9, hd10⟩
 replace hs6 := hs5.callF hs6
 refine ⟨_, rfl, ?_⟩
 replace hs6 := St.back [_, _] hs6
 refine WL.r 1 hs6 [] rfl (WL.st tbk hs6 1 rfl rfl (fun _ hs11 => WL.nil (WC.sr (WL.r 2 hs11 [1] rfl ?_))))
 refine WL.cl Try.call39 rfl (k19_ s.Alt _ (okGridR.st0 f_s.Alt hs11) ?_) ?_
 · first | assumption | rfl | omega | exact hsm.1 | exact hsm.2.1 | (exact Nat.le_trans hsm.1 (by decide)) | (exact Nat.le_trans hsm.2.1 (by decide)) | (have := hR _ (gat_mem (F := encRowR) (show i < s.Back.xs.length by omega)); omega)
 rintro _ whs12 ⟨r13, L1_14, rfl, hs12, ho15, hd16⟩
 replace hs12 := hs11.callF hs12
 refine ⟨_, rfl, ?_⟩
 replace hs12 := St.back [_, _] hs12
 refine WL.r 1 hs12 [] rfl (WL.st tbk hs12 1 rfl rfl (fun _ hs17 => WL.nil (WC.sr (WL.buildF (F := encI) hs17 ([]) Try.runUnderlying28 Try.sizeOf3 Try.zeroValue3 rfl rfl rfl rfl rfl rfl rfl rfl rfl rfl rfl rfl (fun A21 c22 L18 whs19 hs19 ho20 => ?_)))))
 replace hs19 := St.back [_, _] hs19
 refine WL.r 2 hs19 [1] rfl (WL.appendG (hs19.fr L18) ho20 (SlF.src (SlF.st0 f_s.Tabs hs19) Try.underlying28) Try.underlying28 inf3 rfl rfl rfl rfl rfl rfl rfl rfl rfl rfl ?_ (fun A26 c27 L23 whs24 hs24 ho25 => ?_))
 · (try simp only [List.length_append, List.length_singleton, List.nil_append, List.length_nil]); first | omega | (have := hR _ (gat_mem (F := encRowR) (show i < s.Back.xs.length by omega)); omega)
 replace hs24 := St.back [_, _] hs24
 refine WL.r 1 hs24 [] rfl (WL.st tbk hs24 1 rfl rfl (fun _ hs28 => WL.nil (WC.sr (WL.buildF (F := encRowR) hs28 ([]) Try.runUnderlying29 Try.sizeOf56 Try.zeroValue56 rfl rfl rfl rfl rfl rfl rfl rfl rfl rfl rfl rfl (fun A32 c33 L29 whs30 hs30 ho31 => ?_)))))
 replace hs30 := St.back [_, _] hs30
 obtain ⟨L34, hs35, ho36⟩ := OwnN.fresh (own := ownRowR) (hs30.fr L29) ho31 Bag.nil
 have hs37 := ((hs35.fb b2).fb b4)
 refine WL.r 1 hs37 [] rfl (WL.nil (WC.seq (fun K38 hK38 => WC.r1 hs37 [1] rfl (WC.block ?_))))
 have hM43 := (St.grp1 (L1 := L34) [] ((((((hs37.fr L1_8).fr L1_14).fr L23).fb b2).fb b4).fr L34))
 refine WC.lV [1, 2, 21, 22] rfl hM43 (fun k_ (a_ : Hp) f => ∃ (i : Nat) (rows_ : List RowR) (A39 : Option Addr) (c40 : Nat) (L41 : Hp), k_ = s.Back.n - i ∧ a_ = L41 ∧ (i ≤ s.Back.n) ∧ (rows_.map RowR.dat = (s.Back.xs.take i).map RowR.dat) ∧ (rows_.length = i) ∧ OwnN encRowR ownRowR 56 (.slice A39 (rows_).length c40) (rows_) L41 ∧ Sub [(3, .slice A39 (rows_).length c40), (23, .int .i64 i)] f) (((fun (i : Nat) (rows_ : List RowR) => s.Back.n - i) (0) ([]))) ?_ ?_
 ·refine ⟨0, [], A32, c33, L34, rfl, rfl, ?_, ?_, ?_, ho36, ⟨rfl, rfl, trivial⟩⟩
  · exact Nat.zero_le _
  · rfl
  · rfl
 rintro _ L41 f w ⟨i, rows_, A39, c40, _, rfl, rfl, p0, p1, p2, ho42, hG⟩ hF hs44
 refine WC.sub _ (hG.app hF) ?_
 clear hG hF
 replace hs44 := St.ungrp1 [] hs44
 have hs45 := ((hs44.fb b2).fb b4)
 refine WC.r1 hs45 [] rfl (WC.seq (fun K46 hK46 => ?_))
 refine WC.cD rfl (fun qh47 => ?_) (fun qh47 => ?_)
 ·have hnl := (SlN.nth f_s.Back (show i < s.Back.n by omega)).Cells.len
  refine WC.skip (hK46 _ _ (WC.seq (fun K48 hK48 => WC.block (WC.sr ?_))))
  refine WL.val rfl rfl rfl (Run.idxN Try.runUnderlying29 Try.sizeOf56 rfl rfl rfl ?_ ?_ ?_) ?_
  · exact SlF.some_ (SlF.st0 f_s.Back.sl hs45)
  · omega
  · omega
  refine WL.val rfl rfl rfl (Run.loadA Try.isAgg56 Try.sizeOf56 rfl rfl (SlF.whole (SlF.st0 f_s.Back.sl hs45) ?_)) ?_
  · omega
  refine WL.al hs45 Try.zeroValue56 rfl rfl (fun b49 _ hs50 => WL.st tbk hs50 0 rfl rfl (fun _ hs51 => WL.nil (WC.region (WL.r 1 hs51 [] rfl (WL.buildF (F := encCell) hs51 ([]) Try.runUnderlying23 Try.sizeOf58 Try.zeroValue58 rfl rfl rfl rfl rfl rfl rfl rfl rfl rfl rfl rfl (fun A55 c56 L52 whs53 hs53 ho54 => ?_))))))
  replace hs53 := St.back [_, _, _] hs53
  refine WL.r 2 hs53 [0] rfl (WL.appendG (hs53.fr L52) ho54 (SlF.src (SlF.st0 (SlN.nth f_s.Back (by omega)).Cells hs53) Try.underlying23) Try.underlying23 inf58 rfl rfl rfl rfl rfl rfl rfl rfl rfl rfl ?_ (fun A60 c61 L57 whs58 hs58 ho59 => ?_))
  · (try simp only [List.length_append, List.length_singleton, List.nil_append, List.length_nil]); first | omega | (have := hR _ (gat_mem (F := encRowR) (show i < s.Back.xs.length by omega)); omega)
  replace hs58 := St.back [_, _, _] hs58
  refine WL.val rfl rfl rfl (Run.build rfl rfl rfl rfl (built_56_0 _ _ _)) (WL.buildSlice hs58 Try.runUnderlying29 Try.sizeOf56 Try.zeroValue56 rfl rfl rfl rfl rfl rfl rfl rfl rfl rfl (fun b62 whs63 hs63 => ?_))
  obtain ⟨L64, L65, hs68, ho66, ho67⟩ := OwnN.open_ (hs63.fr L41) ho42
  have hs69 := ((((hs68.fb b2).fb b4).fb b49).fb b62)
  refine WL.appendG (hs69.fr L64) ho66 (srcF (F := encRowR) (ys := [(⟨SlD.of ho59⟩ : RowR)]) Try.underlying29 rfl rfl (hs69.own _ (nthL_mem (i := 0) rfl)).1) Try.underlying29 inf56 rfl rfl rfl rfl rfl rfl rfl rfl rfl rfl ?_ (fun A73 c74 L70 whs71 hs71 ho72 => ?_)
  · (try simp only [List.length_append, List.length_singleton, List.nil_append, List.length_nil]); first | omega | (have := hR _ (gat_mem (F := encRowR) (show i < s.Back.xs.length by omega)); omega)
  replace hs71 := St.back [_, _, _, _] hs71
  obtain ⟨L75, hs76, hb77⟩ := Bag.put (x := (⟨SlD.of ho59⟩ : RowR)) ((hs71.fr L57).fr L65) ho67 ho59
  have hs78 := ((((hs76.fb b2).fb b4).fb b49).fb b62)
  obtain ⟨L80, hs79, ho81⟩ := OwnN.fold ((hs78.fr L75).fr L70) ho72 hb77
  have hs82 := ((((hs79.fb b2).fb b4).fb b49).fb b62)
  refine WL.r 1 hs82 [] rfl (WL.nil (hK48 _ _ (WC.region (WL.r 2 hs82 [] rfl (WL.nil (tkN ?_))))))
  replace hs82 := hs82.d1.d1
  have hF83 := (St.grp1 (L1 := L80) [] ((((((hs82.fr L1_8).fr L1_14).fr L23).fb b2).fb b4).fr L80))
  refine ⟨sbF rfl, _, hF83, _, ?_, i + 1, ((rows_) ++ [(⟨SlD.of ho59⟩ : RowR)]), A73, c74, L80, rfl, rfl, ?_, ?_, ?_, ho81, ⟨rfl, rfl, trivial⟩⟩
  · omega
  · omega
  · rw [List.map_append, p1, map_take_succ (F := encRowR) (by omega)]; congr 1
  · simp only [List.length_append, List.length_singleton]; omega
 refine WC.exit (hK38 _ _ (WC.sr (WL.r 2 hs45 [] rfl (WL.st tbk hs45 1 rfl rfl (fun _ hs84 => WL.nil (WC.sr (WL.r 1 hs84 [1] rfl ?_)))))))
 refine WL.st tbk hs84 0 rfl rfl (fun _ hs85 => WL.nil (WC.ret (retV1 rfl (resV.cellA tbk hs85 0 rfl rfl rfl rfl) ?_)))
 have hi_ : i = s.Back.n := by omega
 have hbk : rows_.map RowR.dat = s.dat.Back := by rw [p1, List.take_of_length_le (by omega)]; rfl
 obtain ⟨L87, hs86, ho88⟩ := ownScrR.fl hs85 ho9 ho15 ho25 ho42
 have hs89 := ((hs86.fb b2).fb b4)
 refine ownScrR.ret rfl (St.keep1 (hs89.fr L87)) ho88 ?_
 · exact ScrD.ext' rfl rfl hd10 hd16 rfl rfl rfl rfl rfl rfl rfl rfl rfl rfl rfl rfl rfl rfl hbk
theorem k38_ (g : GridR) (y : Int) (w : World) (f_g : okGridR 549755813888 w g) (h0 : 0 ≤ y * g.W) (h1 : y * g.W ≤ (y + 1) * g.W) (h2 : (y + 1) * g.W ≤ g.Cells.n) (h3 : -1 ≤ y ∧ y ≤ 1048576) :
    Calls Try.prog 79 #[.agg #[i64 g.W, i64 g.H, .slice g.Cells.A g.Cells.n g.Cells.c], i64 y] w fun e w' => e = .returned (.slice (cutA g.Cells.A (y * g.W).toNat 6 g.Cells.c) (((y + 1) * g.W).toNat - (y * g.W).toNat) (g.Cells.c - (y * g.W).toNat)) ∧ St w [] [] w' := by
 have nb_g_Cells := f_g.Cells_n
 have nl_g_Cells := f_g.Cells.len
 have hcap := f_g.Cells_c
 refine enter 17 Try.func79 rfl Try.ntmps79 rfl rfl ?_
 have hs1 := St.init w
 refine WC.sr (WL.bx hs1 rfl (fun b2 _ hs3 => WL.r 1 hs3 [] rfl (WL.nil (WC.sr (WL.r 11 hs3 [0, 0, 0] rfl ?_)))))
 refine WL.val rfl rfl rfl (Run.sliceLH ((y * g.W).toNat) (((y + 1) * g.W).toNat) Try.runUnderlying23 Try.sizeOf58 rfl rfl rfl rfl ?_ ?_ ?_) ?_
 · first | rfl | (omega)
 · first | rfl | (omega)
 · refine ⟨?_, ?_, ?_⟩ <;> (omega)
 refine WL.r 1 hs3 [] rfl (WL.nil (WC.ret (rtv rfl rfl hs3 ?_)))
 rfl
theorem k39_ (n : Int) (w : World) :
    Calls Try.prog 125 #[i64 n] w fun e w' => e = .returned (.bool (within n (-100000) 100000)) ∧ St w [] [] w' := by
 refine enter 9 Try.func125 rfl Try.ntmps125 rfl rfl ?_
 have hs1 := St.init w
 refine WC.r1 hs1 [] rfl (WC.sr (WL.r 3 hs1 [] rfl (WL.pA tbk 2 Acts.nil hs1 [] rfl rfl rfl rfl (fun g_ => trivial) (WL.r 1 hs1 [] rfl (WL.nil (WC.ret (retV1 rfl (resV.tmp rfl) ?_)))))))
 refine ⟨congrArg Ending.returned ?_, hs1.nil⟩
 rfl
theorem k40_ (n hi : Int) (w : World) :
    Calls Try.prog 91 #[i64 n, i64 hi] w fun e w' => e = .returned (.int .i64 (if n < 0 then 0 else min n hi)) ∧ St w [] [] w' := by
 refine enter 12 Try.func91 rfl Try.ntmps91 rfl rfl ?_
 have hs1 := St.init w
 refine WC.r1 hs1 [] rfl (WC.seq (fun K2 hK2 => WC.r1 hs1 [] rfl ?_))
 refine WC.cD rfl (fun qh3 => ?_) (fun qh3 => ?_)
 ·refine WC.r1 hs1 [] rfl (WC.ret (tkR ?_))
  clear hK2
  refine rtv rfl rfl hs1 ?_
  congr 1; (repeat' split) <;> omega
 refine WC.skip (hK2 _ _ (WC.seq (fun K4 hK4 => WC.r1 hs1 [] rfl ?_)))
 refine WC.cD rfl (fun qh5 => ?_) (fun qh5 => ?_)
 ·refine WC.r1 hs1 [] rfl (WC.ret (tkR ?_))
  clear hK4
  refine rtv rfl rfl hs1 ?_
  congr 1; (repeat' split) <;> omega
 refine WC.skip (hK4 _ _ (WC.r1 hs1 [] rfl (WC.ret (rtv rfl rfl hs1 ?_))))
 congr 1; (repeat' split) <;> omega
theorem k41_ (s : ScrR) (w : World) (f_s : okScrR 549755813888 w s) :
    Calls Try.prog 40 #[.agg #[i64 s.W, i64 s.H, i64 s.Main.W, i64 s.Main.H, .slice s.Main.Cells.A s.Main.Cells.n s.Main.Cells.c, i64 s.Alt.W, i64 s.Alt.H, .slice s.Alt.Cells.A s.Alt.Cells.n s.Alt.Cells.c, .bool s.OnAlt, i64 s.X, i64 s.Y, .bool s.Wrap, i64 s.A.Fg, i64 s.A.Bg, .bool s.A.Bold, .bool s.A.Under, .bool s.A.Turn, i64 s.Top, i64 s.Bot, .bool s.NoWrap, .bool s.Hide, i64 s.SaveX, i64 s.SaveY, i64 s.SaveA.Fg, i64 s.SaveA.Bg, .bool s.SaveA.Bold, .bool s.SaveA.Under, .bool s.SaveA.Turn, .slice s.Tabs.A s.Tabs.n s.Tabs.c, i64 s.Limit, .slice s.Back.A s.Back.n s.Back.c]] w fun e w' => e = .returned (.agg #[i64 (shownR s).W, i64 (shownR s).H, .slice (shownR s).Cells.A (shownR s).Cells.n (shownR s).Cells.c]) ∧ St w [] [] w' := by
 have nb_s_Main_Cells := f_s.Main.Cells_n
 have nl_s_Main_Cells := f_s.Main.Cells.len
 have nb_s_Alt_Cells := f_s.Alt.Cells_n
 have nl_s_Alt_Cells := f_s.Alt.Cells.len
 have nb_s_Tabs := f_s.Tabs_n
 have nl_s_Tabs := f_s.Tabs.len
 have nb_s_Back := f_s.Back_n
 have nl_s_Back := f_s.Back.sl.len
 refine enter 9 Try.func40 rfl Try.ntmps40 rfl rfl ?_
 have hs1 := St.init w
 refine WC.sr (WL.bx hs1 rfl (fun b2 _ hs3 => WL.al hs3 Try.zeroValue25 rfl rfl (fun b4 _ hs5 => WL.nil (WC.seq (fun K6 hK6 => WC.r1 hs5 [1] rfl ?_)))))
 refine WC.cq rfl (fun h7 qh7 => ?_) (fun h7 qh7 => ?_)
 ·refine WC.sr (WL.r 2 hs5 [1] rfl (WL.st tbk hs5 0 rfl rfl (fun _ hs8 => WL.nil (WC.ret (tkR ?_)))))
  clear hK6
  refine retV1 rfl (resV.cellA tbk hs8 0 rfl rfl rfl rfl) (⟨congrArg Ending.returned ?_, hs8.nil⟩)
  rw [shownR_alt (by have h9 := h7; simpa using h9)]
 refine WC.skip (hK6 _ _ (WC.sr (WL.r 2 hs5 [1] rfl (WL.st tbk hs5 0 rfl rfl (fun _ hs9 => WL.nil (WC.ret (retV1 rfl (resV.cellA tbk hs9 0 rfl rfl rfl rfl) ?_)))))))
 refine ⟨congrArg Ending.returned ?_, hs9.nil⟩
 rw [shownR_main (by have h9 := h7; simpa using h9)]
theorem k42_ (s : ScrR) (L_s : Hp) (g : GridR) (L_g : Hp) (w : World) (o_s : ownScrR s L_s) (h_s : Hh w L_s) (o_g : ownGridR g L_g) (h_g : Hh w L_g) (hd_ : ((L_s ++ L_g).map (·.1)).Nodup) :
    Calls Try.prog 89 #[.agg #[i64 s.W, i64 s.H, i64 s.Main.W, i64 s.Main.H, .slice s.Main.Cells.A s.Main.Cells.n s.Main.Cells.c, i64 s.Alt.W, i64 s.Alt.H, .slice s.Alt.Cells.A s.Alt.Cells.n s.Alt.Cells.c, .bool s.OnAlt, i64 s.X, i64 s.Y, .bool s.Wrap, i64 s.A.Fg, i64 s.A.Bg, .bool s.A.Bold, .bool s.A.Under, .bool s.A.Turn, i64 s.Top, i64 s.Bot, .bool s.NoWrap, .bool s.Hide, i64 s.SaveX, i64 s.SaveY, i64 s.SaveA.Fg, i64 s.SaveA.Bg, .bool s.SaveA.Bold, .bool s.SaveA.Under, .bool s.SaveA.Turn, .slice s.Tabs.A s.Tabs.n s.Tabs.c, i64 s.Limit, .slice s.Back.A s.Back.n s.Back.c], .agg #[i64 g.W, i64 g.H, .slice g.Cells.A g.Cells.n g.Cells.c]] w fun e w' => ∃ r L1, e = .returned (.agg #[i64 r.W, i64 r.H, i64 r.Main.W, i64 r.Main.H, .slice r.Main.Cells.A r.Main.Cells.n r.Main.Cells.c, i64 r.Alt.W, i64 r.Alt.H, .slice r.Alt.Cells.A r.Alt.Cells.n r.Alt.Cells.c, .bool r.OnAlt, i64 r.X, i64 r.Y, .bool r.Wrap, i64 r.A.Fg, i64 r.A.Bg, .bool r.A.Bold, .bool r.A.Under, .bool r.A.Turn, i64 r.Top, i64 r.Bot, .bool r.NoWrap, .bool r.Hide, i64 r.SaveX, i64 r.SaveY, i64 r.SaveA.Fg, i64 r.SaveA.Bg, .bool r.SaveA.Bold, .bool r.SaveA.Under, .bool r.SaveA.Turn, .slice r.Tabs.A r.Tabs.n r.Tabs.c, i64 r.Limit, .slice r.Back.A r.Back.n r.Back.c]) ∧ St w ((L_s ++ L_g).map (·.1)) L1 w' ∧ ownScrR r L1 ∧ r.dat = putD s.dat g.dat := by
 refine enter 12 Try.func89 rfl Try.ntmps89 rfl rfl ?_
 have hs1 := St.takes2 w L_s L_g h_s h_g hd_
 refine WC.sr (WL.bx hs1 rfl (fun b2 _ hs3 => WL.bx hs3 rfl (fun b4 _ hs5 => WL.al hs5 Try.zeroValue31 rfl rfl (fun b6 _ hs7 => WL.nil (WC.seq (fun K8 hK8 => WC.r1 hs7 [2] rfl ?_))))))
 refine WC.cq rfl (fun h9 qh9 => ?_) (fun h9 qh9 => ?_)
 ·refine WC.region (WL.r 2 hs7 [1] rfl (WL.st tbk hs7 2 rfl rfl (fun _ hs10 => WL.nil (hK8 _ _ (WC.sr (WL.r 1 hs10 [2] rfl (WL.st tbk hs10 0 rfl rfl (fun _ hs11 => ?_))))))))
  refine WL.nil (WC.ret (retV1 rfl (resV.cellA tbk hs11 0 rfl rfl rfl rfl) ?_))
  obtain ⟨L12, L13, L14, L15, hs20, ho16, ho17, ho18, ho19⟩ := ownScrR.op hs11 o_s
  have hs21 := (((hs20.fb b2).fb b4).fb b6)
  obtain ⟨L23, hs22, ho24⟩ := ownScrR.fl hs21 ho16 o_g ho18 ho19
  have hs25 := (((hs22.fb b2).fb b4).fb b6)
  refine ownScrR.ret rfl (St.keep1 (hs25.fr L23)) ho24 ?_
  · rw [putD, if_pos (show s.dat.OnAlt = true from by show s.OnAlt = true; have h9 := h9; simpa using h9)]; rfl
 refine WC.region (WL.r 2 hs7 [1] rfl (WL.st tbk hs7 2 rfl rfl (fun _ hs26 => WL.nil (hK8 _ _ (WC.sr (WL.r 1 hs26 [2] rfl (WL.st tbk hs26 0 rfl rfl (fun _ hs27 => ?_))))))))
 refine WL.nil (WC.ret (retV1 rfl (resV.cellA tbk hs27 0 rfl rfl rfl rfl) ?_))
 obtain ⟨L28, L29, L30, L31, hs36, ho32, ho33, ho34, ho35⟩ := ownScrR.op hs27 o_s
 have hs37 := (((hs36.fb b2).fb b4).fb b6)
 obtain ⟨L39, hs38, ho40⟩ := ownScrR.fl hs37 o_g ho33 ho34 ho35
 have hs41 := (((hs38.fb b2).fb b4).fb b6)
 refine ownScrR.ret rfl (St.keep1 (hs41.fr L39)) ho40 ?_
 · rw [putD, if_neg (show ¬ s.dat.OnAlt = true from by show ¬ s.OnAlt = true; have h9 := h9; simpa using h9)]; rfl
theorem k43_ (b_s : Nat) (s : ScrR) (L_s : Hp) (w : World) (hb_s : w.heap[b_s]? = some (Obj.cells (List.toArray [i64 s.W, i64 s.H, i64 s.Main.W, i64 s.Main.H, .slice s.Main.Cells.A s.Main.Cells.n s.Main.Cells.c, i64 s.Alt.W, i64 s.Alt.H, .slice s.Alt.Cells.A s.Alt.Cells.n s.Alt.Cells.c, .bool s.OnAlt, i64 s.X, i64 s.Y, .bool s.Wrap, i64 s.A.Fg, i64 s.A.Bg, .bool s.A.Bold, .bool s.A.Under, .bool s.A.Turn, i64 s.Top, i64 s.Bot, .bool s.NoWrap, .bool s.Hide, i64 s.SaveX, i64 s.SaveY, i64 s.SaveA.Fg, i64 s.SaveA.Bg, .bool s.SaveA.Bold, .bool s.SaveA.Under, .bool s.SaveA.Turn, .slice s.Tabs.A s.Tabs.n s.Tabs.c, i64 s.Limit, .slice s.Back.A s.Back.n s.Back.c]) 31 (0, 0))) (o_s : ownScrR s L_s) (h_s : Hh w L_s) (hd_ : (b_s :: L_s.map (·.1)).Nodup) (hx : s.OnAlt = false) :
    Calls Try.prog 37 #[.pointer (some ⟨b_s, 0, none⟩)] w fun e w' => ∃ r L1, e = .returned (.pointer (some ⟨b_s, 2, none⟩)) ∧ St w (b_s :: L_s.map (·.1)) ([(b_s, Obj.cells (List.toArray [i64 r.W, i64 r.H, i64 r.Main.W, i64 r.Main.H, .slice r.Main.Cells.A r.Main.Cells.n r.Main.Cells.c, i64 r.Alt.W, i64 r.Alt.H, .slice r.Alt.Cells.A r.Alt.Cells.n r.Alt.Cells.c, .bool r.OnAlt, i64 r.X, i64 r.Y, .bool r.Wrap, i64 r.A.Fg, i64 r.A.Bg, .bool r.A.Bold, .bool r.A.Under, .bool r.A.Turn, i64 r.Top, i64 r.Bot, .bool r.NoWrap, .bool r.Hide, i64 r.SaveX, i64 r.SaveY, i64 r.SaveA.Fg, i64 r.SaveA.Bg, .bool r.SaveA.Bold, .bool r.SaveA.Under, .bool r.SaveA.Turn, .slice r.Tabs.A r.Tabs.n r.Tabs.c, i64 r.Limit, .slice r.Back.A r.Back.n r.Back.c]) 31 (0, 0))] ++ L1) w' ∧ ownScrR r L1 ∧ r.dat = s.dat := by
 refine enter 13 Try.func37 rfl Try.ntmps37 rfl rfl ?_
 have hs1 := St.takeP w b_s _ L_s hb_s h_s hd_
 refine WC.r1 hs1 [] rfl (WC.seq (fun K2 hK2 => WC.r1 hs1 [0] rfl ?_))
 refine WC.cq rfl (fun h3 qh3 => ?_) (fun h3 qh3 => ?_)
 ·exfalso; have h9 := h3; rw [hx] at h9; revert h9; decide
 refine WC.skip (hK2 _ _ (WC.r1 hs1 [] rfl (WC.ret (retV1 rfl (resV.tmp rfl) (⟨s, _, rfl, St.keepP (L1 := L_s) ((hs1.fr L_s).fb b_s), o_s, ?_⟩)))))
 · rfl
theorem k44_ (b_s : Nat) (s : ScrR) (L_s : Hp) (w : World) (hb_s : w.heap[b_s]? = some (Obj.cells (List.toArray [i64 s.W, i64 s.H, i64 s.Main.W, i64 s.Main.H, .slice s.Main.Cells.A s.Main.Cells.n s.Main.Cells.c, i64 s.Alt.W, i64 s.Alt.H, .slice s.Alt.Cells.A s.Alt.Cells.n s.Alt.Cells.c, .bool s.OnAlt, i64 s.X, i64 s.Y, .bool s.Wrap, i64 s.A.Fg, i64 s.A.Bg, .bool s.A.Bold, .bool s.A.Under, .bool s.A.Turn, i64 s.Top, i64 s.Bot, .bool s.NoWrap, .bool s.Hide, i64 s.SaveX, i64 s.SaveY, i64 s.SaveA.Fg, i64 s.SaveA.Bg, .bool s.SaveA.Bold, .bool s.SaveA.Under, .bool s.SaveA.Turn, .slice s.Tabs.A s.Tabs.n s.Tabs.c, i64 s.Limit, .slice s.Back.A s.Back.n s.Back.c]) 31 (0, 0))) (o_s : ownScrR s L_s) (h_s : Hh w L_s) (hd_ : (b_s :: L_s.map (·.1)).Nodup) (hx : s.OnAlt = true) :
    Calls Try.prog 37 #[.pointer (some ⟨b_s, 0, none⟩)] w fun e w' => ∃ r L1, e = .returned (.pointer (some ⟨b_s, 5, none⟩)) ∧ St w (b_s :: L_s.map (·.1)) ([(b_s, Obj.cells (List.toArray [i64 r.W, i64 r.H, i64 r.Main.W, i64 r.Main.H, .slice r.Main.Cells.A r.Main.Cells.n r.Main.Cells.c, i64 r.Alt.W, i64 r.Alt.H, .slice r.Alt.Cells.A r.Alt.Cells.n r.Alt.Cells.c, .bool r.OnAlt, i64 r.X, i64 r.Y, .bool r.Wrap, i64 r.A.Fg, i64 r.A.Bg, .bool r.A.Bold, .bool r.A.Under, .bool r.A.Turn, i64 r.Top, i64 r.Bot, .bool r.NoWrap, .bool r.Hide, i64 r.SaveX, i64 r.SaveY, i64 r.SaveA.Fg, i64 r.SaveA.Bg, .bool r.SaveA.Bold, .bool r.SaveA.Under, .bool r.SaveA.Turn, .slice r.Tabs.A r.Tabs.n r.Tabs.c, i64 r.Limit, .slice r.Back.A r.Back.n r.Back.c]) 31 (0, 0))] ++ L1) w' ∧ ownScrR r L1 ∧ r.dat = s.dat := by
 refine enter 13 Try.func37 rfl Try.ntmps37 rfl rfl ?_
 have hs1 := St.takeP w b_s _ L_s hb_s h_s hd_
 refine WC.r1 hs1 [] rfl (WC.seq (fun K2 hK2 => WC.r1 hs1 [0] rfl ?_))
 refine WC.cq rfl (fun h3 qh3 => ?_) (fun h3 qh3 => ?_)
 ·refine WC.r1 hs1 [] rfl (WC.ret (tkR ?_))
  clear hK2
  refine retV1 rfl (resV.tmp rfl) (⟨s, _, rfl, St.keepP (L1 := L_s) ((hs1.fr L_s).fb b_s), o_s, ?_⟩)
  · rfl
 exfalso; have h9 := h3; rw [hx] at h9; revert h9; decide
theorem WC.jPK {P : Program} {n : Nat} {x : Code} {K : Fr → World → Prop} {Q : Kont} {f F : Fr} {w0 w : World} {T : List Nat} {b : Nat} {o0 : Obj} {L0 R : Hp} (is : List Nat) (hF : rstr is f = some F) (hst : St w0 T ((b, o0) :: (L0 ++ R)) w) (X : Obj → Hp → Prop)
  (hx : WC P n x (thenK (fun f' w' => ∃ o L1, St w0 T ((b, o) :: (L1 ++ R)) w' ∧ X o L1 ∧ Sub F f') Q) f w) (hy : ∀ o L1 w', X o L1 → St w0 T ((b, o) :: (L1 ++ R)) w' → ∀ f', Sub F f' → K f' w') : WC P n x (thenK K Q) f w :=
 hx.mono fun e f' w' h => by
  cases e
  case normal =>
   obtain ⟨o, L1, h1, h2, h3⟩ := h
   exact hy o L1 w' h2 h1 f' h3
  all_goals exact h
theorem St.lend1 {w0 w w' : World} {T : List Nat} {C : Hp} {b : Nat} {o o' : Obj} (h : St w0 T ([(b, o)] ++ C) w) (k : St w [b] [(b, o')] w') : St w0 T ((b, o') :: C) w' := St.lend (A := [(b, o)]) h k
theorem WC.jCK {P : Program} {n : Nat} {x : Code} {K : Fr → World → Prop} {Q : Kont} {f F : Fr} {w0 w : World} {T : List Nat} {b c : Nat} {o0 p0 : Obj} {L0 R : Hp} (is : List Nat) (hF : rstr is f = some F) (hst : St w0 T ((b, o0) :: (c, p0) :: (L0 ++ R)) w) (X : Obj → Obj → Hp → Prop)
  (hx : WC P n x (thenK (fun f' w' => ∃ o p L1, St w0 T ((b, o) :: (c, p) :: (L1 ++ R)) w' ∧ X o p L1 ∧ Sub F f') Q) f w) (hy : ∀ o p L1 w', X o p L1 → St w0 T ((b, o) :: (c, p) :: (L1 ++ R)) w' → ∀ f', Sub F f' → K f' w') : WC P n x (thenK K Q) f w :=
 hx.mono fun e f' w' h => by
  cases e
  case normal =>
   obtain ⟨o, p, L1, h1, h2, h3⟩ := h
   exact hy o p L1 w' h2 h1 f' h3
  all_goals exact h
theorem eq_27 {d : Nat} (x y : AttrD) (w : World) : (Op.equalIn (d + 2) 27 (.agg (encAttr.enc x).toArray) (.agg (encAttr.enc y).toArray)).run Try.prog w = .ok (decide (x = y)) w := by
  obtain ⟨R, h, e⟩ : ∃ R, (Op.equalIn (d + 2) 27 (.agg (encAttr.enc x).toArray) (.agg (encAttr.enc y).toArray)).run Try.prog w = .ok R w ∧ R = decide (x = y) := ⟨_, equalIn_struct Try.underlying27 rfl (by kernel_rfl) (eqFields_cons rfl (part_one Try.isAgg3 rfl) (part_one Try.isAgg3 rfl) (equalIn_int Try.underlying3) (eqFields_cons rfl (part_one Try.isAgg3 rfl) (part_one Try.isAgg3 rfl) (equalIn_int Try.underlying3) (eqFields_cons rfl (part_one Try.isAgg4 rfl) (part_one Try.isAgg4 rfl) (equalIn_bool' Try.underlying4) (eqFields_cons rfl (part_one Try.isAgg4 rfl) (part_one Try.isAgg4 rfl) (equalIn_bool' Try.underlying4) (eqFields_cons rfl (part_one Try.isAgg4 rfl) (part_one Try.isAgg4 rfl) (equalIn_bool' Try.underlying4) eqFields_nil))))), by rw [Bool.eq_iff_iff]; simp [AttrD.iff']⟩
  rw [h, e]
theorem eq_58 {d : Nat} (x y : CellD) (w : World) : (Op.equalIn (d + 3) 58 (.agg (encCell.enc x).toArray) (.agg (encCell.enc y).toArray)).run Try.prog w = .ok (decide (x = y)) w := by
  obtain ⟨R, h, e⟩ : ∃ R, (Op.equalIn (d + 3) 58 (.agg (encCell.enc x).toArray) (.agg (encCell.enc y).toArray)).run Try.prog w = .ok R w ∧ R = decide (x = y) := ⟨_, equalIn_struct Try.underlying58 rfl (by kernel_rfl) (eqFields_cons rfl (part_one Try.isAgg3 rfl) (part_one Try.isAgg3 rfl) (equalIn_int Try.underlying3) (eqFields_cons rfl (part_agg Try.isAgg27 Try.sizeOf27 rfl) (part_agg Try.isAgg27 Try.sizeOf27 rfl) (eq_27 _ _ _) eqFields_nil)), by rw [Bool.eq_iff_iff]; simp [AttrD.iff', CellD.iff']⟩
  rw [h, e]
theorem k45_ (A_a : Option Addr) (n_a c_a : Nat) (a : List CellD) (A_b : Option Addr) (n_b c_b : Nat) (b : List CellD) (w : World) (f_a : SlF encCell w A_a n_a a) (f_b : SlF encCell w A_b n_b b) (hn : n_a ≤ 1099511627776) :
    Calls Try.prog 35 #[.slice A_a n_a c_a, .slice A_b n_b c_b] w fun e w' => e = .returned (.bool (decide (a = b))) ∧ St w [] [] w' := by
 have hla := f_a.len
 have hlb := f_b.len
 refine enter 26 Try.func35 rfl Try.ntmps35 rfl rfl ?_
 have hs1 := St.init w
 refine WC.r1 hs1 [] rfl (WC.seq (fun K2 hK2 => WC.r1 hs1 [] rfl ?_))
 refine WC.cq rfl (fun h3 qh3 => ?_) (fun h3 qh3 => ?_)
 ·refine WC.r1 hs1 [] rfl (WC.ret (tkR ?_))
  clear hK2
  refine rtv rfl rfl hs1 ?_
  refine congrArg Value.bool ?_; symm; rw [decide_eq_false_iff_not]; intro he; subst he; omega
 refine WC.skip (hK2 _ _ (WC.seq (fun K4 hK4 => WC.r1 hs1 [] rfl (WC.block ?_))))
 refine WC.lS [0, 1, 10, 12] rfl hs1 (fun k_ f w' => ∃ (i : Nat), k_ = n_a - i ∧ (i ≤ n_a) ∧ (∀ j, j < i → gat encCell a j = gat encCell b j) ∧ Sub [(13, .int .i64 i)] f) ((fun (i : Nat) => n_a - i) (0)) ?_ ?_
 ·refine ⟨0, rfl, ?_, ?_, ⟨rfl, trivial⟩⟩
  · exact Nat.zero_le _
  · exact fun j hj => absurd hj (by omega)
 clear hs1
 rintro _ f w ⟨i, rfl, p0, p1, hG⟩ hF hs5
 refine WC.sub _ (hG.app hF) ?_
 clear hG hF
 refine WC.r1 hs5 [] rfl (WC.seq (fun K6 hK6 => ?_))
 refine WC.cq rfl (fun h7 qh7 => ?_) (fun h7 qh7 => ?_)
 ·refine WC.skip (hK6 _ _ (WC.seq (fun K8 hK8 => WC.block (WC.r1 hs5 [] rfl (WC.sq1 hs5 (WQ.r 2 [] rfl ?_))))))
  refine WQ.val rfl rfl rfl (fun w_ hs_ => (Run.idxN Try.runUnderlying23 Try.sizeOf58 rfl rfl rfl ?_ ?_ ?_)) ?_
  · exact SlF.some_ (SlF.st0 f_a (hs_ : St _ _ _ _))
  · omega
  · omega
  refine WQ.val rfl rfl rfl (fun w_ hs_ => (Run.loadA Try.isAgg58 Try.sizeOf58 rfl rfl (SlF.whole (SlF.st0 f_a (hs_ : St _ _ _ _)) ?_))) ?_
  · omega
  refine WQ.r 2 [] rfl ?_
  refine WQ.val rfl rfl rfl (fun w_ hs_ => (Run.idxN Try.runUnderlying23 Try.sizeOf58 rfl rfl rfl ?_ ?_ ?_)) ?_
  · exact SlF.some_ (SlF.st0 f_b (hs_ : St _ _ _ _))
  · omega
  · omega
  refine WQ.val rfl rfl rfl (fun w_ hs_ => (Run.loadA Try.isAgg58 Try.sizeOf58 rfl rfl (SlF.whole (SlF.st0 f_b (hs_ : St _ _ _ _)) ?_))) ?_
  · omega
  refine WQ.val rfl rfl rfl (fun w_ hs_ => (Run.neqA (eq_58 _ _) (by kernel_rfl) rfl rfl rfl)) ?_
  refine WQ.nil (fun _ (hs9 : St _ _ _ _) => ?_)
  refine WC.cq rfl (fun h10 qh10 => ?_) (fun h10 qh10 => ?_)
  ·refine WC.r1 hs9 [] rfl (WC.ret (ibR (tkR (tkR (ibR (tkR ?_))))))
   clear hK8 hK4
   refine rtv rfl rfl hs9 ?_
   refine congrArg Value.bool ?_; symm; rw [decide_eq_false_iff_not]; intro he; subst he; simp at h10
  refine WC.skip (hK8 _ _ (WC.region (WL.r 2 hs9 [] rfl (WL.nil (tkN ?_)))))
  refine ⟨sbF rfl, hs9, _, ?_, i + 1, rfl, ?_, ?_, ⟨rfl, trivial⟩⟩
  · omega
  · omega
  · intro j hj; rcases Nat.lt_or_ge j i with h_ | h_
    · exact p1 j h_
    · obtain rfl : j = i := by omega
      exact (by simpa using h10)
 refine WC.exit (hK4 _ _ (WC.r1 hs5 [] rfl (WC.ret (rtv rfl rfl hs5 ?_))))
 refine congrArg Value.bool ?_; symm; rw [decide_eq_true_eq]; exact gat_ext (F := encCell) (by omega) (fun j hj => p1 j (by omega))
theorem k46_ (a : GridR) (b : GridR) (w : World) (f_a : okGridR 549755813888 w a) (f_b : okGridR 549755813888 w b) (hsm : smGrid 1099511627776 a.dat) :
    Calls Try.prog 9 #[.agg #[i64 a.W, i64 a.H, .slice a.Cells.A a.Cells.n a.Cells.c], .agg #[i64 b.W, i64 b.H, .slice b.Cells.A b.Cells.n b.Cells.c]] w fun e w' => e = .returned (.bool (sameG a.dat b.dat)) ∧ St w [] [] w' := by
 have nb_a_Cells := f_a.Cells_n
 have nl_a_Cells := f_a.Cells.len
 have nb_b_Cells := f_b.Cells_n
 have nl_b_Cells := f_b.Cells.len
 have hl8 : a.Cells.xs.length ≤ 1099511627776 := hsm
 have hl9 := f_a.Cells.len
 refine enter 24 Try.func9 rfl Try.ntmps9 rfl rfl ?_
 have hs1 := St.init w
 refine WC.sr (WL.bx hs1 rfl (fun b2 _ hs3 => WL.bx hs3 rfl (fun b4 _ hs5 => WL.r 1 hs5 [] rfl (WL.nil (WC.sr (WL.r 6 hs5 [1, 0] rfl (WL.pA tbk 5 Acts.nil hs5 [1, 0] rfl rfl rfl rfl (fun g_ => ⟨rfl, rfl, trivial⟩) ?_)))))))
 refine WL.r 1 hs5 [] rfl ?_
 apply WL.gA 5 Acts.nil hs5 rfl
 ·intro g6 J7
  have qg6 := g6
  try simp only [bf, within_iff, within_not] at qg6
  refine WL.runA tbk 4 (Acts.nil.cons (j := 12) rfl g6) hs5 [1, 0] rfl ⟨rfl, rfl, trivial⟩ (WL.call (wantT rfl g6) rfl rfl (Run.call Try.call35 rfl rfl rfl) (k45_ _ _ _ _ _ _ _ _ _ (SlF.st0 f_a.Cells hs5) (SlF.st0 f_b.Cells hs5) ?_) ?_)
  · first | assumption | rfl | omega
  rintro _ whs8 ⟨rfl, hs8⟩
  replace hs8 := hs5.call0 hs8
  refine ⟨_, rfl, WL.eA 5 Acts.nil J7 hs8 g6 rfl rfl⟩
 intro _ hs9
 refine WL.r 1 hs9 [] rfl (WL.nil (WC.ret (rtv rfl rfl hs9 ?_)))
 (try rfl)
theorem k47_ (s : ScrR) (b_s : Nat) (w : World) (hc : w.heap[b_s]? = some (Obj.cells (List.toArray [i64 s.W, i64 s.H, i64 s.Main.W, i64 s.Main.H, .slice s.Main.Cells.A s.Main.Cells.n s.Main.Cells.c, i64 s.Alt.W, i64 s.Alt.H, .slice s.Alt.Cells.A s.Alt.Cells.n s.Alt.Cells.c, .bool s.OnAlt, i64 s.X, i64 s.Y, .bool s.Wrap, i64 s.A.Fg, i64 s.A.Bg, .bool s.A.Bold, .bool s.A.Under, .bool s.A.Turn, i64 s.Top, i64 s.Bot, .bool s.NoWrap, .bool s.Hide, i64 s.SaveX, i64 s.SaveY, i64 s.SaveA.Fg, i64 s.SaveA.Bg, .bool s.SaveA.Bold, .bool s.SaveA.Under, .bool s.SaveA.Turn, .slice s.Tabs.A s.Tabs.n s.Tabs.c, i64 s.Limit, .slice s.Back.A s.Back.n s.Back.c]) 31 (0, 0))) (hx : s.OnAlt = false) :
    Calls Try.prog 37 #[.pointer (some ⟨b_s, 0, none⟩)] w fun e w' => e = .returned (.pointer (some ⟨b_s, 2, none⟩)) ∧ St w [b_s] [(b_s, Obj.cells (List.toArray [i64 s.W, i64 s.H, i64 s.Main.W, i64 s.Main.H, .slice s.Main.Cells.A s.Main.Cells.n s.Main.Cells.c, i64 s.Alt.W, i64 s.Alt.H, .slice s.Alt.Cells.A s.Alt.Cells.n s.Alt.Cells.c, .bool s.OnAlt, i64 s.X, i64 s.Y, .bool s.Wrap, i64 s.A.Fg, i64 s.A.Bg, .bool s.A.Bold, .bool s.A.Under, .bool s.A.Turn, i64 s.Top, i64 s.Bot, .bool s.NoWrap, .bool s.Hide, i64 s.SaveX, i64 s.SaveY, i64 s.SaveA.Fg, i64 s.SaveA.Bg, .bool s.SaveA.Bold, .bool s.SaveA.Under, .bool s.SaveA.Turn, .slice s.Tabs.A s.Tabs.n s.Tabs.c, i64 s.Limit, .slice s.Back.A s.Back.n s.Back.c]) 31 (0, 0))] w' := by
 refine enter 13 Try.func37 rfl Try.ntmps37 rfl rfl ?_
 have hs1 := St.take1 w b_s _ hc
 refine WC.r1 hs1 [] rfl (WC.seq (fun K2 hK2 => WC.r1 hs1 [0] rfl ?_))
 refine WC.cq rfl (fun h3 qh3 => ?_) (fun h3 qh3 => ?_)
 ·exfalso; have h9 := h3; rw [hx] at h9; revert h9; decide
 refine WC.skip (hK2 _ _ (WC.r1 hs1 [] rfl (WC.ret (retV1 rfl (resV.tmp rfl) (⟨rfl, hs1⟩)))))
theorem k48_ (s : ScrR) (b_s : Nat) (w : World) (hc : w.heap[b_s]? = some (Obj.cells (List.toArray [i64 s.W, i64 s.H, i64 s.Main.W, i64 s.Main.H, .slice s.Main.Cells.A s.Main.Cells.n s.Main.Cells.c, i64 s.Alt.W, i64 s.Alt.H, .slice s.Alt.Cells.A s.Alt.Cells.n s.Alt.Cells.c, .bool s.OnAlt, i64 s.X, i64 s.Y, .bool s.Wrap, i64 s.A.Fg, i64 s.A.Bg, .bool s.A.Bold, .bool s.A.Under, .bool s.A.Turn, i64 s.Top, i64 s.Bot, .bool s.NoWrap, .bool s.Hide, i64 s.SaveX, i64 s.SaveY, i64 s.SaveA.Fg, i64 s.SaveA.Bg, .bool s.SaveA.Bold, .bool s.SaveA.Under, .bool s.SaveA.Turn, .slice s.Tabs.A s.Tabs.n s.Tabs.c, i64 s.Limit, .slice s.Back.A s.Back.n s.Back.c]) 31 (0, 0))) (hx : s.OnAlt = true) :
    Calls Try.prog 37 #[.pointer (some ⟨b_s, 0, none⟩)] w fun e w' => e = .returned (.pointer (some ⟨b_s, 5, none⟩)) ∧ St w [b_s] [(b_s, Obj.cells (List.toArray [i64 s.W, i64 s.H, i64 s.Main.W, i64 s.Main.H, .slice s.Main.Cells.A s.Main.Cells.n s.Main.Cells.c, i64 s.Alt.W, i64 s.Alt.H, .slice s.Alt.Cells.A s.Alt.Cells.n s.Alt.Cells.c, .bool s.OnAlt, i64 s.X, i64 s.Y, .bool s.Wrap, i64 s.A.Fg, i64 s.A.Bg, .bool s.A.Bold, .bool s.A.Under, .bool s.A.Turn, i64 s.Top, i64 s.Bot, .bool s.NoWrap, .bool s.Hide, i64 s.SaveX, i64 s.SaveY, i64 s.SaveA.Fg, i64 s.SaveA.Bg, .bool s.SaveA.Bold, .bool s.SaveA.Under, .bool s.SaveA.Turn, .slice s.Tabs.A s.Tabs.n s.Tabs.c, i64 s.Limit, .slice s.Back.A s.Back.n s.Back.c]) 31 (0, 0))] w' := by
 refine enter 13 Try.func37 rfl Try.ntmps37 rfl rfl ?_
 have hs1 := St.take1 w b_s _ hc
 refine WC.r1 hs1 [] rfl (WC.seq (fun K2 hK2 => WC.r1 hs1 [0] rfl ?_))
 refine WC.cq rfl (fun h3 qh3 => ?_) (fun h3 qh3 => ?_)
 ·refine WC.r1 hs1 [] rfl (WC.ret (tkR ?_))
  clear hK2
  refine retV1 rfl (resV.tmp rfl) (⟨rfl, hs1⟩)
 exfalso; have h9 := h3; rw [hx] at h9; revert h9; decide
theorem k49_ (s : ScrR) (w : World) (f_s : okScrR 549755813888 w s) (hok : scrOk s.dat = true) (hsm : smScr 1048576 s.dat) (hx : s.OnAlt = true) :
    Calls Try.prog 10 #[.agg #[i64 s.W, i64 s.H, i64 s.Main.W, i64 s.Main.H, .slice s.Main.Cells.A s.Main.Cells.n s.Main.Cells.c, i64 s.Alt.W, i64 s.Alt.H, .slice s.Alt.Cells.A s.Alt.Cells.n s.Alt.Cells.c, .bool s.OnAlt, i64 s.X, i64 s.Y, .bool s.Wrap, i64 s.A.Fg, i64 s.A.Bg, .bool s.A.Bold, .bool s.A.Under, .bool s.A.Turn, i64 s.Top, i64 s.Bot, .bool s.NoWrap, .bool s.Hide, i64 s.SaveX, i64 s.SaveY, i64 s.SaveA.Fg, i64 s.SaveA.Bg, .bool s.SaveA.Bold, .bool s.SaveA.Under, .bool s.SaveA.Turn, .slice s.Tabs.A s.Tabs.n s.Tabs.c, i64 s.Limit, .slice s.Back.A s.Back.n s.Back.c]] w fun e w' => ∃ r L1, e = .returned (.agg #[i64 r.W, i64 r.H, .slice r.Cells.A r.Cells.n r.Cells.c]) ∧ St w [] L1 w' ∧ ownGridR r L1 ∧ r.dat = shownD s.dat := by
 have nb_s_Main_Cells := f_s.Main.Cells_n
 have nl_s_Main_Cells := f_s.Main.Cells.len
 have nb_s_Alt_Cells := f_s.Alt.Cells_n
 have nl_s_Alt_Cells := f_s.Alt.Cells.len
 have nb_s_Tabs := f_s.Tabs_n
 have nl_s_Tabs := f_s.Tabs.len
 have nb_s_Back := f_s.Back_n
 have nl_s_Back := f_s.Back.sl.len
 have hsmB : smScr 549755813888 s.dat := smScr_mono hsm (by decide)
 have hsM : smGrid 1048576 s.Main.dat := hsm.1
 have hsA : smGrid 1048576 s.Alt.dat := hsm.2.1
 refine enter 11 Try.func10 rfl Try.ntmps10 rfl rfl ?_
 have hs1 := St.init w
 refine WC.sr (WL.bx hs1 rfl (fun b2 _ hs3 => WL.al hs3 Try.zeroValue25 rfl rfl (fun b4 _ hs5 => WL.nil (WC.seq (fun K6 hK6 => WC.sr (WL.r 1 hs5 [1] rfl (WL.cl Try.call8 rfl (k30_ s _ (okScrR.st0 f_s hs5)) ?_)))))))
 rintro _ whs7 ⟨rfl, hs7⟩
 replace hs7 := hs5.call0 hs7
 refine ⟨_, rfl, WL.r 1 hs7 [] rfl (WL.nil (WC.cq rfl (fun h8 qh8 => ?_) (fun h8 qh8 => ?_)))⟩
 ·exfalso; have h9 := h8; simp [hok] at h9
 refine WC.skip (hK6 _ _ (WC.sr ?_))
 replace hs7 := (hs7.fb b2)
 have hF9 : St _ _ ([(b2, _)] ++ _) _ := hs7
 refine WL.call rfl rfl rfl (Run.call Try.call37 rfl rfl rfl) (k48_ _ _ _ (hF9.own _ List.mem_cons_self).1 hx) ?_
 rintro _ whs10 ⟨rfl, hs10⟩
 replace hs10 := St.lend1 hF9 hs10
 refine ⟨_, rfl, WL.r 2 hs10 [0] rfl (WL.cl Try.call36 rfl (k35_ s.Alt _ (okGridR.st0 f_s.Alt hs10) ?_) ?_)⟩
 · first | assumption | rfl | omega
 rintro _ whs11 ⟨r12, L1_13, rfl, hs11, ho14, hd15⟩
 replace hs11 := hs10.callF hs11
 refine ⟨_, rfl, ?_⟩
 replace hs11 := St.back [_, _] hs11
 refine WL.st tbk hs11 1 rfl rfl (fun _ hs16 => WL.nil (WC.ret (retV1 rfl (resV.cellA tbk hs16 1 rfl rfl rfl rfl) ?_)))
 refine ⟨r12, _, rfl, (St.keep1 (hs16.fr L1_13)), ?_, ?_⟩
 · exact ho14
 · exact hd15.trans (by rw [← shownR_dat, shownR_alt (by first | exact hx | (rw [hx]; decide))])
theorem k50_ (s : ScrR) (w : World) (f_s : okScrR 549755813888 w s) (hok : scrOk s.dat = true) (hsm : smScr 1048576 s.dat) (hx : s.OnAlt = false) :
    Calls Try.prog 10 #[.agg #[i64 s.W, i64 s.H, i64 s.Main.W, i64 s.Main.H, .slice s.Main.Cells.A s.Main.Cells.n s.Main.Cells.c, i64 s.Alt.W, i64 s.Alt.H, .slice s.Alt.Cells.A s.Alt.Cells.n s.Alt.Cells.c, .bool s.OnAlt, i64 s.X, i64 s.Y, .bool s.Wrap, i64 s.A.Fg, i64 s.A.Bg, .bool s.A.Bold, .bool s.A.Under, .bool s.A.Turn, i64 s.Top, i64 s.Bot, .bool s.NoWrap, .bool s.Hide, i64 s.SaveX, i64 s.SaveY, i64 s.SaveA.Fg, i64 s.SaveA.Bg, .bool s.SaveA.Bold, .bool s.SaveA.Under, .bool s.SaveA.Turn, .slice s.Tabs.A s.Tabs.n s.Tabs.c, i64 s.Limit, .slice s.Back.A s.Back.n s.Back.c]] w fun e w' => ∃ r L1, e = .returned (.agg #[i64 r.W, i64 r.H, .slice r.Cells.A r.Cells.n r.Cells.c]) ∧ St w [] L1 w' ∧ ownGridR r L1 ∧ r.dat = shownD s.dat := by
 have nb_s_Main_Cells := f_s.Main.Cells_n
 have nl_s_Main_Cells := f_s.Main.Cells.len
 have nb_s_Alt_Cells := f_s.Alt.Cells_n
 have nl_s_Alt_Cells := f_s.Alt.Cells.len
 have nb_s_Tabs := f_s.Tabs_n
 have nl_s_Tabs := f_s.Tabs.len
 have nb_s_Back := f_s.Back_n
 have nl_s_Back := f_s.Back.sl.len
 have hsmB : smScr 549755813888 s.dat := smScr_mono hsm (by decide)
 have hsM : smGrid 1048576 s.Main.dat := hsm.1
 have hsA : smGrid 1048576 s.Alt.dat := hsm.2.1
 refine enter 11 Try.func10 rfl Try.ntmps10 rfl rfl ?_
 have hs1 := St.init w
 refine WC.sr (WL.bx hs1 rfl (fun b2 _ hs3 => WL.al hs3 Try.zeroValue25 rfl rfl (fun b4 _ hs5 => WL.nil (WC.seq (fun K6 hK6 => WC.sr (WL.r 1 hs5 [1] rfl (WL.cl Try.call8 rfl (k30_ s _ (okScrR.st0 f_s hs5)) ?_)))))))
 rintro _ whs7 ⟨rfl, hs7⟩
 replace hs7 := hs5.call0 hs7
 refine ⟨_, rfl, WL.r 1 hs7 [] rfl (WL.nil (WC.cq rfl (fun h8 qh8 => ?_) (fun h8 qh8 => ?_)))⟩
 ·exfalso; have h9 := h8; simp [hok] at h9
 refine WC.skip (hK6 _ _ (WC.sr ?_))
 replace hs7 := (hs7.fb b2)
 have hF9 : St _ _ ([(b2, _)] ++ _) _ := hs7
 refine WL.call rfl rfl rfl (Run.call Try.call37 rfl rfl rfl) (k47_ _ _ _ (hF9.own _ List.mem_cons_self).1 hx) ?_
 rintro _ whs10 ⟨rfl, hs10⟩
 replace hs10 := St.lend1 hF9 hs10
 refine ⟨_, rfl, WL.r 2 hs10 [0] rfl (WL.cl Try.call36 rfl (k35_ s.Main _ (okGridR.st0 f_s.Main hs10) ?_) ?_)⟩
 · first | assumption | rfl | omega
 rintro _ whs11 ⟨r12, L1_13, rfl, hs11, ho14, hd15⟩
 replace hs11 := hs10.callF hs11
 refine ⟨_, rfl, ?_⟩
 replace hs11 := St.back [_, _] hs11
 refine WL.st tbk hs11 1 rfl rfl (fun _ hs16 => WL.nil (WC.ret (retV1 rfl (resV.cellA tbk hs16 1 rfl rfl rfl rfl) ?_)))
 refine ⟨r12, _, rfl, (St.keep1 (hs16.fr L1_13)), ?_, ?_⟩
 · exact ho14
 · exact hd15.trans (by rw [← shownR_dat, shownR_main (by first | exact hx | (rw [hx]; decide))])
theorem k51_ (s : ScrR) (w : World) (f_s : okScrR 549755813888 w s) (hok : scrOk s.dat = true) (hsm : smScr 1048576 s.dat) :
    Calls Try.prog 10 #[.agg #[i64 s.W, i64 s.H, i64 s.Main.W, i64 s.Main.H, .slice s.Main.Cells.A s.Main.Cells.n s.Main.Cells.c, i64 s.Alt.W, i64 s.Alt.H, .slice s.Alt.Cells.A s.Alt.Cells.n s.Alt.Cells.c, .bool s.OnAlt, i64 s.X, i64 s.Y, .bool s.Wrap, i64 s.A.Fg, i64 s.A.Bg, .bool s.A.Bold, .bool s.A.Under, .bool s.A.Turn, i64 s.Top, i64 s.Bot, .bool s.NoWrap, .bool s.Hide, i64 s.SaveX, i64 s.SaveY, i64 s.SaveA.Fg, i64 s.SaveA.Bg, .bool s.SaveA.Bold, .bool s.SaveA.Under, .bool s.SaveA.Turn, .slice s.Tabs.A s.Tabs.n s.Tabs.c, i64 s.Limit, .slice s.Back.A s.Back.n s.Back.c]] w fun e w' => ∃ r L1, e = .returned (.agg #[i64 r.W, i64 r.H, .slice r.Cells.A r.Cells.n r.Cells.c]) ∧ St w [] L1 w' ∧ ownGridR r L1 ∧ r.dat = shownD s.dat := by
 rcases Bool.eq_false_or_eq_true s.OnAlt with hx_ | hx_
 · exact k49_ s w f_s hok hsm hx_
 · exact k50_ s w f_s hok hsm hx_
theorem k52_ (g : GridR) (top : Int) (bot : Int) (n : Int) (w : World) (f_g : okGridR 549755813888 w g) (hg : gridOk g.dat = true) (ht : 0 ≤ top ∧ top ≤ bot ∧ bot < g.H) (hn : -100000 ≤ n ∧ n ≤ 100000) :
    Calls Try.prog 128 #[.agg #[i64 g.W, i64 g.H, .slice g.Cells.A g.Cells.n g.Cells.c], i64 top, i64 bot, i64 n] w fun e w' => ∃ r L1, e = .returned (.agg #[i64 r.W, i64 r.H, .slice r.Cells.A r.Cells.n r.Cells.c]) ∧ St w [] L1 w' ∧ ownGridR r L1 ∧ r.dat = gRoll g.dat top bot n := by
 have nb_g_Cells := f_g.Cells_n
 have nl_g_Cells := f_g.Cells.len
 have hgb : (1 ≤ g.W ∧ g.W ≤ 120) ∧ (1 ≤ g.H ∧ g.H ≤ 120) ∧ 1 ≤ g.W * g.H ∧ g.W * g.H ≤ 4000 := gridOk_bnd hg
 have hgl : (g.Cells.xs.length : Int) = g.W * g.H := grid_len hg
 have hsmg : smGrid 1048576 g.dat := by show g.Cells.xs.length ≤ 1048576; omega
 refine enter 48 Try.func128 rfl Try.ntmps128 rfl rfl ?_
 have hs1 := St.init w
 refine WC.sr (WL.bx hs1 rfl (fun b2 _ hs3 => WL.al hs3 Try.zeroValue25 rfl rfl (fun b4 _ hs5 => WL.nil (WC.sr (WL.r 1 hs5 [1] rfl ?_)))))
 refine WL.cl Try.call36 rfl (k35_ g _ (okGridR.st0 f_g hs5) ?_) ?_
 · first | assumption | rfl | omega
 rintro _ whs6 ⟨r7, L1_8, rfl, hs6, ho9, hd10⟩
 replace hs6 := hs5.callF hs6
 refine ⟨_, rfl, ?_⟩
 replace hs6 := St.back [_, _] hs6
 skip
 refine WL.al hs6 Try.zeroValue25 rfl rfl (fun b11 _ hs12 => WL.st tbk hs12 0 rfl rfl (fun _ hs13 => WL.nil (WC.seq (fun K14 hK14 => WC.r1 hs13 [] rfl (WC.block ?_)))))
 have hM19 := (St.grp1 (L1 := L1_8) [_] ((((hs13.fb b2).fb b4).fr L1_8).fb b11))
 refine WC.lV [1, 2, 3, 4, 8, 9] rfl hM19 (fun k_ (a_ : Hp) f => ∃ (a : Nat) (r : GridR) (L17 : Hp), k_ = (bot - top + 1).toNat - a ∧ a_ = [(b11, .cells (List.toArray [i64 r.W, i64 r.H, .slice r.Cells.A r.Cells.n r.Cells.c]) 25 (0, 0))] ++ L17 ∧ (top + (a : Int) ≤ bot + 1) ∧ (r.W = g.W ∧ r.H = g.H ∧ r.Cells.xs.length = g.Cells.xs.length) ∧ (∀ k, k < g.Cells.xs.length → cat r.Cells.xs k = partF g.dat (rollF g.dat top bot n) (top.toNat * g.W.toNat) (a * g.W.toNat) k) ∧ ownGridR r L17 ∧ Sub [(10, .int .i64 (top + a))] f) (((fun (a : Nat) => (bot - top + 1).toNat - a) (0))) ?_ ?_
 ·refine ⟨0, r7, L1_8, rfl, rfl, ?_, ?_, ?_, ho9, ⟨?_, trivial⟩⟩
  · omega
  · exact ⟨congrArg GridD.W hd10, congrArg GridD.H hd10, congrArg (fun d : GridD => d.Cells.length) hd10⟩
  · intro k hk; rw [Nat.zero_mul, partF_zero]; exact congrArg (fun d : GridD => cat d.Cells k) hd10
  · (refine congrArg some (congrArg (Value.int _) ?_); omega)
 rintro _ _ f w ⟨a, r, L17, rfl, rfl, p0, p1, p2, ho18, hG⟩ hF hs20
 refine WC.sub _ (hG.app hF) ?_
 clear hG hF
 replace hs20 := St.ungrp1 [_] hs20
 have hs21 := (((hs20.fb b2).fb b4).fb b11)
 have hsmr : smGrid 549755813888 r.dat := by show r.Cells.xs.length ≤ 549755813888; omega
 refine WC.seq (fun K22 hK22 => WC.r1 hs21 [] rfl ?_)
 refine WC.cq rfl (fun h23 qh23 => ?_) (fun h23 qh23 => ?_)
 ·have hab : top + (a : Int) ≤ bot := by omega
  have hv0 : 0 ≤ (top + (a : Int)) * g.W := Int.mul_nonneg (by omega) (by omega)
  have hv1 : (top + (a : Int) + 1) * g.W = (top + (a : Int)) * g.W + g.W := by rw [Int.add_mul, Int.one_mul]
  have hv2 : (top + (a : Int) + 1) * g.W ≤ g.H * g.W := Int.mul_le_mul_of_nonneg_right (by omega) (by omega)
  rw [Int.mul_comm g.H g.W] at hv2
  have hrw : r.W = g.W := p1.1
  have hz0 : (top + (a : Int)) * r.W = (top + (a : Int)) * g.W := by rw [hrw]
  have hz1 : (top + (a : Int) + 1) * r.W = (top + (a : Int) + 1) * g.W := by rw [hrw]
  have hnr := ownGridR.len ‹ownGridR r _›
  have hcr := OwnF.cap ‹ownGridR r _›
  have hlr := f_g.Cells.len
  have hcg := f_g.Cells_c
  have hlo0 : ((top + (a : Int)) * r.W).toNat = (top.toNat + a) * g.W.toNat := by rw [hrw, Int.toNat_mul (by omega) (by omega)]; congr 1; omega
  have hmm1 : ((top + (a : Int) + 1) * r.W).toNat - ((top + (a : Int)) * r.W).toNat = g.W.toNat := by rw [hz0, hz1]; omega
  refine WC.skip (hK22 _ _ (WC.seq (fun K24 hK24 => WC.block (WC.r1 hs21 [] rfl (WC.sr (WL.r 1 hs21 [] rfl (WL.cl Try.call33 rfl (k0_ _ _ _ _) ?_)))))))
  rintro _ whs25 ⟨rfl, hs25⟩
  replace hs25 := hs21.call0 hs25
  refine ⟨_, rfl, WL.r 1 hs25 [] rfl ?_⟩
  apply WL.gA 4 Acts.nil hs25 rfl
  ·intro g26 J27
   have qg26 := g26
   try simp only [bf, within_iff, within_not] at qg26
   refine WL.runA tbk 3 (Acts.nil.cons (j := 2) rfl g26) hs25 [] rfl trivial (WL.call (wantT rfl g26) rfl rfl (Run.call Try.call33 rfl rfl rfl) (k0_ _ _ _ _) ?_)
   rintro _ whs28 ⟨rfl, hs28⟩
   replace hs28 := hs25.call0 hs28
   refine ⟨_, rfl, WL.eA 4 Acts.nil J27 hs28 g26 rfl rfl⟩
  intro _ hs29
  refine WL.nil (WC.cq rfl (fun h30 qh30 => ?_) (fun h30 qh30 => ?_))
  ·have hin : top ≤ top + (a : Int) + n ∧ top + (a : Int) + n ≤ bot := by have h9 := h30; simp only [Bool.and_eq_true, within_iff] at h9; omega
   have hu0 : 0 ≤ (top + (a : Int) + n) * g.W := Int.mul_nonneg (by omega) (by omega)
   have hu1 : (top + (a : Int) + n + 1) * g.W = (top + (a : Int) + n) * g.W + g.W := by rw [Int.add_mul, Int.one_mul]
   have hu2 : (top + (a : Int) + n + 1) * g.W ≤ g.H * g.W := Int.mul_le_mul_of_nonneg_right (by omega) (by omega)
   rw [Int.mul_comm g.H g.W] at hu2
   have hsrc : ((top + (a : Int) + n + 1) * g.W).toNat - ((top + (a : Int) + n) * g.W).toNat = g.W.toNat := by omega
   refine WC.rH (hs29.rm L17) hs29 (fun _ hs31 => ?_)
   refine WH.rn [0, 1, 3, 4] (hs31.rm L17) [0, 2] rfl rfl (WH.o1 2 rfl (WL.cl Try.call79 rfl (k38_ r _ _ (ownGridR.ok (B := 549755813888) ho18 (hs31.ow L17) hsmr) ?_ ?_ ?_ ?_) ?_))
   iterate 4 first | assumption | rfl | omega
   rintro _ whs32 ⟨rfl, hs32⟩
   replace hs32 := hs31.call0 hs32
   refine ⟨_, rfl, WL.nil ⟨(hs32.rm L17), WH.o1 5 rfl (WL.cl Try.call79 rfl (k38_ g _ _ (okGridR.st0 f_g hs32) ?_ ?_ ?_ ?_) ?_)⟩⟩
   iterate 4 first | assumption | rfl | omega
   rintro _ whs33 ⟨rfl, hs33⟩
   replace hs33 := hs32.call0 hs33
   refine ⟨_, rfl, WL.nil ⟨(hs33.rm L17), WH.o1 6 rfl ?_⟩⟩
   refine WL.copyF (lo := ((top + (a : Int)) * r.W).toNat) (hs33.fr L17) ho18 (SlF.cutC (lo := (((top + (a : Int)) + n) * g.W).toNat) (hi := ((((top + (a : Int)) + n) + 1) * g.W).toNat) (SlF.st0 f_g.Cells hs33) (by refine ⟨?_, ?_, ?_⟩ <;> (omega))) Try.underlying23 Try.underlying23 inf58 rfl rfl rfl rfl rfl rfl rfl (.inl rfl) ?_ ?_ (fun L34 _ hs35 ho36 => ?_)
   · omega
   · omega
   replace hs35 := St.back [_, _, _] hs35
   refine WL.nil ⟨(hs35.rm L34), WH.dn (hK24 _ _ (WC.region (WL.r 3 hs35 [] rfl (WL.nil (tkN ?_)))))⟩
   have hF37 := (St.grp1 (L1 := L34) [_] ((((hs35.fb b2).fb b4).fr L34).fb b11))
   refine ⟨sbF rfl, _, hF37, _, ?_, a + 1, ⟨r.W, r.H, SlD.of ho36⟩, L34, rfl, rfl, ?_, ?_, ?_, ho36, ⟨?_, trivial⟩⟩
   · omega
   · omega
   · exact ⟨p1.1, p1.2.1, by simp only [List.length_append, List.length_take, List.length_drop]; omega⟩
   · intro k hk; show cat _ k = partF g.dat (rollF g.dat top bot n) (top.toNat * g.dat.W.toNat) ((a + 1) * g.dat.W.toNat) k; first | exact roll_row ht.1 hlo0 (by show _ = g.W.toNat; (try simp only [List.length_replicate]); omega) (by first | (simp only [List.length_take, List.length_drop]; omega) | (simp only [List.length_replicate]; omega)) (by (try simp only [List.length_replicate]); omega) (by omega) hab (fun j hj => by have _ := hin; rw [if_pos hin]; exact roll_src (by omega) (by show 0 ≤ g.W; omega) rfl hsrc hj) (p2 k hk) | exact roll_row ht.1 hlo0 (by show _ = g.W.toNat; (try simp only [List.length_replicate]); omega) (by first | (simp only [List.length_take, List.length_drop]; omega) | (simp only [List.length_replicate]; omega)) (by (try simp only [List.length_replicate]); omega) (by omega) hab (fun j hj => by rw [if_neg hout]; exact cat_rep hj) (p2 k hk)
   · (refine congrArg some (congrArg (Value.int _) ?_); omega)
  have hout : ¬ (top ≤ top + (a : Int) + n ∧ top + (a : Int) + n ≤ bot) := by intro h8; have h9 := h30; simp [within] at h9; omega
  refine WC.rH (hs29.rm L17) hs29 (fun _ hs38 => ?_)
  refine WH.rn [0, 1, 5, 6] (hs38.rm L17) [0, 2] rfl rfl (WH.o1 2 rfl (WL.cl Try.call79 rfl (k38_ r _ _ (ownGridR.ok (B := 549755813888) ho18 (hs38.ow L17) hsmr) ?_ ?_ ?_ ?_) ?_))
  iterate 4 first | assumption | rfl | omega
  rintro _ whs39 ⟨rfl, hs39⟩
  replace hs39 := hs38.call0 hs39
  refine ⟨_, rfl, WL.nil ⟨(hs39.rm L17), WH.o1 3 rfl (WL.cl Try.call96 rfl (k13_ _) ?_)⟩⟩
  rintro _ whs40 ⟨rfl, hs40⟩
  replace hs40 := hs39.call0 hs40
  refine ⟨_, rfl, WL.nil ⟨(hs40.rm L17), WH.o1 4 rfl (WL.buildF (F := encCell) hs40 ([blankC]) Try.runUnderlying23 Try.sizeOf58 Try.zeroValue58 rfl rfl rfl rfl rfl rfl rfl rfl rfl rfl rfl rfl (fun A44 c45 L41 whs42 hs42 ho43 => ?_))⟩⟩
  replace hs42 := St.back [_, _, _] hs42
  refine WL.nil ⟨((hs42.rm L41).rm L17), WH.o1 7 rfl (WL.cl Try.call95 rfl (k17_ _ _ _ _ _ _ (SlF.ofOwn ho43 (hs42.ow L41)) ?_ ?_) ?_)⟩
  iterate 2 first | assumption | rfl | omega
  rintro _ whs46 ⟨A47, c48, L1_49, rfl, hs46, ho50⟩
  replace hs46 := hs42.callF hs46
  refine ⟨_, rfl, ?_⟩
  replace hs46 := St.back [_, _, _] hs46
  refine WL.nil ⟨(((hs46.rm L1_49).rm L41).rm L17), WH.o1 8 rfl (WL.copyF (lo := ((top + (a : Int)) * r.W).toNat) (hs46.fr L17) ho18 (SlF.ofOwn ho50 (hs46.ow L1_49)) Try.underlying23 Try.underlying23 inf58 rfl rfl rfl rfl rfl rfl rfl (.inl rfl) ?_ ?_ (fun L51 _ hs52 ho53 => ?_))⟩
  · omega
  · omega
  replace hs52 := St.back [_, _, _] hs52
  refine WL.nil ⟨(((hs52.rm L51).rm L1_49).rm L41), WH.dn (hK24 _ _ (WC.region (WL.r 3 hs52 [] rfl (WL.nil (tkN ?_)))))⟩
  replace hs52 := ((hs52.rm L1_49).rm L41)
  have hF54 := (St.grp1 (L1 := L51) [_] ((((hs52.fb b2).fb b4).fr L51).fb b11))
  refine ⟨sbF rfl, _, hF54, _, ?_, a + 1, ⟨r.W, r.H, SlD.of ho53⟩, L51, rfl, rfl, ?_, ?_, ?_, ho53, ⟨?_, trivial⟩⟩
  · omega
  · omega
  · exact ⟨p1.1, p1.2.1, by simp only [List.length_append, List.length_take, List.length_drop]; omega⟩
  · intro k hk; show cat _ k = partF g.dat (rollF g.dat top bot n) (top.toNat * g.dat.W.toNat) ((a + 1) * g.dat.W.toNat) k; first | exact roll_row ht.1 hlo0 (by show _ = g.W.toNat; (try simp only [List.length_replicate]); omega) (by first | (simp only [List.length_take, List.length_drop]; omega) | (simp only [List.length_replicate]; omega)) (by (try simp only [List.length_replicate]); omega) (by omega) hab (fun j hj => by have _ := hin; rw [if_pos hin]; exact roll_src (by omega) (by show 0 ≤ g.W; omega) rfl hsrc hj) (p2 k hk) | exact roll_row ht.1 hlo0 (by show _ = g.W.toNat; (try simp only [List.length_replicate]); omega) (by first | (simp only [List.length_take, List.length_drop]; omega) | (simp only [List.length_replicate]; omega)) (by (try simp only [List.length_replicate]); omega) (by omega) hab (fun j hj => by rw [if_neg hout]; exact cat_rep hj) (p2 k hk)
  · (refine congrArg some (congrArg (Value.int _) ?_); omega)
 refine WC.exit (hK14 _ _ (WC.sr (WL.r 1 hs21 [0] rfl (WL.st tbk hs21 1 rfl rfl (fun _ hs55 => WL.nil (WC.ret (retV1 rfl (resV.cellA tbk hs55 1 rfl rfl rfl rfl) ?_)))))))
 refine ⟨r, _, rfl, (St.keep1 (hs55.fr L17)), ?_, ?_⟩
 · exact ho18
 · exact roll_done hg ht.1 ht.2.1 ht.2.2 (m := n) (by omega) p1.1 p1.2.1 p1.2.2 (.inl rfl) p2
theorem k53_ (v_s : Value) (s : List RowR) (L_s : Hp) (i : Int) (j : Int) (w : World) (o_s : OwnN encRowR ownRowR 56 v_s s L_s) (h_s : Hh w L_s) (hd_ : ((L_s).map (·.1)).Nodup) (hi : i = 0) (hj : 0 < j ∧ j ≤ s.length) (hn : s.length ≤ 549755813888) :
    Calls Try.prog 94 #[v_s, i64 i, i64 j] w fun e w' => ∃ A c n xs L1, e = .returned (.slice A n c) ∧ St w (L_s.map (·.1)) L1 w' ∧ OwnN encRowR ownRowR 56 (.slice A n c) xs L1 ∧ xs = s.drop j.toNat := by
 obtain ⟨A_s, c_s, rfl⟩ := o_s.shape
 refine enter 33 Try.func94 rfl Try.ntmps94 rfl rfl ?_
 have hs1 := St.takes1 w L_s h_s hd_
 refine WC.r1 hs1 [] rfl (WC.sr (WL.r 5 hs1 [] rfl ?_))
 have hc_ := OwnN.cap o_s
 refine WL.val rfl rfl rfl (Run.slice3 0 j.toNat s.length Try.runUnderlying29 Try.sizeOf56 rfl rfl rfl rfl rfl ?_ ?_ ?_ ?_) ?_
 · omega
 · omega
 · rfl
 · omega
 refine WL.nil (WC.seq (fun K2 hK2 => WC.r1 hs1 [] rfl ?_))
 refine WC.cq rfl (fun h3 qh3 => ?_) (fun h3 qh3 => ?_)
 ·exfalso; omega
 refine WC.skip (hK2 _ _ (WC.sr ?_))
 obtain ⟨L4, L5, hs8, ho6, ho7⟩ := OwnN.open_ hs1 o_s
 refine WL.r 3 hs8 [] rfl (WL.nil (WC.seq (fun K9 hK9 => WC.rH (hs8.rm L4) hs8 (fun _ hs10 => ?_))))
 refine WH.rn [0, 1] (hs10.rm L4) [] rfl rfl ?_
 refine WH.take 2 rfl (by kernel_rfl) rfl rfl rfl (hs10.rm L4) (fun w_ hs_ => (Run.sliceH0 0 Try.runUnderlying29 Try.sizeOf56 rfl rfl rfl ?_ ?_)) ?_
 · exact hi
 · exact Nat.zero_le _
 refine WH.rn [3, 4] (hs10.rm L4) [] rfl rfl ?_
 have hc_ := OwnF.cap ho6
 refine WH.take 5 rfl (by kernel_rfl) rfl rfl rfl (hs10.rm L4) (fun w_ hs_ => (Run.sliceL (j.toNat) Try.runUnderlying29 Try.sizeOf56 rfl rfl rfl ?_ ?_)) ?_
 · first | rfl | (omega)
 · refine ⟨?_, ?_, ?_⟩ <;> (omega)
 refine WH.o1 6 rfl ?_
 refine WL.appendR hs10 (OwnF.take (k := 0) ho6 (Nat.zero_le _)) (SlF.src (SlF.cutL (j.toNat) (SlF.ofOwn ho6 (hs10.ow L4)) (by refine ⟨?_, ?_, ?_⟩ <;> (omega))) Try.underlying29) Try.underlying29 inf56 rfl rfl rfl rfl rfl rfl rfl ?_ ?_ (fun L11 whs12 hs12 ho13 => ?_)
 · rw [List.length_drop]; omega
 · omega
 have hdl : 0 + (s.drop j.toNat).length = s.length - j.toNat := by rw [List.length_drop]; omega
 rw [hdl, List.take_zero, List.nil_append] at ho13
 rw [hdl]
 refine WL.nil ⟨(hs12.rm L11), WH.rn [7] (hs12.rm L11) [] rfl rfl (WH.dn (hK9 _ _ (WC.sr (WL.r 4 hs12 [] rfl ?_))))⟩
 refine WL.val rfl rfl rfl (Run.sliceT (s.length - j.toNat) s.length Try.runUnderlying29 Try.sizeOf56 rfl rfl rfl rfl ?_ ?_ ?_) ?_
 · omega
 · omega
 · omega
 refine WL.clearT hs12 ho13 Try.underlying29 Try.zeroValue56 rfl rfl rfl rfl rfl ?_ (fun L14 whs15 hs15 ho16 => ?_)
 · omega
 refine WL.nil (WC.r1 hs15 [] rfl (WC.ret (retV1 rfl (resV.tmp rfl) ?_)))
 obtain ⟨L17, hs18, ho19⟩ := OwnN.foldD ((hs15.fr L5).fr L14) ho16 ho7
 exact ⟨_, _, _, _, _, rfl, St.keep1 hs18, ho19, rfl⟩
theorem k54_ (b_s : Nat) (s : ScrR) (L_s : Hp) (n : Nat) (w : World) (hb_s : w.heap[b_s]? = some (Obj.cells (List.toArray [i64 s.W, i64 s.H, i64 s.Main.W, i64 s.Main.H, .slice s.Main.Cells.A s.Main.Cells.n s.Main.Cells.c, i64 s.Alt.W, i64 s.Alt.H, .slice s.Alt.Cells.A s.Alt.Cells.n s.Alt.Cells.c, .bool s.OnAlt, i64 s.X, i64 s.Y, .bool s.Wrap, i64 s.A.Fg, i64 s.A.Bg, .bool s.A.Bold, .bool s.A.Under, .bool s.A.Turn, i64 s.Top, i64 s.Bot, .bool s.NoWrap, .bool s.Hide, i64 s.SaveX, i64 s.SaveY, i64 s.SaveA.Fg, i64 s.SaveA.Bg, .bool s.SaveA.Bold, .bool s.SaveA.Under, .bool s.SaveA.Turn, .slice s.Tabs.A s.Tabs.n s.Tabs.c, i64 s.Limit, .slice s.Back.A s.Back.n s.Back.c]) 31 (0, 0))) (o_s : ownScrR s L_s) (h_s : Hh w L_s) (hd_ : (b_s :: L_s.map (·.1)).Nodup) (hm : gridOk s.Main.dat = true) (hlim : 0 ≤ s.Limit ∧ s.Limit ≤ 1048576) (hb : (s.Back.xs.length : Int) ≤ s.Limit) (hn : (n : Int) ≤ s.Main.H) (hsm : smScr 1048576 s.dat) :
    Calls Try.prog 63 #[.pointer (some ⟨b_s, 0, none⟩), .int .i64 n] w fun e w' => ∃ r L1, e = .returned (.tuple #[]) ∧ St w (b_s :: L_s.map (·.1)) ([(b_s, Obj.cells (List.toArray [i64 r.W, i64 r.H, i64 r.Main.W, i64 r.Main.H, .slice r.Main.Cells.A r.Main.Cells.n r.Main.Cells.c, i64 r.Alt.W, i64 r.Alt.H, .slice r.Alt.Cells.A r.Alt.Cells.n r.Alt.Cells.c, .bool r.OnAlt, i64 r.X, i64 r.Y, .bool r.Wrap, i64 r.A.Fg, i64 r.A.Bg, .bool r.A.Bold, .bool r.A.Under, .bool r.A.Turn, i64 r.Top, i64 r.Bot, .bool r.NoWrap, .bool r.Hide, i64 r.SaveX, i64 r.SaveY, i64 r.SaveA.Fg, i64 r.SaveA.Bg, .bool r.SaveA.Bold, .bool r.SaveA.Under, .bool r.SaveA.Turn, .slice r.Tabs.A r.Tabs.n r.Tabs.c, i64 r.Limit, .slice r.Back.A r.Back.n r.Back.c]) 31 (0, 0))] ++ L1) w' ∧ ownScrR r L1 ∧ r.dat = keepRows s.dat n := by
 have hsmB : smScr 549755813888 s.dat := smScr_mono hsm (by decide)
 have hgb : (1 ≤ s.Main.W ∧ s.Main.W ≤ 120) ∧ (1 ≤ s.Main.H ∧ s.Main.H ≤ 120) ∧ 1 ≤ s.Main.W * s.Main.H ∧ s.Main.W * s.Main.H ≤ 4000 := gridOk_bnd hm
 have hgl : (s.Main.Cells.xs.length : Int) = s.Main.W * s.Main.H := by have h_ := hm; unfold gridOk at h_; rw [Bool.and_eq_true, Bool.and_eq_true, decide_eq_true_eq] at h_; exact h_.1.2
 refine enter 49 Try.func63 rfl Try.ntmps63 rfl rfl ?_
 have hs1 := St.takeP w b_s _ L_s hb_s h_s hd_
 refine WC.seq (fun K2 hK2 => WC.r1 hs1 [] rfl (WC.block ?_))
 have hM7 := (St.grp1 (L1 := L_s) [_] ((hs1.fr L_s).fb b_s))
 refine WC.lV [0, 6] rfl hM7 (fun k_ (a_ : Hp) f => ∃ (i : Nat) (r : ScrR) (L5 : Hp), k_ = n - i ∧ a_ = [(b_s, .cells (List.toArray [i64 r.W, i64 r.H, i64 r.Main.W, i64 r.Main.H, .slice r.Main.Cells.A r.Main.Cells.n r.Main.Cells.c, i64 r.Alt.W, i64 r.Alt.H, .slice r.Alt.Cells.A r.Alt.Cells.n r.Alt.Cells.c, .bool r.OnAlt, i64 r.X, i64 r.Y, .bool r.Wrap, i64 r.A.Fg, i64 r.A.Bg, .bool r.A.Bold, .bool r.A.Under, .bool r.A.Turn, i64 r.Top, i64 r.Bot, .bool r.NoWrap, .bool r.Hide, i64 r.SaveX, i64 r.SaveY, i64 r.SaveA.Fg, i64 r.SaveA.Bg, .bool r.SaveA.Bold, .bool r.SaveA.Under, .bool r.SaveA.Turn, .slice r.Tabs.A r.Tabs.n r.Tabs.c, i64 r.Limit, .slice r.Back.A r.Back.n r.Back.c]) 31 (0, 0))] ++ L5 ∧ (i ≤ n) ∧ (r.dat = keepTo s.dat i) ∧ ownScrR r L5 ∧ Sub [(7, .int .i64 i)] f) (((fun (i : Nat) => n - i) (0))) ?_ ?_
 ·refine ⟨0, s, L_s, rfl, rfl, ?_, ?_, o_s, ⟨rfl, trivial⟩⟩
  · omega
  · exact keepTo_zero.symm
 rintro _ _ f w ⟨i, r, L5, rfl, rfl, p0, p1, ho6, hG⟩ hF hs8
 refine WC.sub _ (hG.app hF) ?_
 clear hG hF
 replace hs8 := St.ungrp1 [_] hs8
 have hsmr : smScr 549755813888 r.dat := by rw [p1]; exact keepTo_sm (smScr_mono hsm (by decide)) hm (by simp only [ScrR.dat, List.length_map]; omega) (by decide)
 have hrb : r.Back.xs.length = s.Back.xs.length + i := by have h9 := congrArg (fun d : ScrD => d.Back.length) p1; simpa [ScrR.dat, keepTo] using h9
 have hrm : r.Main.dat = s.Main.dat := congrArg ScrD.Main p1
 have hrW : r.Main.W = s.Main.W := congrArg GridD.W hrm
 have hrC : r.Main.Cells.xs = s.Main.Cells.xs := congrArg GridD.Cells hrm
 have hrL : r.Limit = s.Limit := congrArg ScrD.Limit p1
 obtain ⟨⟨hrn1, hrn2⟩, _, _, hrn3, hrn4⟩ := ownScrR.lens ‹ownScrR r _›
 refine WC.r1 hs8 [] rfl (WC.seq (fun K9 hK9 => ?_))
 refine WC.cD rfl (fun qh10 => ?_) (fun qh10 => ?_)
 ·have hv0 : 0 ≤ (i : Int) * r.Main.W := Int.mul_nonneg (by omega) (by omega)
  have hv1 : ((i : Int) + 1) * r.Main.W = (i : Int) * r.Main.W + r.Main.W := by rw [Int.add_mul, Int.one_mul]
  have hv2 : ((i : Int) + 1) * r.Main.W ≤ s.Main.H * s.Main.W := by rw [hrW]; exact Int.mul_le_mul_of_nonneg_right (by omega) (by omega)
  rw [Int.mul_comm s.Main.H] at hv2
  have hrl : r.Main.Cells.xs.length = s.Main.Cells.xs.length := congrArg List.length hrC
  have hrow : (RowD.mk ((r.Main.Cells.xs.drop ((i : Int) * r.Main.W).toNat).take ((((i : Int) + 1) * r.Main.W).toNat - ((i : Int) * r.Main.W).toNat))) = rowAt s.dat.Main i := by
    have e1 : ((i : Int) * r.Main.W).toNat = i * s.Main.W.toNat := by rw [hrW]; exact toNat_mul_nat (by omega)
    have e2 : (((i : Int) + 1) * r.Main.W).toNat - i * s.Main.W.toNat = s.Main.W.toNat := by rw [← e1]; omega
    rw [e1, e2, hrC]; rfl
  refine WC.skip (hK9 _ _ (WC.seq (fun K11 hK11 => WC.block (WC.r1 hs8 [] rfl (WC.rG 17 (hs8.d1.rm L5) (hs8.rm L5) hs8 (fun _ hs12 => ?_))))))
  refine WG.rn [0, 1, 2, 3, 4, 5, 6, 7, 8, 9] (hs12.rm L5) [0, 0] rfl rfl (WG.o1 10 rfl rfl (WL.cl Try.call79 rfl (k38_ r.Main _ _ (ownScrR.ok (B := 549755813888) ho6 (hs12.ow L5) hsmr).Main ?_ ?_ ?_ ?_) ?_))
  iterate 4 first | assumption | rfl | omega
  rintro _ whs13 ⟨rfl, hs13⟩
  replace hs13 := hs12.call0 hs13
  refine ⟨_, rfl, WL.nil ⟨(hs13.rm L5), WG.o1 11 rfl rfl ?_⟩⟩
  refine WL.cl Try.call70 rfl (k34_ _ _ _ _ _ (SlF.cutC (lo := ((i : Int) * r.Main.W).toNat) (hi := (((i : Int) + 1) * r.Main.W).toNat) (ownScrR.ok (B := 549755813888) ho6 (hs13.ow L5) hsmr).Main.Cells (by refine ⟨?_, ?_, ?_⟩ <;> (omega))) ?_) ?_
  · first | assumption | rfl | omega
  rintro _ whs14 ⟨A15, c16, L1_17, rfl, hs14, ho18⟩
  replace hs14 := hs13.callF hs14
  refine ⟨_, rfl, ?_⟩
  replace hs14 := St.back [_] hs14
  refine WL.nil ⟨((hs14.rm L1_17).rm L5), ?_⟩
  refine WG.tk 12 rfl (by kernel_rfl) rfl rfl rfl ((hs14.rm L1_17).rm L5) (fun w_ hs_ => (Run.build rfl rfl rfl rfl (built_56_0 _ _ _))) ?_
  refine WG.o1 13 rfl rfl (WL.buildSlice hs14 Try.runUnderlying29 Try.sizeOf56 Try.zeroValue56 rfl rfl rfl rfl rfl rfl rfl rfl rfl rfl (fun b19 whs20 hs20 => WL.nil ⟨((hs20.d1.rm L1_17).rm L5), WG.o1 14 rfl rfl ?_⟩))
  obtain ⟨L21, L22, L23, L24, hs29, ho25, ho26, ho27, ho28⟩ := ownScrR.op hs20 ho6
  have hs30 := ((hs29.fb b_s).fb b19)
  obtain ⟨L31, L32, hs35, ho33, ho34⟩ := OwnN.open_ (hs30.fr L24) ho28
  have hs36 := ((hs35.fb b_s).fb b19)
  refine WL.appendG (hs36.fr L31) ho33 (srcF (F := encRowR) (ys := [(⟨SlD.of ho18⟩ : RowR)]) Try.underlying29 rfl rfl (hs36.own _ (nthL_mem (i := 0) rfl)).1) Try.underlying29 inf56 rfl rfl rfl rfl rfl rfl rfl rfl rfl rfl ?_ (fun A40 c41 L37 whs38 hs38 ho39 => ?_)
  · simp; omega
  replace hs38 := St.back [_, _] hs38
  obtain ⟨L42, hs43, hb44⟩ := Bag.put (x := (⟨SlD.of ho18⟩ : RowR)) ((hs38.fr L1_17).fr L32) ho34 ho18
  have hs45 := ((hs43.fb b_s).fb b19)
  obtain ⟨L47, hs46, ho48⟩ := OwnN.fold ((hs45.fr L42).fr L37) ho39 hb44
  have hs49 := ((hs46.fb b_s).fb b19)
  refine WL.nil ⟨((((hs49.d1.rm L47).rm L21).rm L22).rm L23), WG.rn [15, 16] ((((hs49.d1.rm L47).rm L21).rm L22).rm L23) [] rfl rfl (WG.oK rfl (WL.st tbk hs49 1 rfl rfl (fun _ hs50 => WL.nil ⟨((((hs50.d1.d1.rm L47).rm L21).rm L22).rm L23), WH.dn (hK11 _ _ (WC.region ?_))⟩)))⟩
  refine WL.r 2 hs50 [] rfl (WL.nil (tkN ?_))
  obtain ⟨L52, hs51, ho53⟩ := ownScrR.fl hs50 ho25 ho26 ho27 ho48
  have hs54 := ((hs51.fb b_s).fb b19)
  replace hs54 := hs54.d1
  have hF55 := (St.grp1 (L1 := L52) [_] ((hs54.fr L52).fb b_s))
  refine ⟨sbF rfl, _, hF55, _, ?_, i + 1, ⟨r.W, r.H, ⟨r.Main.W, r.Main.H, SlD.of ho25⟩, ⟨r.Alt.W, r.Alt.H, SlD.of ho26⟩, r.OnAlt, r.X, r.Y, r.Wrap, ⟨r.A.Fg, r.A.Bg, r.A.Bold, r.A.Under, r.A.Turn⟩, r.Top, r.Bot, r.NoWrap, r.Hide, r.SaveX, r.SaveY, ⟨r.SaveA.Fg, r.SaveA.Bg, r.SaveA.Bold, r.SaveA.Under, r.SaveA.Turn⟩, SlD.of ho27, r.Limit, SlD.ofN ho48⟩, L52, rfl, rfl, ?_, ?_, (by exact ho53), ⟨rfl, trivial⟩⟩
  · omega
  · omega
  · rw [keepTo_succ (r := ⟨_⟩) hrow, ← p1]; simp only [ScrR.dat, List.map_append, List.map_cons, List.map_nil]; rfl
 have hin : i = n := by omega
 rw [hin] at p1
 have hrd : r.dat.Back.length = r.Back.xs.length := List.length_map _
 refine WC.exit (hK2 _ _ (WC.q1 hs8 [0, 0] rfl (fun _ hs56 => WC.r1 hs56 [] rfl ?_)))
 refine WC.cD rfl (fun qh57 => ?_) (fun qh57 => ?_)
 ·refine WC.region (WL.r 6 hs56 [0] rfl ?_)
  obtain ⟨L59, L60, L61, L62, hs67, ho63, ho64, ho65, ho66⟩ := ownScrR.op hs56 ho6
  have hs68 := (hs67.fb b_s)
  refine WL.cl Try.call94 rfl (k53_ _ _ _ _ _ _ ho66 (hs68.ow L62) (St.nodupL (hs68.fr L62)) ?_ ?_ ?_) ?_
  iterate 3 first | assumption | rfl | omega
  rintro _ whs58 ⟨A69, c70, n71, xs72, L1_73, rfl, hs58, ho74, hd75⟩
  replace hs58 := St.lend (hs68.fr L62) hs58
  refine ⟨_, rfl, ?_⟩
  replace hs58 := St.back [_] hs58
  refine WL.r 2 hs58 [] rfl (WL.st tbk hs58 0 rfl rfl (fun _ hs76 => WL.nil (retK0 rfl ?_)))
  obtain ⟨L78, hs77, ho79⟩ := ownScrR.fl hs76 ho63 ho64 ho65 ho74
  have hs80 := (hs77.fb b_s)
  refine ownScrR.retp rfl ((hs80.fr L78).fb b_s) ho79 ?_
  · refine Eq.trans ?_ (keepTo_drop p1 (k := ((r.Back.n : Int) - r.Limit).toNat) (by show _ = _ - s.Limit.toNat; omega)); simp only [ScrR.dat, hd75, List.map_drop]
 refine WC.skip (retK0 rfl (⟨r, _, rfl, St.keepP (L1 := L5) ((hs56.fr L5).fb b_s), ho6, ?_⟩))
 · exact keepTo_all p1 (by show _ ≤ s.Limit.toNat; omega)
theorem k55_ (b_s : Nat) (s : ScrR) (L_s : Hp) (top : Int) (bot : Int) (n : Int) (w : World) (hb_s : w.heap[b_s]? = some (Obj.cells (List.toArray [i64 s.W, i64 s.H, i64 s.Main.W, i64 s.Main.H, .slice s.Main.Cells.A s.Main.Cells.n s.Main.Cells.c, i64 s.Alt.W, i64 s.Alt.H, .slice s.Alt.Cells.A s.Alt.Cells.n s.Alt.Cells.c, .bool s.OnAlt, i64 s.X, i64 s.Y, .bool s.Wrap, i64 s.A.Fg, i64 s.A.Bg, .bool s.A.Bold, .bool s.A.Under, .bool s.A.Turn, i64 s.Top, i64 s.Bot, .bool s.NoWrap, .bool s.Hide, i64 s.SaveX, i64 s.SaveY, i64 s.SaveA.Fg, i64 s.SaveA.Bg, .bool s.SaveA.Bold, .bool s.SaveA.Under, .bool s.SaveA.Turn, .slice s.Tabs.A s.Tabs.n s.Tabs.c, i64 s.Limit, .slice s.Back.A s.Back.n s.Back.c]) 31 (0, 0))) (o_s : ownScrR s L_s) (h_s : Hh w L_s) (hd_ : (b_s :: L_s.map (·.1)).Nodup) (hg : gridOk (shownD s.dat) = true) (ht : 0 ≤ top ∧ top ≤ bot ∧ bot < (shownD s.dat).H) (hn : -100000 ≤ n ∧ n ≤ 100000) (hsmB : smScr 549755813888 s.dat) (hx : s.OnAlt = false) :
    Calls Try.prog 108 #[.pointer (some ⟨b_s, 0, none⟩), i64 top, i64 bot, i64 n] w fun e w' => ∃ r L1, e = .returned (.tuple #[]) ∧ St w (b_s :: L_s.map (·.1)) ([(b_s, Obj.cells (List.toArray [i64 r.W, i64 r.H, i64 r.Main.W, i64 r.Main.H, .slice r.Main.Cells.A r.Main.Cells.n r.Main.Cells.c, i64 r.Alt.W, i64 r.Alt.H, .slice r.Alt.Cells.A r.Alt.Cells.n r.Alt.Cells.c, .bool r.OnAlt, i64 r.X, i64 r.Y, .bool r.Wrap, i64 r.A.Fg, i64 r.A.Bg, .bool r.A.Bold, .bool r.A.Under, .bool r.A.Turn, i64 r.Top, i64 r.Bot, .bool r.NoWrap, .bool r.Hide, i64 r.SaveX, i64 r.SaveY, i64 r.SaveA.Fg, i64 r.SaveA.Bg, .bool r.SaveA.Bold, .bool r.SaveA.Under, .bool r.SaveA.Turn, .slice r.Tabs.A r.Tabs.n r.Tabs.c, i64 r.Limit, .slice r.Back.A r.Back.n r.Back.c]) 31 (0, 0))] ++ L1) w' ∧ ownScrR r L1 ∧ r.dat = rollD s.dat top bot n := by
 refine enter 20 Try.func108 rfl Try.ntmps108 rfl rfl ?_
 have hs1 := St.takeP w b_s _ L_s hb_s h_s hd_
 refine WC.sr (WL.r 1 hs1 [] rfl ?_)
 have hF2 := ((hs1.fr L_s).fb b_s)
 refine WL.cl Try.call37 rfl (k43_ _ s _ _ (St.headP hF2) o_s (St.ownP hF2) (St.nodupP hF2) ?_) ?_
 · first | assumption | rfl | omega
 rintro _ whs3 ⟨r4, L5, rfl, hs3, ho6, hd7⟩
 replace hs3 := St.lendP hF2 hs3
 refine ⟨_, rfl, ?_⟩
 have hd2 := hd7
 have hM2 : r4.Main.dat = shownD s.dat := (congrArg ScrD.Main hd2).trans (by unfold shownD; rw [if_neg (show ¬ s.dat.OnAlt = true from by show ¬ s.OnAlt = true; first | exact hx | (rw [hx]; decide))])
 have hg2 : gridOk r4.Main.dat = true := by rw [hM2]; exact hg
 have ht2 : 0 ≤ top ∧ top ≤ bot ∧ bot < r4.Main.H := by have h9 := congrArg GridD.H hM2; simp only [GridR.dat] at h9; rw [h9]; exact ht
 refine WL.r 1 hs3 [] rfl (WL.nil (WC.region (WL.r 7 hs3 [0] rfl ?_)))
 refine WL.cl Try.call128 rfl (k52_ r4.Main _ _ _ _ (ownScrR.ok (B := 549755813888) ho6 (hs3.ow L5) (by rw [hd7]; assumption)).Main ?_ ?_ ?_) ?_
 iterate 3 first | assumption | rfl | omega
 rintro _ whs8 ⟨r9, L1_10, rfl, hs8, ho11, hd12⟩
 replace hs8 := hs3.callF hs8
 refine ⟨_, rfl, ?_⟩
 replace hs8 := St.back [_] hs8
 have hd3 := hd12
 refine WL.r 1 hs8 [] rfl (WL.st tbk hs8 0 rfl rfl (fun _ hs13 => WL.nil (retK0 rfl ?_)))
 obtain ⟨L14, L15, L16, L17, hs22, ho18, ho19, ho20, ho21⟩ := ownScrR.op hs13 ho6
 have hs23 := (hs22.fb b_s)
 obtain ⟨L25, hs24, ho26⟩ := ownScrR.fl hs23 ho11 ho19 ho20 ho21
 have hs27 := (hs24.fb b_s)
 refine ownScrR.retp rfl ((hs27.fr L25).fb b_s) ho26 ?_
 · rw [show rollD s.dat top bot n = { s.dat with Main := gRoll (shownD s.dat) top bot n } from by unfold rollD putD; rw [if_neg (show ¬ s.dat.OnAlt = true from by show ¬ s.OnAlt = true; first | exact hx | (rw [hx]; decide))], ← hd2]; exact ScrD.ext' rfl rfl (hd3.trans (by rw [hM2, hd2])) rfl rfl rfl rfl rfl rfl rfl rfl rfl rfl rfl rfl rfl rfl rfl rfl
theorem k56_ (b_s : Nat) (s : ScrR) (L_s : Hp) (top : Int) (bot : Int) (n : Int) (w : World) (hb_s : w.heap[b_s]? = some (Obj.cells (List.toArray [i64 s.W, i64 s.H, i64 s.Main.W, i64 s.Main.H, .slice s.Main.Cells.A s.Main.Cells.n s.Main.Cells.c, i64 s.Alt.W, i64 s.Alt.H, .slice s.Alt.Cells.A s.Alt.Cells.n s.Alt.Cells.c, .bool s.OnAlt, i64 s.X, i64 s.Y, .bool s.Wrap, i64 s.A.Fg, i64 s.A.Bg, .bool s.A.Bold, .bool s.A.Under, .bool s.A.Turn, i64 s.Top, i64 s.Bot, .bool s.NoWrap, .bool s.Hide, i64 s.SaveX, i64 s.SaveY, i64 s.SaveA.Fg, i64 s.SaveA.Bg, .bool s.SaveA.Bold, .bool s.SaveA.Under, .bool s.SaveA.Turn, .slice s.Tabs.A s.Tabs.n s.Tabs.c, i64 s.Limit, .slice s.Back.A s.Back.n s.Back.c]) 31 (0, 0))) (o_s : ownScrR s L_s) (h_s : Hh w L_s) (hd_ : (b_s :: L_s.map (·.1)).Nodup) (hg : gridOk (shownD s.dat) = true) (ht : 0 ≤ top ∧ top ≤ bot ∧ bot < (shownD s.dat).H) (hn : -100000 ≤ n ∧ n ≤ 100000) (hsmB : smScr 549755813888 s.dat) (hx : s.OnAlt = true) :
    Calls Try.prog 108 #[.pointer (some ⟨b_s, 0, none⟩), i64 top, i64 bot, i64 n] w fun e w' => ∃ r L1, e = .returned (.tuple #[]) ∧ St w (b_s :: L_s.map (·.1)) ([(b_s, Obj.cells (List.toArray [i64 r.W, i64 r.H, i64 r.Main.W, i64 r.Main.H, .slice r.Main.Cells.A r.Main.Cells.n r.Main.Cells.c, i64 r.Alt.W, i64 r.Alt.H, .slice r.Alt.Cells.A r.Alt.Cells.n r.Alt.Cells.c, .bool r.OnAlt, i64 r.X, i64 r.Y, .bool r.Wrap, i64 r.A.Fg, i64 r.A.Bg, .bool r.A.Bold, .bool r.A.Under, .bool r.A.Turn, i64 r.Top, i64 r.Bot, .bool r.NoWrap, .bool r.Hide, i64 r.SaveX, i64 r.SaveY, i64 r.SaveA.Fg, i64 r.SaveA.Bg, .bool r.SaveA.Bold, .bool r.SaveA.Under, .bool r.SaveA.Turn, .slice r.Tabs.A r.Tabs.n r.Tabs.c, i64 r.Limit, .slice r.Back.A r.Back.n r.Back.c]) 31 (0, 0))] ++ L1) w' ∧ ownScrR r L1 ∧ r.dat = rollD s.dat top bot n := by
 refine enter 20 Try.func108 rfl Try.ntmps108 rfl rfl ?_
 have hs1 := St.takeP w b_s _ L_s hb_s h_s hd_
 refine WC.sr (WL.r 1 hs1 [] rfl ?_)
 have hF2 := ((hs1.fr L_s).fb b_s)
 refine WL.cl Try.call37 rfl (k44_ _ s _ _ (St.headP hF2) o_s (St.ownP hF2) (St.nodupP hF2) ?_) ?_
 · first | assumption | rfl | omega
 rintro _ whs3 ⟨r4, L5, rfl, hs3, ho6, hd7⟩
 replace hs3 := St.lendP hF2 hs3
 refine ⟨_, rfl, ?_⟩
 have hd2 := hd7
 have hM2 : r4.Alt.dat = shownD s.dat := (congrArg ScrD.Alt hd2).trans (by unfold shownD; rw [if_pos (show  s.dat.OnAlt = true from by show  s.OnAlt = true; first | exact hx | (rw [hx]; decide))])
 have hg2 : gridOk r4.Alt.dat = true := by rw [hM2]; exact hg
 have ht2 : 0 ≤ top ∧ top ≤ bot ∧ bot < r4.Alt.H := by have h9 := congrArg GridD.H hM2; simp only [GridR.dat] at h9; rw [h9]; exact ht
 refine WL.r 1 hs3 [] rfl (WL.nil (WC.region (WL.r 7 hs3 [0] rfl ?_)))
 refine WL.cl Try.call128 rfl (k52_ r4.Alt _ _ _ _ (ownScrR.ok (B := 549755813888) ho6 (hs3.ow L5) (by rw [hd7]; assumption)).Alt ?_ ?_ ?_) ?_
 iterate 3 first | assumption | rfl | omega
 rintro _ whs8 ⟨r9, L1_10, rfl, hs8, ho11, hd12⟩
 replace hs8 := hs3.callF hs8
 refine ⟨_, rfl, ?_⟩
 replace hs8 := St.back [_] hs8
 have hd3 := hd12
 refine WL.r 1 hs8 [] rfl (WL.st tbk hs8 0 rfl rfl (fun _ hs13 => WL.nil (retK0 rfl ?_)))
 obtain ⟨L14, L15, L16, L17, hs22, ho18, ho19, ho20, ho21⟩ := ownScrR.op hs13 ho6
 have hs23 := (hs22.fb b_s)
 obtain ⟨L25, hs24, ho26⟩ := ownScrR.fl hs23 ho18 ho11 ho20 ho21
 have hs27 := (hs24.fb b_s)
 refine ownScrR.retp rfl ((hs27.fr L25).fb b_s) ho26 ?_
 · rw [show rollD s.dat top bot n = { s.dat with Alt := gRoll (shownD s.dat) top bot n } from by unfold rollD putD; rw [if_pos (show  s.dat.OnAlt = true from by show  s.OnAlt = true; first | exact hx | (rw [hx]; decide))], ← hd2]; exact ScrD.ext' rfl rfl rfl (hd3.trans (by rw [hM2, hd2])) rfl rfl rfl rfl rfl rfl rfl rfl rfl rfl rfl rfl rfl rfl rfl
theorem k57_ (b_s : Nat) (s : ScrR) (L_s : Hp) (top : Int) (bot : Int) (n : Int) (w : World) (hb_s : w.heap[b_s]? = some (Obj.cells (List.toArray [i64 s.W, i64 s.H, i64 s.Main.W, i64 s.Main.H, .slice s.Main.Cells.A s.Main.Cells.n s.Main.Cells.c, i64 s.Alt.W, i64 s.Alt.H, .slice s.Alt.Cells.A s.Alt.Cells.n s.Alt.Cells.c, .bool s.OnAlt, i64 s.X, i64 s.Y, .bool s.Wrap, i64 s.A.Fg, i64 s.A.Bg, .bool s.A.Bold, .bool s.A.Under, .bool s.A.Turn, i64 s.Top, i64 s.Bot, .bool s.NoWrap, .bool s.Hide, i64 s.SaveX, i64 s.SaveY, i64 s.SaveA.Fg, i64 s.SaveA.Bg, .bool s.SaveA.Bold, .bool s.SaveA.Under, .bool s.SaveA.Turn, .slice s.Tabs.A s.Tabs.n s.Tabs.c, i64 s.Limit, .slice s.Back.A s.Back.n s.Back.c]) 31 (0, 0))) (o_s : ownScrR s L_s) (h_s : Hh w L_s) (hd_ : (b_s :: L_s.map (·.1)).Nodup) (hg : gridOk (shownD s.dat) = true) (ht : 0 ≤ top ∧ top ≤ bot ∧ bot < (shownD s.dat).H) (hn : -100000 ≤ n ∧ n ≤ 100000) (hsmB : smScr 549755813888 s.dat) :
    Calls Try.prog 108 #[.pointer (some ⟨b_s, 0, none⟩), i64 top, i64 bot, i64 n] w fun e w' => ∃ r L1, e = .returned (.tuple #[]) ∧ St w (b_s :: L_s.map (·.1)) ([(b_s, Obj.cells (List.toArray [i64 r.W, i64 r.H, i64 r.Main.W, i64 r.Main.H, .slice r.Main.Cells.A r.Main.Cells.n r.Main.Cells.c, i64 r.Alt.W, i64 r.Alt.H, .slice r.Alt.Cells.A r.Alt.Cells.n r.Alt.Cells.c, .bool r.OnAlt, i64 r.X, i64 r.Y, .bool r.Wrap, i64 r.A.Fg, i64 r.A.Bg, .bool r.A.Bold, .bool r.A.Under, .bool r.A.Turn, i64 r.Top, i64 r.Bot, .bool r.NoWrap, .bool r.Hide, i64 r.SaveX, i64 r.SaveY, i64 r.SaveA.Fg, i64 r.SaveA.Bg, .bool r.SaveA.Bold, .bool r.SaveA.Under, .bool r.SaveA.Turn, .slice r.Tabs.A r.Tabs.n r.Tabs.c, i64 r.Limit, .slice r.Back.A r.Back.n r.Back.c]) 31 (0, 0))] ++ L1) w' ∧ ownScrR r L1 ∧ r.dat = rollD s.dat top bot n := by
 rcases Bool.eq_false_or_eq_true s.OnAlt with hx_ | hx_
 · exact k56_ b_s s L_s top bot n w hb_s o_s h_s hd_ hg ht hn hsmB hx_
 · exact k55_ b_s s L_s top bot n w hb_s o_s h_s hd_ hg ht hn hsmB hx_
theorem k58_ (b_s : Nat) (s : ScrR) (L_s : Hp) (n : Int) (w : World) (hb_s : w.heap[b_s]? = some (Obj.cells (List.toArray [i64 s.W, i64 s.H, i64 s.Main.W, i64 s.Main.H, .slice s.Main.Cells.A s.Main.Cells.n s.Main.Cells.c, i64 s.Alt.W, i64 s.Alt.H, .slice s.Alt.Cells.A s.Alt.Cells.n s.Alt.Cells.c, .bool s.OnAlt, i64 s.X, i64 s.Y, .bool s.Wrap, i64 s.A.Fg, i64 s.A.Bg, .bool s.A.Bold, .bool s.A.Under, .bool s.A.Turn, i64 s.Top, i64 s.Bot, .bool s.NoWrap, .bool s.Hide, i64 s.SaveX, i64 s.SaveY, i64 s.SaveA.Fg, i64 s.SaveA.Bg, .bool s.SaveA.Bold, .bool s.SaveA.Under, .bool s.SaveA.Turn, .slice s.Tabs.A s.Tabs.n s.Tabs.c, i64 s.Limit, .slice s.Back.A s.Back.n s.Back.c]) 31 (0, 0))) (o_s : ownScrR s L_s) (h_s : Hh w L_s) (hd_ : (b_s :: L_s.map (·.1)).Nodup) (hf : ScrFine s.dat) (hn : 0 ≤ n ∧ n ≤ 100000) (hsm : smScr 1048576 s.dat) :
    Calls Try.prog 80 #[.pointer (some ⟨b_s, 0, none⟩), i64 n] w fun e w' => ∃ r L1, e = .returned (.tuple #[]) ∧ St w (b_s :: L_s.map (·.1)) ([(b_s, Obj.cells (List.toArray [i64 r.W, i64 r.H, i64 r.Main.W, i64 r.Main.H, .slice r.Main.Cells.A r.Main.Cells.n r.Main.Cells.c, i64 r.Alt.W, i64 r.Alt.H, .slice r.Alt.Cells.A r.Alt.Cells.n r.Alt.Cells.c, .bool r.OnAlt, i64 r.X, i64 r.Y, .bool r.Wrap, i64 r.A.Fg, i64 r.A.Bg, .bool r.A.Bold, .bool r.A.Under, .bool r.A.Turn, i64 r.Top, i64 r.Bot, .bool r.NoWrap, .bool r.Hide, i64 r.SaveX, i64 r.SaveY, i64 r.SaveA.Fg, i64 r.SaveA.Bg, .bool r.SaveA.Bold, .bool r.SaveA.Under, .bool r.SaveA.Turn, .slice r.Tabs.A r.Tabs.n r.Tabs.c, i64 r.Limit, .slice r.Back.A r.Back.n r.Back.c]) 31 (0, 0))] ++ L1) w' ∧ ownScrR r L1 ∧ r.dat = rollUpD s.dat n := by
 have hsmB : smScr 549755813888 s.dat := by first | assumption | exact smScr_mono hsm (by decide)
 have hok9 := hf.ok
 obtain ⟨hb1, hb2, hb3, hb4, hb5, hb6⟩ := scrOk_bnd hok9
 obtain ⟨hm, hma⟩ := scrOk_main hok9
 simp only [ScrR.dat, GridR.dat, List.length_map] at hb1 hb2 hb3 hb4 hb5 hb6
 have hgs0 : gridOk (shownD s.dat) = true := hf.shown.1
 have hts0 : 0 ≤ s.Top ∧ s.Top ≤ s.Bot ∧ s.Bot < (shownD s.dat).H := by rw [hf.shown.2.2]; exact ⟨hf.reg.1.1, hf.reg.1.2, hf.reg.2.1⟩
 refine enter 36 Try.func80 rfl Try.ntmps80 rfl rfl ?_
 have hs1 := St.takeP w b_s _ L_s hb_s h_s hd_
 refine WC.seq (fun K2 hK2 => WC.sr (WL.r 6 hs1 [0] rfl (WL.pA tbk 5 Acts.nil hs1 [0] rfl rfl rfl rfl (fun g_ => ⟨rfl, trivial⟩) (WL.nil ?_))))
 refine WC.cq rfl (fun h3 qh3 => ?_) (fun h3 qh3 => ?_)
 ·have hk : keepD s.dat n = keepRows s.dat (min n (s.Bot + 1)).toNat := by unfold keepD; rw [if_pos (by show s.OnAlt = false ∧ s.Top = 0; have h9 := h3; simpa using h9)]; rfl
  refine WC.region (WL.r 7 hs1 [0] rfl (WL.val rfl rfl rfl (Run.asN ((min n (s.Bot + 1)).toNat) (Run.min rfl rfl rfl) ?_) ?_))
  · omega
  have hF4 := ((hs1.fr L_s).fb b_s)
  refine WL.cl Try.call63 rfl (k54_ _ s _ _ _ (St.headP hF4) o_s (St.ownP hF4) (St.nodupP hF4) ?_ ?_ ?_ ?_ ?_) ?_
  iterate 5 first | assumption | rfl | omega
  rintro _ whs5 ⟨r6, L7, rfl, hs5, ho8, hd9⟩
  replace hs5 := St.lendP hF4 hs5
  refine ⟨_, rfl, ?_⟩
  have hkr : r6.dat = keepD s.dat n := hd9.trans hk.symm
  have hfr : ScrFine r6.dat := by rw [hkr]; exact hf.keep
  have hsr : smScr 549755813888 r6.dat := by rw [hd9]; exact keepRows_sm hsmB hm (by decide) (by show s.Limit.toNat ≤ _; omega)
  have hgs : gridOk (shownD r6.dat) = true := hfr.shown.1
  have hts : 0 ≤ r6.Top ∧ r6.Top ≤ r6.Bot ∧ r6.Bot < (shownD r6.dat).H := by rw [hfr.shown.2.2]; exact ⟨hfr.reg.1.1, hfr.reg.1.2, hfr.reg.2.1⟩
  have hrT : r6.Top = s.Top := (congrArg ScrD.Top hkr).trans keepD_eqs.2.1
  have hrB : r6.Bot = s.Bot := (congrArg ScrD.Bot hkr).trans keepD_eqs.2.2.1
  refine WL.nil (hK2 _ _ (WC.rH (hs5.d1.rm L7) hs5 (fun _ hs10 => ?_)))
  refine WH.rn [0, 1, 2, 3, 5, 6, 7, 9] (hs10.d1.rm L7) [] rfl rfl (WH.all [4, 8] (by kernel_rfl) rfl (WHs.cons (i := 4) rfl ?_ (WHs.cons (i := 8) rfl ?_ WHs.nil)))
  ·refine WL.r 1 hs10 [0] rfl (WL.nil ⟨(hs10.d1.rm L7), WH.o1 8 rfl (WL.r 1 hs10 [0] rfl (WL.nil ⟨(hs10.d1.rm L7), WH.o1 10 rfl ?_⟩))⟩)
   have hF11 := ((hs10.fr L7).fb b_s)
   refine WL.cl Try.call108 rfl (k57_ _ r6 _ _ _ _ _ (St.headP hF11) ho8 (St.ownP hF11) (St.nodupP hF11) ?_ ?_ ?_ ?_) ?_
   iterate 4 first | assumption | rfl | omega
   rintro _ whs12 ⟨r13, L14, rfl, hs12, ho15, hd16⟩
   replace hs12 := St.lendP hF11 hs12
   refine ⟨_, rfl, WL.nil ⟨(hs12.d1.rm L14), WH.dn (retK0 rfl (⟨r13, _, rfl, St.keepP (L1 := L14) ((hs12.fr L14).fb b_s), ho15, ?_⟩))⟩⟩
   · refine hd16.trans ?_; unfold rollUpD; first | (rw [hkr, hrT, hrB]; rfl) | (rw [hk]; rfl)
  refine WL.r 1 hs10 [0] rfl (WL.nil ⟨(hs10.d1.rm L7), WH.o1 4 rfl (WL.r 1 hs10 [0] rfl (WL.nil ⟨(hs10.d1.rm L7), WH.o1 10 rfl ?_⟩))⟩)
  have hF17 := ((hs10.fr L7).fb b_s)
  refine WL.cl Try.call108 rfl (k57_ _ r6 _ _ _ _ _ (St.headP hF17) ho8 (St.ownP hF17) (St.nodupP hF17) ?_ ?_ ?_ ?_) ?_
  iterate 4 first | assumption | rfl | omega
  rintro _ whs18 ⟨r19, L20, rfl, hs18, ho21, hd22⟩
  replace hs18 := St.lendP hF17 hs18
  refine ⟨_, rfl, WL.nil ⟨(hs18.d1.rm L20), WH.dn (retK0 rfl (⟨r19, _, rfl, St.keepP (L1 := L20) ((hs18.fr L20).fb b_s), ho21, ?_⟩))⟩⟩
  · refine hd22.trans ?_; unfold rollUpD; first | (rw [hkr, hrT, hrB]; rfl) | (rw [hk]; rfl)
 have hk : keepD s.dat n = s.dat := by unfold keepD; rw [if_neg (by show ¬ (s.OnAlt = false ∧ s.Top = 0); have h9 := h3; simpa using h9)]
 refine WC.skip (hK2 _ _ (WC.rH (hs1.d1.rm L_s) hs1 (fun _ hs23 => ?_)))
 refine WH.rn [0, 1, 2, 3, 5, 6, 7, 9] (hs23.d1.rm L_s) [] rfl rfl (WH.all [4, 8] (by kernel_rfl) rfl (WHs.cons (i := 4) rfl ?_ (WHs.cons (i := 8) rfl ?_ WHs.nil)))
 ·refine WL.r 1 hs23 [0] rfl (WL.nil ⟨(hs23.d1.rm L_s), WH.o1 8 rfl (WL.r 1 hs23 [0] rfl (WL.nil ⟨(hs23.d1.rm L_s), WH.o1 10 rfl ?_⟩))⟩)
  have hF24 := ((hs23.fr L_s).fb b_s)
  refine WL.cl Try.call108 rfl (k57_ _ s _ _ _ _ _ (St.headP hF24) o_s (St.ownP hF24) (St.nodupP hF24) ?_ ?_ ?_ ?_) ?_
  iterate 4 first | assumption | rfl | omega
  rintro _ whs25 ⟨r26, L27, rfl, hs25, ho28, hd29⟩
  replace hs25 := St.lendP hF24 hs25
  refine ⟨_, rfl, WL.nil ⟨(hs25.d1.rm L27), WH.dn (retK0 rfl (⟨r26, _, rfl, St.keepP (L1 := L27) ((hs25.fr L27).fb b_s), ho28, ?_⟩))⟩⟩
  · refine hd29.trans ?_; unfold rollUpD; first | (rw [hkr, hrT, hrB]; rfl) | (rw [hk]; rfl)
 refine WL.r 1 hs23 [0] rfl (WL.nil ⟨(hs23.d1.rm L_s), WH.o1 4 rfl (WL.r 1 hs23 [0] rfl (WL.nil ⟨(hs23.d1.rm L_s), WH.o1 10 rfl ?_⟩))⟩)
 have hF30 := ((hs23.fr L_s).fb b_s)
 refine WL.cl Try.call108 rfl (k57_ _ s _ _ _ _ _ (St.headP hF30) o_s (St.ownP hF30) (St.nodupP hF30) ?_ ?_ ?_ ?_) ?_
 iterate 4 first | assumption | rfl | omega
 rintro _ whs31 ⟨r32, L33, rfl, hs31, ho34, hd35⟩
 replace hs31 := St.lendP hF30 hs31
 refine ⟨_, rfl, WL.nil ⟨(hs31.d1.rm L33), WH.dn (retK0 rfl (⟨r32, _, rfl, St.keepP (L1 := L33) ((hs31.fr L33).fb b_s), ho34, ?_⟩))⟩⟩
 · refine hd35.trans ?_; unfold rollUpD; first | (rw [hkr, hrT, hrB]; rfl) | (rw [hk]; rfl)
theorem k59_ (b_s : Nat) (s : ScrR) (L_s : Hp) (w : World) (hb_s : w.heap[b_s]? = some (Obj.cells (List.toArray [i64 s.W, i64 s.H, i64 s.Main.W, i64 s.Main.H, .slice s.Main.Cells.A s.Main.Cells.n s.Main.Cells.c, i64 s.Alt.W, i64 s.Alt.H, .slice s.Alt.Cells.A s.Alt.Cells.n s.Alt.Cells.c, .bool s.OnAlt, i64 s.X, i64 s.Y, .bool s.Wrap, i64 s.A.Fg, i64 s.A.Bg, .bool s.A.Bold, .bool s.A.Under, .bool s.A.Turn, i64 s.Top, i64 s.Bot, .bool s.NoWrap, .bool s.Hide, i64 s.SaveX, i64 s.SaveY, i64 s.SaveA.Fg, i64 s.SaveA.Bg, .bool s.SaveA.Bold, .bool s.SaveA.Under, .bool s.SaveA.Turn, .slice s.Tabs.A s.Tabs.n s.Tabs.c, i64 s.Limit, .slice s.Back.A s.Back.n s.Back.c]) 31 (0, 0))) (o_s : ownScrR s L_s) (h_s : Hh w L_s) (hd_ : (b_s :: L_s.map (·.1)).Nodup) (hf : ScrFine s.dat) (hsm : smScr 1048576 s.dat) :
    Calls Try.prog 51 #[.pointer (some ⟨b_s, 0, none⟩)] w fun e w' => ∃ r L1, e = .returned (.tuple #[]) ∧ St w (b_s :: L_s.map (·.1)) ([(b_s, Obj.cells (List.toArray [i64 r.W, i64 r.H, i64 r.Main.W, i64 r.Main.H, .slice r.Main.Cells.A r.Main.Cells.n r.Main.Cells.c, i64 r.Alt.W, i64 r.Alt.H, .slice r.Alt.Cells.A r.Alt.Cells.n r.Alt.Cells.c, .bool r.OnAlt, i64 r.X, i64 r.Y, .bool r.Wrap, i64 r.A.Fg, i64 r.A.Bg, .bool r.A.Bold, .bool r.A.Under, .bool r.A.Turn, i64 r.Top, i64 r.Bot, .bool r.NoWrap, .bool r.Hide, i64 r.SaveX, i64 r.SaveY, i64 r.SaveA.Fg, i64 r.SaveA.Bg, .bool r.SaveA.Bold, .bool r.SaveA.Under, .bool r.SaveA.Turn, .slice r.Tabs.A r.Tabs.n r.Tabs.c, i64 r.Limit, .slice r.Back.A r.Back.n r.Back.c]) 31 (0, 0))] ++ L1) w' ∧ ownScrR r L1 ∧ r.dat = downD s.dat := by
 have hsmB : smScr 549755813888 s.dat := by first | assumption | exact smScr_mono hsm (by decide)
 have hok9 := hf.ok
 obtain ⟨hb1, hb2, hb3, hb4, hb5, hb6⟩ := scrOk_bnd hok9
 obtain ⟨hm, hma⟩ := scrOk_main hok9
 simp only [ScrR.dat, GridR.dat, List.length_map] at hb1 hb2 hb3 hb4 hb5 hb6
 have hgs0 : gridOk (shownD s.dat) = true := hf.shown.1
 have hts0 : 0 ≤ s.Top ∧ s.Top ≤ s.Bot ∧ s.Bot < (shownD s.dat).H := by rw [hf.shown.2.2]; exact ⟨hf.reg.1.1, hf.reg.1.2, hf.reg.2.1⟩
 refine enter 35 Try.func51 rfl Try.ntmps51 rfl rfl ?_
 have hs1 := St.takeP w b_s _ L_s hb_s h_s hd_
 refine WC.seq (fun K2 hK2 => WC.block (WC.q1 hs1 [0, 0] rfl (fun _ hs3 => ?_)))
 refine WC.cq rfl (fun h4 qh4 => ?_) (fun h4 qh4 => ?_)
 ·have e1 : s.dat.Y = s.dat.Bot := by show s.Y = s.Bot; have h9 := h4; simpa using h9
  refine WC.region (WL.r 1 hs3 [] rfl ?_)
  have hF5 := ((hs3.fr L_s).fb b_s)
  refine WL.cl Try.call80 rfl (k58_ _ s _ _ _ (St.headP hF5) o_s (St.ownP hF5) (St.nodupP hF5) ?_ ?_ ?_) ?_
  iterate 3 first | assumption | rfl | omega
  rintro _ whs6 ⟨r7, L8, rfl, hs6, ho9, hd10⟩
  replace hs6 := St.lendP hF5 hs6
  refine ⟨_, rfl, ?_⟩
  have hd3 := hd10
  refine WL.nil (hK2 _ _ (WC.region (WL.r 3 hs6 [] rfl (WL.st tbk hs6 0 rfl rfl (fun _ hs11 => WL.nil (retK0 rfl ?_))))))
  obtain ⟨L12, L13, L14, L15, hs20, ho16, ho17, ho18, ho19⟩ := ownScrR.op hs11 ho9
  have hs21 := (hs20.fb b_s)
  obtain ⟨L23, hs22, ho24⟩ := ownScrR.fl hs21 ho16 ho17 ho18 ho19
  have hs25 := (hs22.fb b_s)
  refine ownScrR.retp rfl ((hs25.fr L23).fb b_s) ho24 ?_
  · unfold downD; first | (rw [if_pos e1, ← hd3]; rfl) | (rw [if_neg e1, if_pos e2]; rfl) | (rw [if_neg e1, if_neg e2]; rfl)
 have e1 : ¬ s.dat.Y = s.dat.Bot := by show ¬ s.Y = s.Bot; have h9 := h4; simpa using h9
 refine WC.q1 hs3 [0, 0] rfl (fun _ hs26 => ?_)
 refine WC.cq rfl (fun h27 qh27 => ?_) (fun h27 qh27 => ?_)
 ·have e2 : s.dat.Y < s.dat.H - 1 := by show s.Y < s.H - 1; have h9 := h27; simpa using h9
  refine WC.region (WL.r 7 hs26 [0] rfl (WL.st tbk hs26 0 rfl rfl (fun _ hs28 => WL.nil (hK2 _ _ (WC.region (WL.r 3 hs28 [] rfl (WL.st tbk hs28 0 rfl rfl (fun _ hs29 => ?_))))))))
  refine WL.nil (retK0 rfl ?_)
  obtain ⟨L30, L31, L32, L33, hs38, ho34, ho35, ho36, ho37⟩ := ownScrR.op hs29 o_s
  have hs39 := (hs38.fb b_s)
  obtain ⟨L41, hs40, ho42⟩ := ownScrR.fl hs39 ho34 ho35 ho36 ho37
  have hs43 := (hs40.fb b_s)
  refine ownScrR.retp rfl ((hs43.fr L41).fb b_s) ho42 ?_
  · unfold downD; first | (rw [if_pos e1, ← hd3]; rfl) | (rw [if_neg e1, if_pos e2]; rfl) | (rw [if_neg e1, if_neg e2]; rfl)
 have e2 : ¬ s.dat.Y < s.dat.H - 1 := by show ¬ s.Y < s.H - 1; have h9 := h27; simpa using h9
 refine WC.skip (hK2 _ _ (WC.region (WL.r 3 hs26 [] rfl (WL.st tbk hs26 0 rfl rfl (fun _ hs44 => WL.nil (retK0 rfl ?_))))))
 obtain ⟨L45, L46, L47, L48, hs53, ho49, ho50, ho51, ho52⟩ := ownScrR.op hs44 o_s
 have hs54 := (hs53.fb b_s)
 obtain ⟨L56, hs55, ho57⟩ := ownScrR.fl hs54 ho49 ho50 ho51 ho52
 have hs58 := (hs55.fb b_s)
 refine ownScrR.retp rfl ((hs58.fr L56).fb b_s) ho57 ?_
 · unfold downD; first | (rw [if_pos e1, ← hd3]; rfl) | (rw [if_neg e1, if_pos e2]; rfl) | (rw [if_neg e1, if_neg e2]; rfl)
theorem k60_ (b_s : Nat) (s : ScrR) (L_s : Hp) (w : World) (hb_s : w.heap[b_s]? = some (Obj.cells (List.toArray [i64 s.W, i64 s.H, i64 s.Main.W, i64 s.Main.H, .slice s.Main.Cells.A s.Main.Cells.n s.Main.Cells.c, i64 s.Alt.W, i64 s.Alt.H, .slice s.Alt.Cells.A s.Alt.Cells.n s.Alt.Cells.c, .bool s.OnAlt, i64 s.X, i64 s.Y, .bool s.Wrap, i64 s.A.Fg, i64 s.A.Bg, .bool s.A.Bold, .bool s.A.Under, .bool s.A.Turn, i64 s.Top, i64 s.Bot, .bool s.NoWrap, .bool s.Hide, i64 s.SaveX, i64 s.SaveY, i64 s.SaveA.Fg, i64 s.SaveA.Bg, .bool s.SaveA.Bold, .bool s.SaveA.Under, .bool s.SaveA.Turn, .slice s.Tabs.A s.Tabs.n s.Tabs.c, i64 s.Limit, .slice s.Back.A s.Back.n s.Back.c]) 31 (0, 0))) (o_s : ownScrR s L_s) (h_s : Hh w L_s) (hd_ : (b_s :: L_s.map (·.1)).Nodup) (hsm : smScr 549755813888 s.dat) :
    Calls Try.prog 113 #[.pointer (some ⟨b_s, 0, none⟩)] w fun e w' => ∃ r L1, e = .returned (.tuple #[]) ∧ St w (b_s :: L_s.map (·.1)) ([(b_s, Obj.cells (List.toArray [i64 r.W, i64 r.H, i64 r.Main.W, i64 r.Main.H, .slice r.Main.Cells.A r.Main.Cells.n r.Main.Cells.c, i64 r.Alt.W, i64 r.Alt.H, .slice r.Alt.Cells.A r.Alt.Cells.n r.Alt.Cells.c, .bool r.OnAlt, i64 r.X, i64 r.Y, .bool r.Wrap, i64 r.A.Fg, i64 r.A.Bg, .bool r.A.Bold, .bool r.A.Under, .bool r.A.Turn, i64 r.Top, i64 r.Bot, .bool r.NoWrap, .bool r.Hide, i64 r.SaveX, i64 r.SaveY, i64 r.SaveA.Fg, i64 r.SaveA.Bg, .bool r.SaveA.Bold, .bool r.SaveA.Under, .bool r.SaveA.Turn, .slice r.Tabs.A r.Tabs.n r.Tabs.c, i64 r.Limit, .slice r.Back.A r.Back.n r.Back.c]) 31 (0, 0))] ++ L1) w' ∧ ownScrR r L1 ∧ r.dat = saveD s.dat := by
 refine enter 23 Try.func113 rfl Try.ntmps113 rfl rfl ?_
 have hs1 := St.takeP w b_s _ L_s hb_s h_s hd_
 refine WC.rH hs1.d1 hs1 (fun _ hs2 => ?_)
 refine WH.rn [0, 1, 2, 3, 4, 5, 7, 8, 9, 11, 12, 13] hs2.d1 [] rfl rfl (WH.all [6, 10, 14] (by kernel_rfl) rfl (WHs.cons (i := 6) rfl ?_ (WHs.cons (i := 10) rfl ?_ (WHs.cons (i := 14) rfl ?_ WHs.nil))))
 ·refine WL.r 1 hs2 [0] rfl (WL.nil ⟨hs2.d1, WH.all [10, 14] (by kernel_rfl) rfl (WHs.cons (i := 10) rfl ?_ (WHs.cons (i := 14) rfl ?_ WHs.nil))⟩)
  ·refine WL.r 1 hs2 [0] rfl (WL.nil ⟨hs2.d1, WH.o1 14 rfl (WL.r 1 hs2 [0] rfl (WL.nil ⟨hs2.d1, WH.rn [15, 16] hs2.d1 [] rfl rfl (WH.o1 17 rfl (WL.st tbk hs2 0 rfl rfl (fun _ hs3 => ?_)))⟩))⟩)
   refine WL.nil ⟨hs3.d1, WH.rn [18, 19] hs3.d1 [] rfl rfl (WH.o1 20 rfl (WL.st tbk hs3 0 rfl rfl (fun _ hs4 => WL.nil ⟨hs4.d1, WH.rn [21, 22] hs4.d1 [] rfl rfl (WH.o1 23 rfl (WL.st tbk hs4 0 rfl rfl (fun _ hs5 => ?_)))⟩)))⟩
   refine WL.nil ⟨hs5.d1, WH.dn (retK0 rfl ?_)⟩
   obtain ⟨L6, L7, L8, L9, hs14, ho10, ho11, ho12, ho13⟩ := ownScrR.op hs5 o_s
   have hs15 := (hs14.fb b_s)
   obtain ⟨L17, hs16, ho18⟩ := ownScrR.fl hs15 ho10 ho11 ho12 ho13
   have hs19 := (hs16.fb b_s)
   refine ownScrR.retp rfl ((hs19.fr L17).fb b_s) ho18 ?_
   · rfl
  refine WL.r 1 hs2 [0] rfl (WL.nil ⟨hs2.d1, WH.o1 10 rfl (WL.r 1 hs2 [0] rfl (WL.nil ⟨hs2.d1, WH.rn [15, 16] hs2.d1 [] rfl rfl (WH.o1 17 rfl (WL.st tbk hs2 0 rfl rfl (fun _ hs20 => ?_)))⟩))⟩)
  refine WL.nil ⟨hs20.d1, WH.rn [18, 19] hs20.d1 [] rfl rfl (WH.o1 20 rfl (WL.st tbk hs20 0 rfl rfl (fun _ hs21 => WL.nil ⟨hs21.d1, WH.rn [21, 22] hs21.d1 [] rfl rfl (WH.o1 23 rfl (WL.st tbk hs21 0 rfl rfl (fun _ hs22 => ?_)))⟩)))⟩
  refine WL.nil ⟨hs22.d1, WH.dn (retK0 rfl ?_)⟩
  obtain ⟨L23, L24, L25, L26, hs31, ho27, ho28, ho29, ho30⟩ := ownScrR.op hs22 o_s
  have hs32 := (hs31.fb b_s)
  obtain ⟨L34, hs33, ho35⟩ := ownScrR.fl hs32 ho27 ho28 ho29 ho30
  have hs36 := (hs33.fb b_s)
  refine ownScrR.retp rfl ((hs36.fr L34).fb b_s) ho35 ?_
  · rfl
 ·refine WL.r 1 hs2 [0] rfl (WL.nil ⟨hs2.d1, WH.all [6, 14] (by kernel_rfl) rfl (WHs.cons (i := 6) rfl ?_ (WHs.cons (i := 14) rfl ?_ WHs.nil))⟩)
  ·refine WL.r 1 hs2 [0] rfl (WL.nil ⟨hs2.d1, WH.o1 14 rfl (WL.r 1 hs2 [0] rfl (WL.nil ⟨hs2.d1, WH.rn [15, 16] hs2.d1 [] rfl rfl (WH.o1 17 rfl (WL.st tbk hs2 0 rfl rfl (fun _ hs37 => ?_)))⟩))⟩)
   refine WL.nil ⟨hs37.d1, WH.rn [18, 19] hs37.d1 [] rfl rfl (WH.o1 20 rfl (WL.st tbk hs37 0 rfl rfl (fun _ hs38 => WL.nil ⟨hs38.d1, WH.rn [21, 22] hs38.d1 [] rfl rfl (WH.o1 23 rfl (WL.st tbk hs38 0 rfl rfl (fun _ hs39 => ?_)))⟩)))⟩
   refine WL.nil ⟨hs39.d1, WH.dn (retK0 rfl ?_)⟩
   obtain ⟨L40, L41, L42, L43, hs48, ho44, ho45, ho46, ho47⟩ := ownScrR.op hs39 o_s
   have hs49 := (hs48.fb b_s)
   obtain ⟨L51, hs50, ho52⟩ := ownScrR.fl hs49 ho44 ho45 ho46 ho47
   have hs53 := (hs50.fb b_s)
   refine ownScrR.retp rfl ((hs53.fr L51).fb b_s) ho52 ?_
   · rfl
  refine WL.r 1 hs2 [0] rfl (WL.nil ⟨hs2.d1, WH.o1 6 rfl (WL.r 1 hs2 [0] rfl (WL.nil ⟨hs2.d1, WH.rn [15, 16] hs2.d1 [] rfl rfl (WH.o1 17 rfl (WL.st tbk hs2 0 rfl rfl (fun _ hs54 => ?_)))⟩))⟩)
  refine WL.nil ⟨hs54.d1, WH.rn [18, 19] hs54.d1 [] rfl rfl (WH.o1 20 rfl (WL.st tbk hs54 0 rfl rfl (fun _ hs55 => WL.nil ⟨hs55.d1, WH.rn [21, 22] hs55.d1 [] rfl rfl (WH.o1 23 rfl (WL.st tbk hs55 0 rfl rfl (fun _ hs56 => ?_)))⟩)))⟩
  refine WL.nil ⟨hs56.d1, WH.dn (retK0 rfl ?_)⟩
  obtain ⟨L57, L58, L59, L60, hs65, ho61, ho62, ho63, ho64⟩ := ownScrR.op hs56 o_s
  have hs66 := (hs65.fb b_s)
  obtain ⟨L68, hs67, ho69⟩ := ownScrR.fl hs66 ho61 ho62 ho63 ho64
  have hs70 := (hs67.fb b_s)
  refine ownScrR.retp rfl ((hs70.fr L68).fb b_s) ho69 ?_
  · rfl
 refine WL.r 1 hs2 [0] rfl (WL.nil ⟨hs2.d1, WH.all [6, 10] (by kernel_rfl) rfl (WHs.cons (i := 6) rfl ?_ (WHs.cons (i := 10) rfl ?_ WHs.nil))⟩)
 ·refine WL.r 1 hs2 [0] rfl (WL.nil ⟨hs2.d1, WH.o1 10 rfl (WL.r 1 hs2 [0] rfl (WL.nil ⟨hs2.d1, WH.rn [15, 16] hs2.d1 [] rfl rfl (WH.o1 17 rfl (WL.st tbk hs2 0 rfl rfl (fun _ hs71 => ?_)))⟩))⟩)
  refine WL.nil ⟨hs71.d1, WH.rn [18, 19] hs71.d1 [] rfl rfl (WH.o1 20 rfl (WL.st tbk hs71 0 rfl rfl (fun _ hs72 => WL.nil ⟨hs72.d1, WH.rn [21, 22] hs72.d1 [] rfl rfl (WH.o1 23 rfl (WL.st tbk hs72 0 rfl rfl (fun _ hs73 => ?_)))⟩)))⟩
  refine WL.nil ⟨hs73.d1, WH.dn (retK0 rfl ?_)⟩
  obtain ⟨L74, L75, L76, L77, hs82, ho78, ho79, ho80, ho81⟩ := ownScrR.op hs73 o_s
  have hs83 := (hs82.fb b_s)
  obtain ⟨L85, hs84, ho86⟩ := ownScrR.fl hs83 ho78 ho79 ho80 ho81
  have hs87 := (hs84.fb b_s)
  refine ownScrR.retp rfl ((hs87.fr L85).fb b_s) ho86 ?_
  · rfl
 refine WL.r 1 hs2 [0] rfl (WL.nil ⟨hs2.d1, WH.o1 6 rfl (WL.r 1 hs2 [0] rfl (WL.nil ⟨hs2.d1, WH.rn [15, 16] hs2.d1 [] rfl rfl (WH.o1 17 rfl (WL.st tbk hs2 0 rfl rfl (fun _ hs88 => ?_)))⟩))⟩)
 refine WL.nil ⟨hs88.d1, WH.rn [18, 19] hs88.d1 [] rfl rfl (WH.o1 20 rfl (WL.st tbk hs88 0 rfl rfl (fun _ hs89 => WL.nil ⟨hs89.d1, WH.rn [21, 22] hs89.d1 [] rfl rfl (WH.o1 23 rfl (WL.st tbk hs89 0 rfl rfl (fun _ hs90 => ?_)))⟩)))⟩
 refine WL.nil ⟨hs90.d1, WH.dn (retK0 rfl ?_)⟩
 obtain ⟨L91, L92, L93, L94, hs99, ho95, ho96, ho97, ho98⟩ := ownScrR.op hs90 o_s
 have hs100 := (hs99.fb b_s)
 obtain ⟨L102, hs101, ho103⟩ := ownScrR.fl hs100 ho95 ho96 ho97 ho98
 have hs104 := (hs101.fb b_s)
 refine ownScrR.retp rfl ((hs104.fr L102).fb b_s) ho103 ?_
 · rfl
theorem k61_ (b_s : Nat) (s : ScrR) (L_s : Hp) (w : World) (hb_s : w.heap[b_s]? = some (Obj.cells (List.toArray [i64 s.W, i64 s.H, i64 s.Main.W, i64 s.Main.H, .slice s.Main.Cells.A s.Main.Cells.n s.Main.Cells.c, i64 s.Alt.W, i64 s.Alt.H, .slice s.Alt.Cells.A s.Alt.Cells.n s.Alt.Cells.c, .bool s.OnAlt, i64 s.X, i64 s.Y, .bool s.Wrap, i64 s.A.Fg, i64 s.A.Bg, .bool s.A.Bold, .bool s.A.Under, .bool s.A.Turn, i64 s.Top, i64 s.Bot, .bool s.NoWrap, .bool s.Hide, i64 s.SaveX, i64 s.SaveY, i64 s.SaveA.Fg, i64 s.SaveA.Bg, .bool s.SaveA.Bold, .bool s.SaveA.Under, .bool s.SaveA.Turn, .slice s.Tabs.A s.Tabs.n s.Tabs.c, i64 s.Limit, .slice s.Back.A s.Back.n s.Back.c]) 31 (0, 0))) (o_s : ownScrR s L_s) (h_s : Hh w L_s) (hd_ : (b_s :: L_s.map (·.1)).Nodup) (hsm : smScr 549755813888 s.dat) :
    Calls Try.prog 114 #[.pointer (some ⟨b_s, 0, none⟩)] w fun e w' => ∃ r L1, e = .returned (.tuple #[]) ∧ St w (b_s :: L_s.map (·.1)) ([(b_s, Obj.cells (List.toArray [i64 r.W, i64 r.H, i64 r.Main.W, i64 r.Main.H, .slice r.Main.Cells.A r.Main.Cells.n r.Main.Cells.c, i64 r.Alt.W, i64 r.Alt.H, .slice r.Alt.Cells.A r.Alt.Cells.n r.Alt.Cells.c, .bool r.OnAlt, i64 r.X, i64 r.Y, .bool r.Wrap, i64 r.A.Fg, i64 r.A.Bg, .bool r.A.Bold, .bool r.A.Under, .bool r.A.Turn, i64 r.Top, i64 r.Bot, .bool r.NoWrap, .bool r.Hide, i64 r.SaveX, i64 r.SaveY, i64 r.SaveA.Fg, i64 r.SaveA.Bg, .bool r.SaveA.Bold, .bool r.SaveA.Under, .bool r.SaveA.Turn, .slice r.Tabs.A r.Tabs.n r.Tabs.c, i64 r.Limit, .slice r.Back.A r.Back.n r.Back.c]) 31 (0, 0))] ++ L1) w' ∧ ownScrR r L1 ∧ r.dat = backD s.dat := by
 refine enter 26 Try.func114 rfl Try.ntmps114 rfl rfl ?_
 have hs1 := St.takeP w b_s _ L_s hb_s h_s hd_
 refine WC.rH hs1.d1 hs1 (fun _ hs2 => ?_)
 refine WH.rn [0, 1, 2, 3, 4, 5, 6, 8, 9, 10, 12, 13, 14] hs2.d1 [] rfl rfl (WH.all [7, 11, 15] (by kernel_rfl) rfl (WHs.cons (i := 7) rfl ?_ (WHs.cons (i := 11) rfl ?_ (WHs.cons (i := 15) rfl ?_ WHs.nil))))
 ·refine WL.r 1 hs2 [0] rfl (WL.nil ⟨hs2.d1, WH.all [11, 15] (by kernel_rfl) rfl (WHs.cons (i := 11) rfl ?_ (WHs.cons (i := 15) rfl ?_ WHs.nil))⟩)
  ·refine WL.r 1 hs2 [0] rfl (WL.nil ⟨hs2.d1, WH.o1 15 rfl (WL.r 1 hs2 [0] rfl (WL.nil ⟨hs2.d1, WH.rn [16, 17] hs2.d1 [] rfl rfl (WH.o1 18 rfl (WL.st tbk hs2 0 rfl rfl (fun _ hs3 => ?_)))⟩))⟩)
   refine WL.nil ⟨hs3.d1, WH.rn [19, 20] hs3.d1 [] rfl rfl (WH.o1 21 rfl (WL.st tbk hs3 0 rfl rfl (fun _ hs4 => WL.nil ⟨hs4.d1, WH.rn [22, 23] hs4.d1 [] rfl rfl (WH.o1 24 rfl (WL.st tbk hs4 0 rfl rfl (fun _ hs5 => ?_)))⟩)))⟩
   refine WL.nil ⟨hs5.d1, WH.rn [25, 26] hs5.d1 [] rfl rfl (WH.o1 27 rfl (WL.st tbk hs5 0 rfl rfl (fun _ hs6 => WL.nil ⟨hs6.d1, WH.dn (retK0 rfl ?_)⟩)))⟩
   obtain ⟨L7, L8, L9, L10, hs15, ho11, ho12, ho13, ho14⟩ := ownScrR.op hs6 o_s
   have hs16 := (hs15.fb b_s)
   obtain ⟨L18, hs17, ho19⟩ := ownScrR.fl hs16 ho11 ho12 ho13 ho14
   have hs20 := (hs17.fb b_s)
   refine ownScrR.retp rfl ((hs20.fr L18).fb b_s) ho19 ?_
   · rfl
  refine WL.r 1 hs2 [0] rfl (WL.nil ⟨hs2.d1, WH.o1 11 rfl (WL.r 1 hs2 [0] rfl (WL.nil ⟨hs2.d1, WH.rn [16, 17] hs2.d1 [] rfl rfl (WH.o1 18 rfl (WL.st tbk hs2 0 rfl rfl (fun _ hs21 => ?_)))⟩))⟩)
  refine WL.nil ⟨hs21.d1, WH.rn [19, 20] hs21.d1 [] rfl rfl (WH.o1 21 rfl (WL.st tbk hs21 0 rfl rfl (fun _ hs22 => WL.nil ⟨hs22.d1, WH.rn [22, 23] hs22.d1 [] rfl rfl (WH.o1 24 rfl (WL.st tbk hs22 0 rfl rfl (fun _ hs23 => ?_)))⟩)))⟩
  refine WL.nil ⟨hs23.d1, WH.rn [25, 26] hs23.d1 [] rfl rfl (WH.o1 27 rfl (WL.st tbk hs23 0 rfl rfl (fun _ hs24 => WL.nil ⟨hs24.d1, WH.dn (retK0 rfl ?_)⟩)))⟩
  obtain ⟨L25, L26, L27, L28, hs33, ho29, ho30, ho31, ho32⟩ := ownScrR.op hs24 o_s
  have hs34 := (hs33.fb b_s)
  obtain ⟨L36, hs35, ho37⟩ := ownScrR.fl hs34 ho29 ho30 ho31 ho32
  have hs38 := (hs35.fb b_s)
  refine ownScrR.retp rfl ((hs38.fr L36).fb b_s) ho37 ?_
  · rfl
 ·refine WL.r 1 hs2 [0] rfl (WL.nil ⟨hs2.d1, WH.all [7, 15] (by kernel_rfl) rfl (WHs.cons (i := 7) rfl ?_ (WHs.cons (i := 15) rfl ?_ WHs.nil))⟩)
  ·refine WL.r 1 hs2 [0] rfl (WL.nil ⟨hs2.d1, WH.o1 15 rfl (WL.r 1 hs2 [0] rfl (WL.nil ⟨hs2.d1, WH.rn [16, 17] hs2.d1 [] rfl rfl (WH.o1 18 rfl (WL.st tbk hs2 0 rfl rfl (fun _ hs39 => ?_)))⟩))⟩)
   refine WL.nil ⟨hs39.d1, WH.rn [19, 20] hs39.d1 [] rfl rfl (WH.o1 21 rfl (WL.st tbk hs39 0 rfl rfl (fun _ hs40 => WL.nil ⟨hs40.d1, WH.rn [22, 23] hs40.d1 [] rfl rfl (WH.o1 24 rfl (WL.st tbk hs40 0 rfl rfl (fun _ hs41 => ?_)))⟩)))⟩
   refine WL.nil ⟨hs41.d1, WH.rn [25, 26] hs41.d1 [] rfl rfl (WH.o1 27 rfl (WL.st tbk hs41 0 rfl rfl (fun _ hs42 => WL.nil ⟨hs42.d1, WH.dn (retK0 rfl ?_)⟩)))⟩
   obtain ⟨L43, L44, L45, L46, hs51, ho47, ho48, ho49, ho50⟩ := ownScrR.op hs42 o_s
   have hs52 := (hs51.fb b_s)
   obtain ⟨L54, hs53, ho55⟩ := ownScrR.fl hs52 ho47 ho48 ho49 ho50
   have hs56 := (hs53.fb b_s)
   refine ownScrR.retp rfl ((hs56.fr L54).fb b_s) ho55 ?_
   · rfl
  refine WL.r 1 hs2 [0] rfl (WL.nil ⟨hs2.d1, WH.o1 7 rfl (WL.r 1 hs2 [0] rfl (WL.nil ⟨hs2.d1, WH.rn [16, 17] hs2.d1 [] rfl rfl (WH.o1 18 rfl (WL.st tbk hs2 0 rfl rfl (fun _ hs57 => ?_)))⟩))⟩)
  refine WL.nil ⟨hs57.d1, WH.rn [19, 20] hs57.d1 [] rfl rfl (WH.o1 21 rfl (WL.st tbk hs57 0 rfl rfl (fun _ hs58 => WL.nil ⟨hs58.d1, WH.rn [22, 23] hs58.d1 [] rfl rfl (WH.o1 24 rfl (WL.st tbk hs58 0 rfl rfl (fun _ hs59 => ?_)))⟩)))⟩
  refine WL.nil ⟨hs59.d1, WH.rn [25, 26] hs59.d1 [] rfl rfl (WH.o1 27 rfl (WL.st tbk hs59 0 rfl rfl (fun _ hs60 => WL.nil ⟨hs60.d1, WH.dn (retK0 rfl ?_)⟩)))⟩
  obtain ⟨L61, L62, L63, L64, hs69, ho65, ho66, ho67, ho68⟩ := ownScrR.op hs60 o_s
  have hs70 := (hs69.fb b_s)
  obtain ⟨L72, hs71, ho73⟩ := ownScrR.fl hs70 ho65 ho66 ho67 ho68
  have hs74 := (hs71.fb b_s)
  refine ownScrR.retp rfl ((hs74.fr L72).fb b_s) ho73 ?_
  · rfl
 refine WL.r 1 hs2 [0] rfl (WL.nil ⟨hs2.d1, WH.all [7, 11] (by kernel_rfl) rfl (WHs.cons (i := 7) rfl ?_ (WHs.cons (i := 11) rfl ?_ WHs.nil))⟩)
 ·refine WL.r 1 hs2 [0] rfl (WL.nil ⟨hs2.d1, WH.o1 11 rfl (WL.r 1 hs2 [0] rfl (WL.nil ⟨hs2.d1, WH.rn [16, 17] hs2.d1 [] rfl rfl (WH.o1 18 rfl (WL.st tbk hs2 0 rfl rfl (fun _ hs75 => ?_)))⟩))⟩)
  refine WL.nil ⟨hs75.d1, WH.rn [19, 20] hs75.d1 [] rfl rfl (WH.o1 21 rfl (WL.st tbk hs75 0 rfl rfl (fun _ hs76 => WL.nil ⟨hs76.d1, WH.rn [22, 23] hs76.d1 [] rfl rfl (WH.o1 24 rfl (WL.st tbk hs76 0 rfl rfl (fun _ hs77 => ?_)))⟩)))⟩
  refine WL.nil ⟨hs77.d1, WH.rn [25, 26] hs77.d1 [] rfl rfl (WH.o1 27 rfl (WL.st tbk hs77 0 rfl rfl (fun _ hs78 => WL.nil ⟨hs78.d1, WH.dn (retK0 rfl ?_)⟩)))⟩
  obtain ⟨L79, L80, L81, L82, hs87, ho83, ho84, ho85, ho86⟩ := ownScrR.op hs78 o_s
  have hs88 := (hs87.fb b_s)
  obtain ⟨L90, hs89, ho91⟩ := ownScrR.fl hs88 ho83 ho84 ho85 ho86
  have hs92 := (hs89.fb b_s)
  refine ownScrR.retp rfl ((hs92.fr L90).fb b_s) ho91 ?_
  · rfl
 refine WL.r 1 hs2 [0] rfl (WL.nil ⟨hs2.d1, WH.o1 7 rfl (WL.r 1 hs2 [0] rfl (WL.nil ⟨hs2.d1, WH.rn [16, 17] hs2.d1 [] rfl rfl (WH.o1 18 rfl (WL.st tbk hs2 0 rfl rfl (fun _ hs93 => ?_)))⟩))⟩)
 refine WL.nil ⟨hs93.d1, WH.rn [19, 20] hs93.d1 [] rfl rfl (WH.o1 21 rfl (WL.st tbk hs93 0 rfl rfl (fun _ hs94 => WL.nil ⟨hs94.d1, WH.rn [22, 23] hs94.d1 [] rfl rfl (WH.o1 24 rfl (WL.st tbk hs94 0 rfl rfl (fun _ hs95 => ?_)))⟩)))⟩
 refine WL.nil ⟨hs95.d1, WH.rn [25, 26] hs95.d1 [] rfl rfl (WH.o1 27 rfl (WL.st tbk hs95 0 rfl rfl (fun _ hs96 => WL.nil ⟨hs96.d1, WH.dn (retK0 rfl ?_)⟩)))⟩
 obtain ⟨L97, L98, L99, L100, hs105, ho101, ho102, ho103, ho104⟩ := ownScrR.op hs96 o_s
 have hs106 := (hs105.fb b_s)
 obtain ⟨L108, hs107, ho109⟩ := ownScrR.fl hs106 ho101 ho102 ho103 ho104
 have hs110 := (hs107.fb b_s)
 refine ownScrR.retp rfl ((hs110.fr L108).fb b_s) ho109 ?_
 · rfl
theorem nthL_eq : ∀ (L : Hp) (i : Nat), nthL L i = L[i]?
 | [], _ => rfl
 | _ :: _, 0 => rfl
 | _ :: L, i + 1 => (nthL_eq L i).trans (by simp)
section
variable {P : Program} {w0 w : World} {T : List Nat} {L : Hp} {n : Nat} {ol : List Oper} {o : Oper} {rest : List Oper} {f : Fr} {d : Nat} {K : Fr → World → Prop}
theorem St.setObj (h : St w0 T L w) {i b : Nat} {o1 : Obj} (hi : nthL L i = some (b, o1)) (o2 : Obj) : St w0 T (setL L i o2) { w with heap := w.heap.setIfInBounds b o2 } := by
 have hb := (h.own _ (nthL_mem hi))
 have hlt := lt_of_heap hb.1
 have hother : ∀ k, k ≠ b → (w.heap.setIfInBounds b o2)[k]? = w.heap[k]? := fun k hk => by
  rw [Array.getElem?_setIfInBounds]; rw [if_neg (fun h => hk h.symm)]
 refine ⟨h.os, h.tape, h.output, by simpa using h.size, fun k hk hT => ?_, fun p hp => ?_, by rw [setL_keys]; exact h.nodup⟩
 ·refine (hother k ?_).trans (h.keep k hk hT)
  rintro rfl
  rcases hb.2 with h1 | h1
  ·simp at h1; omega
  ·exact hT h1
 ·rcases setL_mem hi h.nodup hp with rfl | ⟨hm, hne⟩
  ·refine ⟨?_, hb.2⟩
   show (w.heap.setIfInBounds b o2)[b]? = some o2
   rw [Array.getElem?_setIfInBounds, if_pos rfl]
   simp only at hlt
   rw [if_pos hlt]
  ·exact ⟨(hother p.1 hne).trans (h.own p hm).1, (h.own p hm).2⟩
theorem WL.makeMap {t : TypeId} (hst : St w0 T L w) (ho : o.op = .makeMap t none) (hw : want ol o f = some true) (hd : o.dst = some d) (hn : Nat.blt d n = true)
  (k : ∀ b w', St w0 T ((b, .map #[] 0) :: L) w' → WL P n ol rest K ((d, .map (some b)) :: f) w') : WL P n ol (o :: rest) K f w := by
 refine WL.val (w' := w.alloc (.map #[] 0)) hw hd hn (fun ρ hρ => ?_) (k _ _ (hst.alloc _))
 simp [execOp, ho, Instr.makeMap]
theorem WL.mapPut {L' : Hp} {t kt et : TypeId} {kd : TypeDesc} {x y z : Operand} {b clock : Nat} {es : Array MapEntry} {key v : Value} (hst : St w0 T L w) (i : Nat) (hi : nthL L i = some (b, .map es clock)) (hm : P.underlying t = some (.map kt et)) (hkd : P.underlying kt = some kd)
  (ho : o.op = .insert t x y z) (hw : want ol o f = some true) (hd : o.dst = none) (hx : ev f x = some (.map (some b))) (hy : ev f y = some key) (hz : ev f z = some v) (hL : setLK L i (.map (es.push { key := key, val := v, born := clock }) (clock + 1)) some = some L') (hk : MapKept.IsKey kd key) (hf : Instr.findNow kd key es.toList 0 = some none)
  (k : ∀ w', St w0 T L' w' → WL P n ol rest K f w') : WL P n ol (o :: rest) K f w := by
 have hb := (hst.own _ (nthL_mem hi)).1
 refine WL.unit (w' := { w with heap := w.heap.setIfInBounds b (.map (es.push { key := key, val := v, born := clock }) (clock + 1)) }) hw hd (fun ρ hρ => ?_) (k _ (Option.some.inj (setLK_some hL) ▸ hst.setObj hi _))
 simp [execOp, ho, hρ _ _ hx, hρ _ _ hy, hρ _ _ hz, Instr.mapUpdate, run_underlying hm, MapKept.run_getObj_map hb, MapKept.run_checkKey hkd hk, MapKept.run_findKey hkd hf, MapKept.run_setObj_map _ hb, Result.andThen]
theorem Run.mapGet {t kt et : TypeId} {kd : TypeDesc} {x y : Operand} {b clock : Nat} {es : Array MapEntry} {key v : Value} (hm : P.underlying t = some (.map kt et)) (hkd : P.underlying kt = some kd) (ho : o.op = .lookup t x y false) (hx : ev f x = some (.map (some b))) (hy : ev f y = some key)
  (hb : w.heap[b]? = some (.map es clock)) (hk : MapKept.IsKey kd key) (hf : ∃ j, Instr.findNow kd key es.toList 0 = some (some (j, v))) : Run P o f w (.value v) w := fun ρ hρ => by
 obtain ⟨j, hf⟩ := hf
 simp [execOp, ho, hρ _ _ hx, hρ _ _ hy, Instr.lookup, run_underlying hm, MapKept.run_getObj_map hb, MapKept.run_checkKey hkd hk, MapKept.run_findKey hkd hf, Result.andThen]
theorem St.neq (h : St w0 T L w) {i j : Nat} {p q : Nat × Obj} (hi : nthL L i = some p) (hj : nthL L j = some q) (hij : i ≠ j) : p.1 ≠ q.1 := by
 intro he
 rw [nthL_eq] at hi hj
 have h1 : (L.map (·.1))[i]? = some p.1 := by rw [List.getElem?_map, hi]; rfl
 have h2 : (L.map (·.1))[j]? = some q.1 := by rw [List.getElem?_map, hj]; rfl
 exact hij ((List.getElem?_inj (List.getElem?_eq_some_iff.1 h1).1 h.nodup).1 (h1.trans (he ▸ h2.symm)))
theorem St.untouch {w' : World} (h : St w T L w') (hT : ∀ k, k ∈ T → ∃ q, (k, q) ∈ L) (hL : ∀ p, p ∈ L → w.heap[p.1]? = some p.2) : St w [] [] w' := by
 refine ⟨h.os, h.tape, h.output, h.size, fun k hk _ => ?_, fun _ hp => (by cases hp), List.nodup_nil⟩
 by_cases hm : k ∈ T
 ·obtain ⟨q, hq⟩ := hT k hm
  exact (h.own _ hq).1.trans (hL _ hq).symm
 ·exact h.keep k hk hm
end
theorem k62_ (A_s : Option Addr) (n_s c_s : Nat) (s : List Int) (p : Int → Bool) (cv : Value) (w : World) (f_s : SlF encI w A_s n_s s) (hcl : ∀ w1 : World, St w [] [] w1 → ∀ m : Int, Calls Try.prog 112 #[i64 m, cv] w1 fun e w2 => e = .returned (.bool (p m)) ∧ St w1 [] [] w2) (hn : n_s ≤ 1048576) :
    Calls Try.prog 102 #[.slice A_s n_s c_s, .func (.func 112) #[] #[cv]] w fun e w' => e = .returned (i64 (findI p s)) ∧ St w [] [] w' := by
 refine enter 19 Try.func102 rfl Try.ntmps102 rfl rfl ?_
 have hs1 := St.init w
 refine WC.r1 hs1 [] rfl (WC.seq (fun K2 hK2 => WC.r1 hs1 [] rfl (WC.block ?_)))
 refine WC.lS [0, 1, 7] rfl hs1 (fun k_ f w' => ∃ (i : Nat), k_ = n_s - i ∧ (i ≤ n_s) ∧ (∀ j, j < i → p (iat s j) = false) ∧ Sub [(8, .int .i64 i)] f) ((fun (i : Nat) => n_s - i) (0)) ?_ ?_
 ·refine ⟨0, rfl, ?_, ?_, ⟨rfl, trivial⟩⟩
  · exact Nat.zero_le _
  · exact fun j hj => absurd hj (by omega)
 clear hs1
 rintro _ f w ⟨i, rfl, p0, p1, hG⟩ hF hs3
 refine WC.sub _ (hG.app hF) ?_
 clear hG hF
 refine WC.r1 hs3 [] rfl (WC.seq (fun K4 hK4 => ?_))
 refine WC.cond rfl (fun h5 => ?_) (fun h5 => ?_)
 ·have qh5 := h5
  try simp only [decide_eq_true_eq, decide_eq_false_iff_not] at qh5
  refine WC.skip (hK4 _ _ (WC.seq (fun K6 hK6 => WC.block (WC.r1 hs3 [] rfl (WC.sr (WL.r 3 hs3 [] rfl ?_))))))
  refine WL.val rfl rfl rfl (Run.idxN Try.runUnderlying28 Try.sizeOf3 rfl rfl rfl ?_ ?_ ?_) ?_
  · exact SlF.some_ (SlF.st0 f_s hs3)
  · omega
  · omega
  refine WL.val rfl rfl rfl (Run.load Try.isAgg3 rfl rfl (SlF.one1 (SlF.st0 f_s hs3) ?_ rfl)) ?_
  · omega
  refine WL.call rfl rfl rfl (Run.callC Try.call112 rfl rfl rfl) (hcl _ hs3 _) ?_
  rintro _ whs7 ⟨rfl, hs7⟩
  replace hs7 := hs3.call0 hs7
  refine ⟨_, rfl, WL.nil (WC.cond rfl (fun h8 => ?_) (fun h8 => ?_))⟩
  ·have qh8 := h8
   try simp only [decide_eq_true_eq, decide_eq_false_iff_not] at qh8
   refine WC.r1 hs7 [] rfl (WC.ret (ibR (tkR (tkR (ibR (tkR ?_))))))
   clear hK6 hK2
   refine rtv rfl rfl hs7 ?_
   rw [findI_some (F := encI) (by rw [f_s.len]; omega) p1 h8]
  have qh8 := h8
  try simp only [decide_eq_true_eq, decide_eq_false_iff_not] at qh8
  refine WC.skip (hK6 _ _ (WC.region (WL.r 2 hs7 [] rfl (WL.nil (tkN ?_)))))
  refine ⟨sbF rfl, hs7, _, ?_, i + 1, rfl, ?_, ?_, ⟨rfl, trivial⟩⟩
  · omega
  · omega
  · intro j hj; rcases Nat.lt_or_ge j i with h_ | h_
    · exact p1 j h_
    · obtain rfl : j = i := by omega
      exact h8
 have qh5 := h5
 try simp only [decide_eq_true_eq, decide_eq_false_iff_not] at qh5
 refine WC.exit (hK2 _ _ (WC.r1 hs3 [] rfl (WC.ret (rtv rfl rfl hs3 ?_))))
 rw [findI_none (F := encI) (fun j hj => p1 j (by rw [f_s.len] at hj; omega))]
theorem k63_ (v_s : Value) (s : List Int) (L_s : Hp) (p : Int → Bool) (cv : Value) (w : World) (o_s : OwnF encI 3 v_s s L_s) (h_s : Hh w L_s) (hcl : ∀ (w1 : World) (Lx : Hp), St w (L_s.map (·.1)) Lx w1 → ∀ m : Int, Calls Try.prog 112 #[i64 m, cv] w1 fun e w2 => e = .returned (.bool (p m)) ∧ St w1 [] [] w2) (hn : s.length ≤ 1048576) :
    Calls Try.prog 111 #[v_s, .func (.func 112) #[] #[cv]] w fun e w' => ∃ A c n xs L1, e = .returned (.slice A n c) ∧ St w (L_s.map (·.1)) L1 w' ∧ OwnF encI 3 (.slice A n c) xs L1 ∧ xs = s.filter (fun x => !p x) := by
 obtain ⟨A_s, c_s, rfl⟩ := o_s.shape
 refine enter 42 Try.func111 rfl Try.ntmps111 rfl rfl ?_
 have hs1 := St.lent1 w L_s o_s h_s
 refine WC.r1 hs1 [] rfl (WC.sr (WL.r 2 hs1 [] rfl ?_))
 refine WL.cl Try.call102 rfl (k62_ _ _ _ _ _ _ _ (SlF.ofOwn o_s (hs1.ow L_s)) (fun w_ hx_ => hcl _ _ (St.call0 hs1 hx_)) ?_) ?_
 · first | assumption | rfl | omega
 rintro _ whs2 ⟨rfl, hs2⟩
 replace hs2 := hs1.call0 hs2
 refine ⟨_, rfl, WL.r 1 hs2 [] rfl (WL.nil (WC.seq (fun K3 hK3 => WC.r1 hs2 [] rfl ?_)))⟩
 refine WC.cq rfl (fun h4 qh4 => ?_) (fun h4 qh4 => ?_)
 ·have hfi : findI p s = -1 := by have h9 := h4; simpa using h9
  refine WC.r1 hs2 [] rfl (WC.ret (tkR ?_))
  clear hK3
  refine retV1 rfl (resV.tmp rfl) (⟨_, _, _, _, _, rfl, (St.keep1 hs2), o_s, (del_none hfi).symm⟩)
 have hfi : ¬ findI p s = -1 := by have h9 := h4; simpa using h9
 obtain ⟨hf0, hf1⟩ := findI_bnd hfi
 refine WC.skip (hK3 _ _ (WC.seq (fun K5 hK5 => WC.r1 hs2 [] rfl (WC.block ?_))))
 refine WC.lO [1, 4, 12] rfl hs2 (fun k_ f L_ => ∃ (j m : Nat) (zs : List Int), k_ = s.length - j ∧ (j ≤ s.length) ∧ (m < j) ∧ (DelTo p s j m zs) ∧ OwnF encI 3 (.slice A_s (s.length) c_s) (zs) L_ ∧ Sub [(0, .slice A_s (s.length) c_s), (6, .int .i64 j), (5, .int .i64 m)] f) (((fun (j m : Nat) (zs : List Int) => s.length - j) ((findI p s).toNat + 1) ((findI p s).toNat) (s))) ?_ ?_
 ·refine ⟨(findI p s).toNat + 1, (findI p s).toNat, s, rfl, ?_, ?_, ?_, o_s, ⟨rfl, ?_, ?_, trivial⟩⟩
  · omega
  · omega
  · exact delTo_start hfi
  · (refine congrArg some (congrArg (Value.int _) ?_); omega)
  · (refine congrArg some (congrArg (Value.int _) ?_); omega)
 clear hs2
 rintro _ f w L8 ⟨j, m, zs, rfl, p0, p1, p2, ho9, hG⟩ hF hs10
 refine WC.sub _ (hG.app hF) ?_
 clear hG hF
 have hzl := p2.len
 refine WC.seq (fun K11 hK11 => WC.r1 hs10 [] rfl ?_)
 refine WC.cq rfl (fun h12 qh12 => ?_) (fun h12 qh12 => ?_)
 ·refine WC.skip (hK11 _ _ (WC.seq (fun K13 hK13 => WC.block (WC.sr (WL.r 2 hs10 [] rfl ?_)))))
  refine WL.val rfl rfl rfl (Run.idxN Try.runUnderlying28 Try.sizeOf3 rfl rfl rfl ?_ ?_ ?_) ?_
  · exact SlF.some_ (SlF.ofOwn ho9 (hs10.ow L8))
  · first | omega | (simp only [List.length_set]; omega)
  · first | omega | (simp only [List.length_set]; omega)
  refine WL.val rfl rfl rfl (Run.load Try.isAgg3 rfl rfl (SlF.one1 (SlF.ofOwn ho9 (hs10.ow L8)) ?_ rfl)) ?_
  · first | omega | (simp only [List.length_set]; omega)
  refine WL.r 1 hs10 [] rfl (WL.nil (WC.sr (WL.r 2 hs10 [] rfl (WL.call rfl rfl rfl (Run.callC Try.call112 rfl rfl rfl) (hcl _ _ hs10 _) ?_))))
  rintro _ whs14 ⟨rfl, hs14⟩
  replace hs14 := hs10.call0 hs14
  refine ⟨_, rfl, WL.r 1 hs14 [] rfl (WL.nil (WC.cq rfl (fun h15 qh15 => ?_) (fun h15 qh15 => ?_)))⟩
  ·refine WC.sr (WL.r 3 hs14 [] rfl (WL.val rfl rfl rfl (Run.idxN Try.runUnderlying28 Try.sizeOf3 rfl rfl rfl ?_ ?_ ?_) ?_))
   · exact SlF.some_ (SlF.ofOwn ho9 (hs14.ow L8))
   · first | omega | (simp only [List.length_set]; omega)
   · first | omega | (simp only [List.length_set]; omega)
   refine WL.storeF1 (x' := _) hs14 ho9 Try.sizeOf3 rfl rfl rfl rfl rfl rfl rfl rfl rfl ?_ rfl (fun L16 whs17 hs17 ho18 _ => ?_)
   · first | omega | (simp only [List.length_set]; omega)
   refine WL.nil (WC.region (WL.r 3 hs17 [] rfl (WL.nil (hK13 _ _ (WC.region (WL.r 3 hs17 [] rfl (WL.nil ?_)))))))
   refine tkN (⟨sbF rfl, _, hs17, _, ?_, j + 1, (m + 1), _, rfl, ?_, ?_, ?_, ho18, ⟨rfl, ?_, ?_, trivial⟩⟩)
   · omega
   · omega
   · omega
   · first | exact p2.keep (by omega) (by omega) (by have h9 := h15; simpa using h9) | exact p2.skip (by omega) (by have h9 := h15; simpa using h9)
   · (refine congrArg some (congrArg (Value.int _) ?_); omega)
   · (refine congrArg some (congrArg (Value.int _) ?_); omega)
  refine WC.skip (hK13 _ _ (WC.region (WL.r 3 hs14 [] rfl (WL.nil (tkN ?_)))))
  refine ⟨sbF rfl, _, hs14, _, ?_, j + 1, m, _, rfl, ?_, ?_, ?_, ho9, ⟨rfl, ?_, ?_, trivial⟩⟩
  · omega
  · omega
  · omega
  · first | exact p2.keep (by omega) (by omega) (by have h9 := h15; simpa using h9) | exact p2.skip (by omega) (by have h9 := h15; simpa using h9)
  · (refine congrArg some (congrArg (Value.int _) ?_); omega)
  · (refine congrArg some (congrArg (Value.int _) ?_); omega)
 refine WC.exit (hK5 _ _ (WC.sr (WL.r 2 hs10 [] rfl ?_)))
 have hc_ := OwnF.cap ho9
 refine WL.val rfl rfl rfl (Run.sliceL (m) Try.runUnderlying28 Try.sizeOf3 rfl rfl rfl ?_ ?_) ?_
 · first | rfl | (omega)
 · refine ⟨?_, ?_, ?_⟩ <;> (omega)
 have hmt : (zs.take m).length = m := by rw [List.length_take]; omega
 have hcz := OwnF.cap ho9
 refine WL.clearT (m := m) (q := s.length - m) hs10 (OwnF.take (k := m) ho9 (by omega)) Try.underlying28 Try.zeroValue3 rfl rfl rfl rfl rfl ?_ (fun L19 whs20 hs20 ho21 => ?_)
 · omega
 refine WL.nil (WC.sr (WL.r 2 hs20 [] rfl (WL.val rfl rfl rfl (Run.sliceH0 m Try.runUnderlying28 Try.sizeOf3 rfl rfl rfl ?_ ?_) ?_)))
 · omega
 · omega
 refine WL.r 1 hs20 [] rfl (WL.nil (WC.ret (retV1 rfl (resV.tmp rfl) (⟨_, _, _, _, _, rfl, (St.keep1 hs20), ho21, p2.all (by omega)⟩))))
theorem k64_ (n : Int) (w : World) :
    Calls Try.prog 76 #[i64 n] w fun e w' => e = .returned (.bool (!within n 0 9999)) ∧ St w [] [] w' := by
 refine enter 6 Try.func76 rfl Try.ntmps76 rfl rfl ?_
 have hs1 := St.init w
 refine WC.r1 hs1 [] rfl (WC.sr (WL.r 1 hs1 [] rfl (WL.cl Try.call33 rfl (k0_ _ _ _ _) ?_)))
 rintro _ whs2 ⟨rfl, hs2⟩
 replace hs2 := hs1.call0 hs2
 refine ⟨_, rfl, WL.r 2 hs2 [] rfl (WL.nil (WC.ret (rtv rfl rfl hs2 ?_)))⟩
 rfl
theorem k65_ (A_s : Option Addr) (n_s c_s : Nat) (s : List Int) (w : World) (f_s : SlF encI w A_s n_s s) (hn : n_s ≤ 1099511627776) :
    Calls Try.prog 102 #[.slice A_s n_s c_s, .func (.func 76) #[] #[]] w fun e w' => e = .returned (.int .i64 (findI (fun n => !within n 0 9999) s)) ∧ St w [] [] w' := by
 refine enter 19 Try.func102 rfl Try.ntmps102 rfl rfl ?_
 have hs1 := St.init w
 refine WC.r1 hs1 [] rfl (WC.seq (fun K2 hK2 => WC.r1 hs1 [] rfl (WC.block ?_)))
 refine WC.lS [0, 1, 7] rfl hs1 (fun k_ f w' => ∃ (i : Nat), k_ = n_s - i ∧ (i ≤ n_s) ∧ (∀ j, j < i → (fun n => !within n 0 9999) (gat encI s j) = false) ∧ Sub [(8, .int .i64 i)] f) ((fun (i : Nat) => n_s - i) (0)) ?_ ?_
 ·refine ⟨0, rfl, ?_, ?_, ⟨rfl, trivial⟩⟩
  · exact Nat.zero_le _
  · exact fun j hj => absurd hj (by omega)
 clear hs1
 rintro _ f w ⟨i, rfl, p0, p1, hG⟩ hF hs3
 refine WC.sub _ (hG.app hF) ?_
 clear hG hF
 refine WC.r1 hs3 [] rfl (WC.seq (fun K4 hK4 => ?_))
 refine WC.cond rfl (fun h5 => ?_) (fun h5 => ?_)
 ·have qh5 := h5
  try simp only [decide_eq_true_eq, decide_eq_false_iff_not] at qh5
  refine WC.skip (hK4 _ _ (WC.seq (fun K6 hK6 => WC.block (WC.r1 hs3 [] rfl (WC.sr (WL.r 3 hs3 [] rfl ?_))))))
  refine WL.val rfl rfl rfl (Run.idxN Try.runUnderlying28 Try.sizeOf3 rfl rfl rfl ?_ ?_ ?_) ?_
  · exact SlF.some_ (SlF.st0 f_s hs3)
  · omega
  · omega
  refine WL.val rfl rfl rfl (Run.load Try.isAgg3 rfl rfl (SlF.one1 (SlF.st0 f_s hs3) ?_ rfl)) ?_
  · omega
  refine WL.cl Try.call76 rfl (k64_ _ _) ?_
  rintro _ whs7 ⟨rfl, hs7⟩
  replace hs7 := hs3.call0 hs7
  refine ⟨_, rfl, WL.nil (WC.cond rfl (fun h8 => ?_) (fun h8 => ?_))⟩
  ·have qh8 := h8
   try simp only [decide_eq_true_eq, decide_eq_false_iff_not] at qh8
   refine WC.r1 hs7 [] rfl (WC.ret (ibR (tkR (tkR (ibR (tkR ?_))))))
   clear hK6 hK2
   refine rtv rfl rfl hs7 ?_
   rw [findI_some (F := encI) (by rw [f_s.len]; omega) p1 h8]
  have qh8 := h8
  try simp only [decide_eq_true_eq, decide_eq_false_iff_not] at qh8
  refine WC.skip (hK6 _ _ (WC.region (WL.r 2 hs7 [] rfl (WL.nil (tkN ?_)))))
  refine ⟨sbF rfl, hs7, _, ?_, i + 1, rfl, ?_, ?_, ⟨rfl, trivial⟩⟩
  · omega
  · omega
  · intro j hj; rcases Nat.lt_or_ge j i with h_ | h_
    · exact p1 j h_
    · obtain rfl : j = i := by omega
      exact h8
 have qh5 := h5
 try simp only [decide_eq_true_eq, decide_eq_false_iff_not] at qh5
 refine WC.exit (hK2 _ _ (WC.r1 hs3 [] rfl (WC.ret (rtv rfl rfl hs3 ?_))))
 rw [findI_none (F := encI) (fun j hj => p1 j (by rw [f_s.len] at hj; omega))]
theorem k66_ (A_s : Option Addr) (n_s c_s : Nat) (s : List Int) (w : World) (f_s : SlF encI w A_s n_s s) (hn : n_s ≤ 549755813888) :
    Calls Try.prog 75 #[.slice A_s n_s c_s, .func (.func 76) #[] #[]] w fun e w' => e = .returned (.bool (decide (0 ≤ findI (fun n => !within n 0 9999) s))) ∧ St w [] [] w' := by
 refine enter 9 Try.func75 rfl Try.ntmps75 rfl rfl ?_
 have hs1 := St.init w
 refine WC.r1 hs1 [] rfl (WC.sr (WL.r 2 hs1 [] rfl (WL.cl Try.call102 rfl (k65_ _ _ _ _ _ (SlF.st0 f_s hs1) ?_) ?_)))
 · first | assumption | rfl | omega
 rintro _ whs2 ⟨rfl, hs2⟩
 replace hs2 := hs1.call0 hs2
 refine ⟨_, rfl, WL.r 2 hs2 [] rfl (WL.nil (WC.ret (rtv rfl rfl hs2 ?_)))⟩
 rfl
theorem k67_ (A_l : Option Addr) (n_l c_l : Nat) (l : List Int) (w : World) (f_l : SlF encI w A_l n_l l) (hn : n_l ≤ 549755813888) :
    Calls Try.prog 43 #[.slice A_l n_l c_l] w fun e w' => e = .returned (.bool (areArgs l)) ∧ St w [] [] w' := by
 refine enter 11 Try.func43 rfl Try.ntmps43 rfl rfl ?_
 have hs1 := St.init w
 refine WC.r1 hs1 [] rfl (WC.sr (WL.r 4 hs1 [] rfl ?_))
 apply WL.gA 3 Acts.nil hs1 rfl
 ·intro g2 J3
  have qg2 := g2
  try simp only [bf, within_iff, within_not] at qg2
  refine WL.runA tbk 1 (Acts.nil.cons (j := 3) rfl g2) hs1 [] rfl trivial (WL.call (wantT rfl g2) rfl rfl (Run.call Try.call75 rfl rfl rfl) (k66_ _ _ _ _ _ (SlF.st0 f_l hs1) ?_) ?_)
  · first | assumption | rfl | omega
  rintro _ whs4 ⟨rfl, hs4⟩
  replace hs4 := hs1.call0 hs4
  refine ⟨_, rfl, WL.runA tbk 1 (Acts.nil.cons (j := 3) rfl g2) hs4 [] rfl trivial (WL.eA 3 Acts.nil J3 hs4 g2 rfl rfl)⟩
 intro _ hs5
 refine WL.r 1 hs5 [] rfl (WL.nil (WC.ret (rtv rfl rfl hs5 ?_)))
 rw [all_find, ← f_l.len]; unfold areArgs; rw [show decide ((l.length : Int) ≤ 8) = decide (l.length ≤ 8) from by rw [decide_eq_decide]; omega]
theorem k68_ (A_l : Option Addr) (n_l c_l : Nat) (l : List Int) (d : Int) (w : World) (f_l : SlF encI w A_l n_l l) (hn : n_l ≤ 549755813888) :
    Calls Try.prog 103 #[.slice A_l n_l c_l, i64 0, i64 d] w fun e w' => e = .returned (i64 (argI l 0 d)) ∧ St w [] [] w' := by
 have hl := f_l.len
 refine enter 23 Try.func103 rfl Try.ntmps103 rfl rfl ?_
 have hs1 := St.init w
 refine WC.r1 hs1 [] rfl (WC.seq (fun K2 hK2 => WC.sr (WL.r 5 hs1 [] rfl ?_)))
 apply WL.gA 5 Acts.nil hs1 rfl
 ·intro g3 J4
  have qg3 := g3
  try simp only [bf, within_iff, within_not] at qg3
  refine WL.runA tbk 2 (Acts.nil.cons (j := 4) rfl g3) hs1 [] rfl trivial (WL.val (wantT rfl g3) rfl rfl (Run.idx Try.runUnderlying28 Try.sizeOf3 rfl rfl rfl ?_ ?_ ?_) ?_)
  · exact SlF.some_ (SlF.st0 f_l hs1)
  · omega
  · omega
  refine WL.val (wantT rfl g3) rfl rfl (Run.load Try.isAgg3 rfl rfl (SlF.one1 (SlF.st0 f_l hs1) ?_ rfl)) ?_
  · omega
  refine WL.runA tbk 1 (Acts.nil.cons (j := 4) rfl g3) hs1 [] rfl trivial (WL.eA 5 Acts.nil J4 hs1 g3 rfl rfl)
 intro _ hs5
 refine WL.nil (WC.cq rfl (fun h6 qh6 => ?_) (fun h6 qh6 => ?_))
 ·have hp : 0 < l.length ∧ iat l 0 ≠ 0 := by have h9 := h6; simp at h9; exact ⟨by omega, h9.2⟩
  refine WC.sr (WL.r 2 hs5 [] rfl (WL.val rfl rfl rfl (Run.idx Try.runUnderlying28 Try.sizeOf3 rfl rfl rfl ?_ ?_ ?_) ?_))
  · exact SlF.some_ (SlF.st0 f_l hs5)
  · omega
  · omega
  refine WL.val rfl rfl rfl (Run.load Try.isAgg3 rfl rfl (SlF.one1 (SlF.st0 f_l hs5) ?_ rfl)) ?_
  · omega
  refine WL.r 1 hs5 [] rfl (WL.nil (WC.ret (tkR ?_)))
  clear hK2
  refine rtv rfl rfl hs5 ?_
  rw [show argI l 0 d = iat l 0 from by unfold argI; rw [if_pos hp]]; rfl
 have hp : ¬ (0 < l.length ∧ iat l 0 ≠ 0) := by rintro ⟨h7, h8⟩; have h9 := h6; simp at h9; exact h8 (h9 (by omega))
 refine WC.skip (hK2 _ _ (WC.r1 hs5 [] rfl (WC.ret (rtv rfl rfl hs5 ?_))))
 rw [show argI l 0 d = d from by unfold argI; rw [if_neg hp]]
theorem k69_ (A_l : Option Addr) (n_l c_l : Nat) (l : List Int) (d : Int) (w : World) (f_l : SlF encI w A_l n_l l) (hn : n_l ≤ 549755813888) :
    Calls Try.prog 103 #[.slice A_l n_l c_l, i64 1, i64 d] w fun e w' => e = .returned (i64 (argI l 1 d)) ∧ St w [] [] w' := by
 have hl := f_l.len
 refine enter 23 Try.func103 rfl Try.ntmps103 rfl rfl ?_
 have hs1 := St.init w
 refine WC.r1 hs1 [] rfl (WC.seq (fun K2 hK2 => WC.sr (WL.r 5 hs1 [] rfl ?_)))
 apply WL.gA 5 Acts.nil hs1 rfl
 ·intro g3 J4
  have qg3 := g3
  try simp only [bf, within_iff, within_not] at qg3
  refine WL.runA tbk 2 (Acts.nil.cons (j := 4) rfl g3) hs1 [] rfl trivial (WL.val (wantT rfl g3) rfl rfl (Run.idx Try.runUnderlying28 Try.sizeOf3 rfl rfl rfl ?_ ?_ ?_) ?_)
  · exact SlF.some_ (SlF.st0 f_l hs1)
  · omega
  · omega
  refine WL.val (wantT rfl g3) rfl rfl (Run.load Try.isAgg3 rfl rfl (SlF.one1 (SlF.st0 f_l hs1) ?_ rfl)) ?_
  · omega
  refine WL.runA tbk 1 (Acts.nil.cons (j := 4) rfl g3) hs1 [] rfl trivial (WL.eA 5 Acts.nil J4 hs1 g3 rfl rfl)
 intro _ hs5
 refine WL.nil (WC.cq rfl (fun h6 qh6 => ?_) (fun h6 qh6 => ?_))
 ·have hp : 1 < l.length ∧ iat l 1 ≠ 0 := by have h9 := h6; simp at h9; exact ⟨by omega, h9.2⟩
  refine WC.sr (WL.r 2 hs5 [] rfl (WL.val rfl rfl rfl (Run.idx Try.runUnderlying28 Try.sizeOf3 rfl rfl rfl ?_ ?_ ?_) ?_))
  · exact SlF.some_ (SlF.st0 f_l hs5)
  · omega
  · omega
  refine WL.val rfl rfl rfl (Run.load Try.isAgg3 rfl rfl (SlF.one1 (SlF.st0 f_l hs5) ?_ rfl)) ?_
  · omega
  refine WL.r 1 hs5 [] rfl (WL.nil (WC.ret (tkR ?_)))
  clear hK2
  refine rtv rfl rfl hs5 ?_
  rw [show argI l 1 d = iat l 1 from by unfold argI; rw [if_pos hp]]; rfl
 have hp : ¬ (1 < l.length ∧ iat l 1 ≠ 0) := by rintro ⟨h7, h8⟩; have h9 := h6; simp at h9; exact h8 (h9 (by omega))
 refine WC.skip (hK2 _ _ (WC.r1 hs5 [] rfl (WC.ret (rtv rfl rfl hs5 ?_))))
 rw [show argI l 1 d = d from by unfold argI; rw [if_neg hp]]
theorem k70_ (b_s : Nat) (s : ScrR) (L_s : Hp) (x : Int) (y : Int) (w : World) (hb_s : w.heap[b_s]? = some (Obj.cells (List.toArray [i64 s.W, i64 s.H, i64 s.Main.W, i64 s.Main.H, .slice s.Main.Cells.A s.Main.Cells.n s.Main.Cells.c, i64 s.Alt.W, i64 s.Alt.H, .slice s.Alt.Cells.A s.Alt.Cells.n s.Alt.Cells.c, .bool s.OnAlt, i64 s.X, i64 s.Y, .bool s.Wrap, i64 s.A.Fg, i64 s.A.Bg, .bool s.A.Bold, .bool s.A.Under, .bool s.A.Turn, i64 s.Top, i64 s.Bot, .bool s.NoWrap, .bool s.Hide, i64 s.SaveX, i64 s.SaveY, i64 s.SaveA.Fg, i64 s.SaveA.Bg, .bool s.SaveA.Bold, .bool s.SaveA.Under, .bool s.SaveA.Turn, .slice s.Tabs.A s.Tabs.n s.Tabs.c, i64 s.Limit, .slice s.Back.A s.Back.n s.Back.c]) 31 (0, 0))) (o_s : ownScrR s L_s) (h_s : Hh w L_s) (hd_ : (b_s :: L_s.map (·.1)).Nodup) (hwh : (1 ≤ s.W ∧ s.W ≤ 120) ∧ 1 ≤ s.H ∧ s.H ≤ 120) :
    Calls Try.prog 118 #[.pointer (some ⟨b_s, 0, none⟩), i64 x, i64 y] w fun e w' => ∃ r L1, e = .returned (.tuple #[]) ∧ St w (b_s :: L_s.map (·.1)) ([(b_s, Obj.cells (List.toArray [i64 r.W, i64 r.H, i64 r.Main.W, i64 r.Main.H, .slice r.Main.Cells.A r.Main.Cells.n r.Main.Cells.c, i64 r.Alt.W, i64 r.Alt.H, .slice r.Alt.Cells.A r.Alt.Cells.n r.Alt.Cells.c, .bool r.OnAlt, i64 r.X, i64 r.Y, .bool r.Wrap, i64 r.A.Fg, i64 r.A.Bg, .bool r.A.Bold, .bool r.A.Under, .bool r.A.Turn, i64 r.Top, i64 r.Bot, .bool r.NoWrap, .bool r.Hide, i64 r.SaveX, i64 r.SaveY, i64 r.SaveA.Fg, i64 r.SaveA.Bg, .bool r.SaveA.Bold, .bool r.SaveA.Under, .bool r.SaveA.Turn, .slice r.Tabs.A r.Tabs.n r.Tabs.c, i64 r.Limit, .slice r.Back.A r.Back.n r.Back.c]) 31 (0, 0))] ++ L1) w' ∧ ownScrR r L1 ∧ r.dat = moveD s.dat x y := by
 refine enter 31 Try.func118 rfl Try.ntmps118 rfl rfl ?_
 have hs1 := St.takeP w b_s _ L_s hb_s h_s hd_
 refine WC.rG 21 hs1.d1 hs1 hs1 (fun _ hs2 => ?_)
 refine WG.rn [0, 1, 2, 3, 4, 5, 6, 7, 8, 9, 10, 11, 12, 13, 14, 15, 16, 17, 18, 19, 20] hs2 [0, 0] rfl rfl (WG.oK rfl (WL.st tbk hs2 0 rfl rfl (fun _ hs3 => WL.nil ⟨hs3.d1, WH.rn [22, 23] hs3.d1 [] rfl rfl (WH.o1 24 rfl (WL.st tbk hs3 0 rfl rfl (fun _ hs4 => WL.nil ⟨hs4.d1, ?_⟩)))⟩)))
 refine WH.rn [25, 26] hs4.d1 [] rfl rfl (WH.o1 27 rfl (WL.st tbk hs4 0 rfl rfl (fun _ hs5 => WL.nil ⟨hs5.d1, WH.dn (retK0 rfl ?_)⟩)))
 obtain ⟨L6, L7, L8, L9, hs14, ho10, ho11, ho12, ho13⟩ := ownScrR.op hs5 o_s
 have hs15 := (hs14.fb b_s)
 obtain ⟨L17, hs16, ho18⟩ := ownScrR.fl hs15 ho10 ho11 ho12 ho13
 have hs19 := (hs16.fb b_s)
 refine ownScrR.retp rfl ((hs19.fr L17).fb b_s) ho18 ?_
 · rfl
theorem k71_ (b_s : Nat) (s : ScrR) (L_s : Hp) (n : Int) (m : Int) (b : Int) (w : World) (hb_s : w.heap[b_s]? = some (Obj.cells (List.toArray [i64 s.W, i64 s.H, i64 s.Main.W, i64 s.Main.H, .slice s.Main.Cells.A s.Main.Cells.n s.Main.Cells.c, i64 s.Alt.W, i64 s.Alt.H, .slice s.Alt.Cells.A s.Alt.Cells.n s.Alt.Cells.c, .bool s.OnAlt, i64 s.X, i64 s.Y, .bool s.Wrap, i64 s.A.Fg, i64 s.A.Bg, .bool s.A.Bold, .bool s.A.Under, .bool s.A.Turn, i64 s.Top, i64 s.Bot, .bool s.NoWrap, .bool s.Hide, i64 s.SaveX, i64 s.SaveY, i64 s.SaveA.Fg, i64 s.SaveA.Bg, .bool s.SaveA.Bold, .bool s.SaveA.Under, .bool s.SaveA.Turn, .slice s.Tabs.A s.Tabs.n s.Tabs.c, i64 s.Limit, .slice s.Back.A s.Back.n s.Back.c]) 31 (0, 0))) (o_s : ownScrR s L_s) (h_s : Hh w L_s) (hd_ : (b_s :: L_s.map (·.1)).Nodup) (hf : ScrFine s.dat) (hn : 0 ≤ n ∧ n ≤ 9999) (hm : 0 ≤ m ∧ m ≤ 9999) :
    Calls Try.prog 104 #[.pointer (some ⟨b_s, 0, none⟩), i64 n, i64 m, i64 b] w fun e w' => ∃ r L1, e = .returned (.bool (isMove b)) ∧ St w (b_s :: L_s.map (·.1)) ([(b_s, Obj.cells (List.toArray [i64 r.W, i64 r.H, i64 r.Main.W, i64 r.Main.H, .slice r.Main.Cells.A r.Main.Cells.n r.Main.Cells.c, i64 r.Alt.W, i64 r.Alt.H, .slice r.Alt.Cells.A r.Alt.Cells.n r.Alt.Cells.c, .bool r.OnAlt, i64 r.X, i64 r.Y, .bool r.Wrap, i64 r.A.Fg, i64 r.A.Bg, .bool r.A.Bold, .bool r.A.Under, .bool r.A.Turn, i64 r.Top, i64 r.Bot, .bool r.NoWrap, .bool r.Hide, i64 r.SaveX, i64 r.SaveY, i64 r.SaveA.Fg, i64 r.SaveA.Bg, .bool r.SaveA.Bold, .bool r.SaveA.Under, .bool r.SaveA.Turn, .slice r.Tabs.A r.Tabs.n r.Tabs.c, i64 r.Limit, .slice r.Back.A r.Back.n r.Back.c]) 31 (0, 0))] ++ L1) w' ∧ ownScrR r L1 ∧ r.dat = moveByD s.dat n m b := by
 have hwh : (1 ≤ s.W ∧ s.W ≤ 120) ∧ 1 ≤ s.H ∧ s.H ≤ 120 := ⟨(isSize_bnd hf.size).1, (isSize_bnd hf.size).2.1⟩
 have hxy := hf.pos
 simp only [ScrR.dat, GridR.dat] at hxy
 refine enter 95 Try.func104 rfl Try.ntmps104 rfl rfl ?_
 have hs1 := St.takeP w b_s _ L_s hb_s h_s hd_
 refine WC.r1 hs1 [] rfl (WC.seq (fun K2 hK2 => WC.r1 hs1 [] rfl (WC.block (WC.r1 hs1 [] rfl ?_))))
 refine WC.cq rfl (fun h3 qh3 => ?_) (fun h3 qh3 => ?_)
 ·have e65 : b = 65 := by have h9 := h3; simpa using h9
  refine WC.rG 11 (hs1.d1.rm L_s) hs1 hs1 (fun _ hs4 => ?_)
  refine WG.rn [0, 1, 2, 3, 4, 5, 6, 7, 8, 9, 10] hs4 [0, 0] rfl rfl (WG.oK rfl ?_)
  have hF5 := ((hs4.fr L_s).fb b_s)
  refine WL.cl Try.call118 rfl (k70_ _ s _ _ _ _ (St.headP hF5) o_s (St.ownP hF5) (St.nodupP hF5) ?_) ?_
  · first | assumption | rfl | omega
  rintro _ whs6 ⟨r7, L8, rfl, hs6, ho9, hd10⟩
  replace hs6 := St.lendP hF5 hs6
  refine ⟨_, rfl, WL.nil ⟨(hs6.d1.rm L8), WH.dn (hK2 _ _ (WC.r1 hs6 [] rfl (WC.ret (retV1 rfl (resV.tmp rfl) ?_))))⟩⟩
  have hmv : isMove b = true := by unfold isMove; rw [decide_eq_true_eq]; omega
  refine ⟨r7, _, (by rw [hmv]), St.keepP (L1 := L8) ((hs6.fr L8).fb b_s), ho9, ?_⟩
  · unfold moveByD; rw [if_pos e65]; exact hd10
 have e65 : ¬ b = 65 := by have h9 := h3; simpa using h9
 refine WC.r1 hs1 [] rfl (WC.cq rfl (fun h11 qh11 => ?_) (fun h11 qh11 => ?_))
 ·have e66 : b = 66 := by have h9 := h11; simpa using h9
  refine WC.rG 11 (hs1.d1.rm L_s) hs1 hs1 (fun _ hs12 => ?_)
  refine WG.rn [0, 1, 2, 3, 4, 5, 6, 7, 8, 9, 10] hs12 [0, 0] rfl rfl (WG.oK rfl ?_)
  have hF13 := ((hs12.fr L_s).fb b_s)
  refine WL.cl Try.call118 rfl (k70_ _ s _ _ _ _ (St.headP hF13) o_s (St.ownP hF13) (St.nodupP hF13) ?_) ?_
  · first | assumption | rfl | omega
  rintro _ whs14 ⟨r15, L16, rfl, hs14, ho17, hd18⟩
  replace hs14 := St.lendP hF13 hs14
  refine ⟨_, rfl, WL.nil ⟨(hs14.d1.rm L16), WH.dn (hK2 _ _ (WC.r1 hs14 [] rfl (WC.ret (retV1 rfl (resV.tmp rfl) ?_))))⟩⟩
  have hmv : isMove b = true := by unfold isMove; rw [decide_eq_true_eq]; omega
  refine ⟨r15, _, (by rw [hmv]), St.keepP (L1 := L16) ((hs14.fr L16).fb b_s), ho17, ?_⟩
  · unfold moveByD; rw [if_neg e65, if_pos e66]; exact hd18
 have e66 : ¬ b = 66 := by have h9 := h11; simpa using h9
 refine WC.r1 hs1 [] rfl (WC.cq rfl (fun h19 qh19 => ?_) (fun h19 qh19 => ?_))
 ·have e67 : b = 67 := by have h9 := h19; simpa using h9
  refine WC.rG 11 (hs1.d1.rm L_s) hs1 hs1 (fun _ hs20 => ?_)
  refine WG.rn [0, 1, 2, 3, 4, 5, 6, 7, 8, 9, 10] hs20 [0, 0] rfl rfl (WG.oK rfl ?_)
  have hF21 := ((hs20.fr L_s).fb b_s)
  refine WL.cl Try.call118 rfl (k70_ _ s _ _ _ _ (St.headP hF21) o_s (St.ownP hF21) (St.nodupP hF21) ?_) ?_
  · first | assumption | rfl | omega
  rintro _ whs22 ⟨r23, L24, rfl, hs22, ho25, hd26⟩
  replace hs22 := St.lendP hF21 hs22
  refine ⟨_, rfl, WL.nil ⟨(hs22.d1.rm L24), WH.dn (hK2 _ _ (WC.r1 hs22 [] rfl (WC.ret (retV1 rfl (resV.tmp rfl) ?_))))⟩⟩
  have hmv : isMove b = true := by unfold isMove; rw [decide_eq_true_eq]; omega
  refine ⟨r23, _, (by rw [hmv]), St.keepP (L1 := L24) ((hs22.fr L24).fb b_s), ho25, ?_⟩
  · unfold moveByD; rw [if_neg e65, if_neg e66, if_pos e67]; exact hd26
 have e67 : ¬ b = 67 := by have h9 := h19; simpa using h9
 refine WC.r1 hs1 [] rfl (WC.cq rfl (fun h27 qh27 => ?_) (fun h27 qh27 => ?_))
 ·have e68 : b = 68 := by have h9 := h27; simpa using h9
  refine WC.rG 11 (hs1.d1.rm L_s) hs1 hs1 (fun _ hs28 => ?_)
  refine WG.rn [0, 1, 2, 3, 4, 5, 6, 7, 8, 9, 10] hs28 [0, 0] rfl rfl (WG.oK rfl ?_)
  have hF29 := ((hs28.fr L_s).fb b_s)
  refine WL.cl Try.call118 rfl (k70_ _ s _ _ _ _ (St.headP hF29) o_s (St.ownP hF29) (St.nodupP hF29) ?_) ?_
  · first | assumption | rfl | omega
  rintro _ whs30 ⟨r31, L32, rfl, hs30, ho33, hd34⟩
  replace hs30 := St.lendP hF29 hs30
  refine ⟨_, rfl, WL.nil ⟨(hs30.d1.rm L32), WH.dn (hK2 _ _ (WC.r1 hs30 [] rfl (WC.ret (retV1 rfl (resV.tmp rfl) ?_))))⟩⟩
  have hmv : isMove b = true := by unfold isMove; rw [decide_eq_true_eq]; omega
  refine ⟨r31, _, (by rw [hmv]), St.keepP (L1 := L32) ((hs30.fr L32).fb b_s), ho33, ?_⟩
  · unfold moveByD; rw [if_neg e65, if_neg e66, if_neg e67, if_pos e68]; exact hd34
 have e68 : ¬ b = 68 := by have h9 := h27; simpa using h9
 refine WC.r1 hs1 [] rfl (WC.cq rfl (fun h35 qh35 => ?_) (fun h35 qh35 => ?_))
 ·have e71 : b = 71 := by have h9 := h35; simpa using h9
  refine WC.region (WL.r 7 hs1 [0] rfl ?_)
  have hF36 := ((hs1.fr L_s).fb b_s)
  refine WL.cl Try.call118 rfl (k70_ _ s _ _ _ _ (St.headP hF36) o_s (St.ownP hF36) (St.nodupP hF36) ?_) ?_
  · first | assumption | rfl | omega
  rintro _ whs37 ⟨r38, L39, rfl, hs37, ho40, hd41⟩
  replace hs37 := St.lendP hF36 hs37
  refine ⟨_, rfl, WL.nil (hK2 _ _ (WC.r1 hs37 [] rfl (WC.ret (retV1 rfl (resV.tmp rfl) ?_))))⟩
  have hmv : isMove b = true := by unfold isMove; rw [decide_eq_true_eq]; omega
  refine ⟨r38, _, (by rw [hmv]), St.keepP (L1 := L39) ((hs37.fr L39).fb b_s), ho40, ?_⟩
  · unfold moveByD; rw [if_neg e65, if_neg e66, if_neg e67, if_neg e68, if_pos e71]; exact hd41
 have e71 : ¬ b = 71 := by have h9 := h35; simpa using h9
 refine WC.r1 hs1 [] rfl (WC.cq rfl (fun h42 qh42 => ?_) (fun h42 qh42 => ?_))
 ·have e100 : b = 100 := by have h9 := h42; simpa using h9
  refine WC.region (WL.r 7 hs1 [0] rfl ?_)
  have hF43 := ((hs1.fr L_s).fb b_s)
  refine WL.cl Try.call118 rfl (k70_ _ s _ _ _ _ (St.headP hF43) o_s (St.ownP hF43) (St.nodupP hF43) ?_) ?_
  · first | assumption | rfl | omega
  rintro _ whs44 ⟨r45, L46, rfl, hs44, ho47, hd48⟩
  replace hs44 := St.lendP hF43 hs44
  refine ⟨_, rfl, WL.nil (hK2 _ _ (WC.r1 hs44 [] rfl (WC.ret (retV1 rfl (resV.tmp rfl) ?_))))⟩
  have hmv : isMove b = true := by unfold isMove; rw [decide_eq_true_eq]; omega
  refine ⟨r45, _, (by rw [hmv]), St.keepP (L1 := L46) ((hs44.fr L46).fb b_s), ho47, ?_⟩
  · unfold moveByD; rw [if_neg e65, if_neg e66, if_neg e67, if_neg e68, if_neg e71, if_pos e100]; exact hd48
 have e100 : ¬ b = 100 := by have h9 := h42; simpa using h9
 refine WC.seq (fun K49 hK49 => WC.r1 hs1 [] rfl ?_)
 refine WC.cq rfl (fun h50 qh50 => ?_) (fun h50 qh50 => ?_)
 ·have e72 : b = 72 := by have h9 := h50; simpa using h9
  refine WC.skip (hK49 _ _ (WC.condT rfl h50 (WC.region (WL.r 5 hs1 [] rfl ?_))))
  have hF52 := ((hs1.fr L_s).fb b_s)
  refine WL.cl Try.call118 rfl (k70_ _ s _ _ _ _ (St.headP hF52) o_s (St.ownP hF52) (St.nodupP hF52) ?_) ?_
  · first | assumption | rfl | omega
  rintro _ whs53 ⟨r54, L55, rfl, hs53, ho56, hd57⟩
  replace hs53 := St.lendP hF52 hs53
  refine ⟨_, rfl, WL.nil (hK2 _ _ (WC.r1 hs53 [] rfl (WC.ret (retV1 rfl (resV.tmp rfl) ?_))))⟩
  have hmv : isMove b = true := by unfold isMove; rw [decide_eq_true_eq]; omega
  refine ⟨r54, _, (by rw [hmv]), St.keepP (L1 := L55) ((hs53.fr L55).fb b_s), ho56, ?_⟩
  · unfold moveByD; rw [if_neg e65, if_neg e66, if_neg e67, if_neg e68, if_neg e71, if_neg e100, if_pos (show b = 72 ∨ b = 102 by omega)]; exact hd57
 have e72 : ¬ b = 72 := by have h9 := h50; simpa using h9
 refine WC.region (WL.r 2 hs1 [] rfl (WL.nil (hK49 _ _ ?_)))
 refine WC.cq rfl (fun h58 qh58 => ?_) (fun h58 qh58 => ?_)
 ·have e102 : b = 102 := by have h9 := h58; simpa using h9
  refine WC.region (WL.r 5 hs1 [] rfl ?_)
  have hF59 := ((hs1.fr L_s).fb b_s)
  refine WL.cl Try.call118 rfl (k70_ _ s _ _ _ _ (St.headP hF59) o_s (St.ownP hF59) (St.nodupP hF59) ?_) ?_
  · first | assumption | rfl | omega
  rintro _ whs60 ⟨r61, L62, rfl, hs60, ho63, hd64⟩
  replace hs60 := St.lendP hF59 hs60
  refine ⟨_, rfl, WL.nil (hK2 _ _ (WC.r1 hs60 [] rfl (WC.ret (retV1 rfl (resV.tmp rfl) ?_))))⟩
  have hmv : isMove b = true := by unfold isMove; rw [decide_eq_true_eq]; omega
  refine ⟨r61, _, (by rw [hmv]), St.keepP (L1 := L62) ((hs60.fr L62).fb b_s), ho63, ?_⟩
  · unfold moveByD; rw [if_neg e65, if_neg e66, if_neg e67, if_neg e68, if_neg e71, if_neg e100, if_pos (show b = 72 ∨ b = 102 by omega)]; exact hd64
 have e102 : ¬ b = 102 := by have h9 := h58; simpa using h9
 refine WC.r1 hs1 [] rfl (WC.ret (ibR (tkR ?_)))
 clear hK2
 refine retV1 rfl (resV.tmp rfl) ?_
 have hmv : isMove b = false := by unfold isMove; rw [decide_eq_false_iff_not]; omega
 refine ⟨s, _, (by rw [hmv]), St.keepP (L1 := L_s) ((hs1.fr L_s).fb b_s), o_s, ?_⟩
 · unfold moveByD; rw [if_neg e65, if_neg e66, if_neg e67, if_neg e68, if_neg e71, if_neg e100, if_neg (show ¬ (b = 72 ∨ b = 102) by omega)]
theorem k72_ (b_s : Nat) (s : ScrR) (L_s : Hp) (A_l : Option Addr) (n_l c_l : Nat) (l : List Int) (n : Int) (w : World) (hb_s : w.heap[b_s]? = some (Obj.cells (List.toArray [i64 s.W, i64 s.H, i64 s.Main.W, i64 s.Main.H, .slice s.Main.Cells.A s.Main.Cells.n s.Main.Cells.c, i64 s.Alt.W, i64 s.Alt.H, .slice s.Alt.Cells.A s.Alt.Cells.n s.Alt.Cells.c, .bool s.OnAlt, i64 s.X, i64 s.Y, .bool s.Wrap, i64 s.A.Fg, i64 s.A.Bg, .bool s.A.Bold, .bool s.A.Under, .bool s.A.Turn, i64 s.Top, i64 s.Bot, .bool s.NoWrap, .bool s.Hide, i64 s.SaveX, i64 s.SaveY, i64 s.SaveA.Fg, i64 s.SaveA.Bg, .bool s.SaveA.Bold, .bool s.SaveA.Under, .bool s.SaveA.Turn, .slice s.Tabs.A s.Tabs.n s.Tabs.c, i64 s.Limit, .slice s.Back.A s.Back.n s.Back.c]) 31 (0, 0))) (o_s : ownScrR s L_s) (h_s : Hh w L_s) (f_l : SlF encI w A_l n_l l) (hd_ : (b_s :: L_s.map (·.1)).Nodup) (s_l : 0 < n_l → (adr A_l).block ∉ (b_s :: L_s.map (·.1))) (hf : ScrFine s.dat) (hna : n = argI l 0 1) (hl : areArgs l = true) (hll : n_l ≤ 549755813888) :
    Calls Try.prog 110 #[.pointer (some ⟨b_s, 0, none⟩), .slice A_l n_l c_l, i64 n] w fun e w' => ∃ r L1, e = .returned (.tuple #[]) ∧ St w (b_s :: L_s.map (·.1)) ([(b_s, Obj.cells (List.toArray [i64 r.W, i64 r.H, i64 r.Main.W, i64 r.Main.H, .slice r.Main.Cells.A r.Main.Cells.n r.Main.Cells.c, i64 r.Alt.W, i64 r.Alt.H, .slice r.Alt.Cells.A r.Alt.Cells.n r.Alt.Cells.c, .bool r.OnAlt, i64 r.X, i64 r.Y, .bool r.Wrap, i64 r.A.Fg, i64 r.A.Bg, .bool r.A.Bold, .bool r.A.Under, .bool r.A.Turn, i64 r.Top, i64 r.Bot, .bool r.NoWrap, .bool r.Hide, i64 r.SaveX, i64 r.SaveY, i64 r.SaveA.Fg, i64 r.SaveA.Bg, .bool r.SaveA.Bold, .bool r.SaveA.Under, .bool r.SaveA.Turn, .slice r.Tabs.A r.Tabs.n r.Tabs.c, i64 r.Limit, .slice r.Back.A r.Back.n r.Back.c]) 31 (0, 0))] ++ L1) w' ∧ ownScrR r L1 ∧ r.dat = regionD s.dat l := by
 have hwh : (1 ≤ s.W ∧ s.W ≤ 120) ∧ 1 ≤ s.H ∧ s.H ≤ 120 := ⟨(isSize_bnd hf.size).1, (isSize_bnd hf.size).2.1⟩
 have hxy := hf.pos
 simp only [ScrR.dat, GridR.dat] at hxy
 have ha0 := argI_bnd (k := 0) (d := 1) hl (by omega)
 have ha1 : 0 ≤ argI l 1 s.H ∧ argI l 1 s.H ≤ 9999 := argI_bnd hl (by omega)
 refine enter 38 Try.func110 rfl Try.ntmps110 rfl rfl ?_
 have hs1 := St.takeP w b_s _ L_s hb_s h_s hd_
 refine WC.sr (WL.r 7 hs1 [0] rfl (WL.cl Try.call103 rfl (k69_ _ _ _ _ _ _ (SlF.st f_l hs1 s_l) ?_) ?_))
 · first | assumption | rfl | omega
 rintro _ whs2 ⟨rfl, hs2⟩
 replace hs2 := hs1.call0 hs2
 refine ⟨_, rfl, WL.r 3 hs2 [] rfl (WL.nil (WC.sr (WL.r 4 hs2 [] rfl (WL.pA tbk 6 Acts.nil hs2 [0] rfl rfl rfl rfl (fun g_ => ⟨rfl, trivial⟩) (WL.nil (WC.cq rfl (fun h3 qh3 => ?_) (fun h3 qh3 => ?_)))))))⟩
 ·have hr : n - 1 < argI l 1 s.H - 1 ∧ argI l 1 s.H - 1 < s.H := by have h9 := h3; simp at h9; omega
  refine WC.sr (WL.r 6 hs2 [] rfl (WL.st tbk hs2 0 rfl rfl (fun _ hs4 => WL.r 2 hs4 [] rfl (WL.st tbk hs4 0 rfl rfl (fun _ hs5 => WL.nil (WC.region (WL.r 1 hs5 [] rfl ?_)))))))
  obtain ⟨L6, L7, L8, L9, hs14, ho10, ho11, ho12, ho13⟩ := ownScrR.op hs5 o_s
  have hs15 := (hs14.fb b_s)
  obtain ⟨L17, hs16, ho18⟩ := ownScrR.fl hs15 ho10 ho11 ho12 ho13
  have hs19 := (hs16.fb b_s)
  have hF20 := ((hs19.fr L17).fb b_s)
  refine WL.cl Try.call118 rfl (k70_ _ ⟨s.W, s.H, ⟨s.Main.W, s.Main.H, SlD.of ho10⟩, ⟨s.Alt.W, s.Alt.H, SlD.of ho11⟩, s.OnAlt, s.X, s.Y, s.Wrap, ⟨s.A.Fg, s.A.Bg, s.A.Bold, s.A.Under, s.A.Turn⟩, (n - (1)), _, s.NoWrap, s.Hide, s.SaveX, s.SaveY, ⟨s.SaveA.Fg, s.SaveA.Bg, s.SaveA.Bold, s.SaveA.Under, s.SaveA.Turn⟩, SlD.of ho12, s.Limit, SlD.ofN ho13⟩ _ _ _ _ (St.headP hF20) (by exact ho18) (St.ownP hF20) (St.nodupP hF20) ?_) ?_
  · first | assumption | rfl | omega
  rintro _ whs21 ⟨r22, L23, rfl, hs21, ho24, hd25⟩
  replace hs21 := St.lendP hF20 hs21
  refine ⟨_, rfl, WL.nil (retK0 rfl (⟨r22, _, rfl, St.keepP (L1 := L23) ((hs21.fr L23).fb b_s), ho24, ?_⟩))⟩
  · unfold regionD; rw [if_pos (show argI l 0 1 - 1 < argI l 1 s.dat.H - 1 ∧ argI l 1 s.dat.H - 1 < s.dat.H from hna ▸ hr), ← hna]; exact hd25
 have hr : ¬ (n - 1 < argI l 1 s.H - 1 ∧ argI l 1 s.H - 1 < s.H) := by rintro ⟨h7, h8⟩; have h9 := h3; simp at h9; have := h9 (by omega); omega
 refine WC.skip (retK0 rfl (⟨s, _, rfl, St.keepP (L1 := L_s) ((hs2.fr L_s).fb b_s), o_s, ?_⟩))
 · unfold regionD; rw [if_neg (show ¬ (argI l 0 1 - 1 < argI l 1 s.dat.H - 1 ∧ argI l 1 s.dat.H - 1 < s.dat.H) from hna ▸ hr)]
theorem k73_ (b_s : Nat) (s : ScrR) (L_s : Hp) (n : Int) (on : Bool) (w : World) (hb_s : w.heap[b_s]? = some (Obj.cells (List.toArray [i64 s.W, i64 s.H, i64 s.Main.W, i64 s.Main.H, .slice s.Main.Cells.A s.Main.Cells.n s.Main.Cells.c, i64 s.Alt.W, i64 s.Alt.H, .slice s.Alt.Cells.A s.Alt.Cells.n s.Alt.Cells.c, .bool s.OnAlt, i64 s.X, i64 s.Y, .bool s.Wrap, i64 s.A.Fg, i64 s.A.Bg, .bool s.A.Bold, .bool s.A.Under, .bool s.A.Turn, i64 s.Top, i64 s.Bot, .bool s.NoWrap, .bool s.Hide, i64 s.SaveX, i64 s.SaveY, i64 s.SaveA.Fg, i64 s.SaveA.Bg, .bool s.SaveA.Bold, .bool s.SaveA.Under, .bool s.SaveA.Turn, .slice s.Tabs.A s.Tabs.n s.Tabs.c, i64 s.Limit, .slice s.Back.A s.Back.n s.Back.c]) 31 (0, 0))) (o_s : ownScrR s L_s) (h_s : Hh w L_s) (hd_ : (b_s :: L_s.map (·.1)).Nodup) (hf : ScrFine s.dat) (hsmB : smScr 549755813888 s.dat) :
    Calls Try.prog 78 #[.pointer (some ⟨b_s, 0, none⟩), i64 n, .bool on] w fun e w' => ∃ r L1, e = .returned (.tuple #[]) ∧ St w (b_s :: L_s.map (·.1)) ([(b_s, Obj.cells (List.toArray [i64 r.W, i64 r.H, i64 r.Main.W, i64 r.Main.H, .slice r.Main.Cells.A r.Main.Cells.n r.Main.Cells.c, i64 r.Alt.W, i64 r.Alt.H, .slice r.Alt.Cells.A r.Alt.Cells.n r.Alt.Cells.c, .bool r.OnAlt, i64 r.X, i64 r.Y, .bool r.Wrap, i64 r.A.Fg, i64 r.A.Bg, .bool r.A.Bold, .bool r.A.Under, .bool r.A.Turn, i64 r.Top, i64 r.Bot, .bool r.NoWrap, .bool r.Hide, i64 r.SaveX, i64 r.SaveY, i64 r.SaveA.Fg, i64 r.SaveA.Bg, .bool r.SaveA.Bold, .bool r.SaveA.Under, .bool r.SaveA.Turn, .slice r.Tabs.A r.Tabs.n r.Tabs.c, i64 r.Limit, .slice r.Back.A r.Back.n r.Back.c]) 31 (0, 0))] ++ L1) w' ∧ ownScrR r L1 ∧ r.dat = modeD s.dat n on := by
 have hwh : (1 ≤ s.W ∧ s.W ≤ 120) ∧ 1 ≤ s.H ∧ s.H ≤ 120 := ⟨(isSize_bnd hf.size).1, (isSize_bnd hf.size).2.1⟩
 have hxy := hf.pos
 simp only [ScrR.dat, GridR.dat] at hxy
 have hsz : isSize s.W s.H = true := hf.size
 refine enter 80 Try.func78 rfl Try.ntmps78 rfl rfl ?_
 have hs1 := St.takeP w b_s _ L_s hb_s h_s hd_
 refine WC.block (WC.r1 hs1 [] rfl (WC.cq rfl (fun h2 qh2 => ?_) (fun h2 qh2 => ?_)))
 ·have e7 : n = 7 := by have h9 := h2; simpa using h9
  refine WC.region (WL.r 9 hs1 [0] rfl (WL.pA tbk 1 Acts.nil hs1 [] rfl rfl rfl rfl (fun g_ => trivial) (WL.r 2 hs1 [] rfl (WL.st tbk hs1 0 rfl rfl (fun _ hs3 => WL.r 2 hs3 [] rfl (WL.st tbk hs3 0 rfl rfl (fun _ hs4 => WL.nil ?_)))))))
  refine ibN (retK0 rfl ?_)
  obtain ⟨L5, L6, L7, L8, hs13, ho9, ho10, ho11, ho12⟩ := ownScrR.op hs4 o_s
  have hs14 := (hs13.fb b_s)
  obtain ⟨L16, hs15, ho17⟩ := ownScrR.fl hs14 ho9 ho10 ho11 ho12
  have hs18 := (hs15.fb b_s)
  refine ownScrR.retp rfl ((hs18.fr L16).fb b_s) ho17 ?_
  · unfold modeD; rw [if_pos e7]; rfl
 have e7 : ¬ n = 7 := by have h9 := h2; simpa using h9
 refine WC.r1 hs1 [] rfl (WC.cq rfl (fun h19 qh19 => ?_) (fun h19 qh19 => ?_))
 ·have e25 : n = 25 := by have h9 := h19; simpa using h9
  refine WC.region (WL.r 5 hs1 [] rfl (WL.st tbk hs1 0 rfl rfl (fun _ hs20 => WL.nil (ibN (retK0 rfl ?_)))))
  obtain ⟨L21, L22, L23, L24, hs29, ho25, ho26, ho27, ho28⟩ := ownScrR.op hs20 o_s
  have hs30 := (hs29.fb b_s)
  obtain ⟨L32, hs31, ho33⟩ := ownScrR.fl hs30 ho25 ho26 ho27 ho28
  have hs34 := (hs31.fb b_s)
  refine ownScrR.retp rfl ((hs34.fr L32).fb b_s) ho33 ?_
  · unfold modeD; rw [if_neg e7, if_pos e25]; rfl
 have e25 : ¬ n = 25 := by have h9 := h19; simpa using h9
 refine WC.sr (WL.r 3 hs1 [] rfl (WL.pA tbk 1 Acts.nil hs1 [] rfl rfl rfl rfl (fun g_ => trivial) (WL.r 1 hs1 [] rfl (WL.pA tbk 5 Acts.nil hs1 [0] rfl rfl rfl rfl (fun g_ => ⟨rfl, trivial⟩) (WL.r 1 hs1 [] rfl (WL.nil (WC.cq rfl (fun h35 qh35 => ?_) (fun h35 qh35 => ?_))))))))
 ·have a1 : (n = 1049 ∧ on = true) ∧ s.dat.OnAlt = false := by show (n = 1049 ∧ on = true) ∧ s.OnAlt = false; have h9 := h35; simp at h9; first | exact h9 | exact ⟨⟨h9.1.1, h9.1.2⟩, h9.2⟩ | exact ⟨⟨h9.1, h9.2.1⟩, h9.2.2⟩
  refine WC.sr (WL.r 1 hs1 [] rfl ?_)
  have hF36 := ((hs1.fr L_s).fb b_s)
  refine WL.cl Try.call113 rfl (k60_ _ s _ _ (St.headP hF36) o_s (St.ownP hF36) (St.nodupP hF36) ?_) ?_
  · first | assumption | rfl | omega
  rintro _ whs37 ⟨r38, L39, rfl, hs37, ho40, hd41⟩
  replace hs37 := St.lendP hF36 hs37
  refine ⟨_, rfl, ?_⟩
  have hrW : r38.W = s.W := congrArg ScrD.W hd41
  have hrH : r38.H = s.H := congrArg ScrD.H hd41
  have hszr : isSize r38.W r38.H = true := by rw [hrW, hrH]; exact hsz
  refine WL.nil (WC.rG 13 hs37.d1 hs37 hs37 (fun _ hs42 => ?_))
  refine WG.rn [0, 1, 2, 3, 4, 5, 6, 7, 8, 9] hs42 [0, 0] rfl rfl (WG.o1 10 rfl rfl (WL.cl Try.call64 rfl (k18_ _ _ _ ?_) ?_))
  · first | assumption | rfl | omega
  rintro _ whs43 ⟨r44, L1_45, rfl, hs43, ho46, hd47⟩
  replace hs43 := hs42.callF hs43
  refine ⟨_, rfl, ?_⟩
  replace hs43 := St.back [_] hs43
  refine WL.nil ⟨(hs43.rm L1_45), WG.rn [11, 12] (hs43.rm L1_45) [] rfl rfl (WG.oK rfl (WL.st tbk hs43 0 rfl rfl (fun _ hs48 => WL.nil ⟨(hs48.d1.rm L1_45), WH.rn [14, 15] (hs48.d1.rm L1_45) [] rfl rfl (WH.o1 16 rfl (WL.st tbk hs48 0 rfl rfl (fun _ hs49 => ?_)))⟩)))⟩
  refine WL.nil ⟨(hs49.d1.rm L1_45), WH.dn (ibN (retK0 rfl ?_))⟩
  obtain ⟨L50, L51, L52, L53, hs58, ho54, ho55, ho56, ho57⟩ := ownScrR.op hs49 ho40
  have hs59 := (hs58.fb b_s)
  obtain ⟨L61, hs60, ho62⟩ := ownScrR.fl hs59 ho54 ho46 ho56 ho57
  have hs63 := (hs60.fb b_s)
  refine ownScrR.retp rfl ((hs63.fr L61).fb b_s) ho62 ?_
  · unfold modeD; rw [if_neg e7, if_neg e25, if_pos a1]; show _ = ({ saveD s.dat with Alt := gridNew s.W s.H, OnAlt := true } : ScrD); rw [← hrW, ← hrH, ← hd47, ← hd41]; rfl
 have a1 : ¬ ((n = 1049 ∧ on = true) ∧ s.dat.OnAlt = false) := by show ¬ ((n = 1049 ∧ on = true) ∧ s.OnAlt = false); rintro ⟨⟨h1, h2⟩, h3⟩; have h9 := h35; simp [h1, h2, h3] at h9
 refine WC.sr (WL.r 3 hs1 [] rfl (WL.pA tbk 2 Acts.nil hs1 [] rfl rfl rfl rfl (fun g_ => trivial) (WL.r 1 hs1 [] rfl (WL.pA tbk 4 Acts.nil hs1 [0] rfl rfl rfl rfl (fun g_ => ⟨rfl, trivial⟩) (WL.r 1 hs1 [] rfl (WL.nil (WC.cq rfl (fun h64 qh64 => ?_) (fun h64 qh64 => ?_))))))))
 ·have a2 : (n = 1049 ∧ on = false) ∧ s.dat.OnAlt = true := by show (n = 1049 ∧ on = false) ∧ s.OnAlt = true; have h9 := h64; simp at h9; first | exact h9 | exact ⟨⟨h9.1.1, h9.1.2⟩, h9.2⟩ | exact ⟨⟨h9.1, h9.2.1⟩, h9.2.2⟩
  refine WC.sr (WL.r 3 hs1 [] rfl (WL.st tbk hs1 0 rfl rfl (fun _ hs65 => WL.nil (WC.region (WL.r 1 hs65 [] rfl ?_)))))
  obtain ⟨L66, L67, L68, L69, hs74, ho70, ho71, ho72, ho73⟩ := ownScrR.op hs65 o_s
  have hs75 := (hs74.fb b_s)
  obtain ⟨L77, hs76, ho78⟩ := ownScrR.fl hs75 ho70 ho71 ho72 ho73
  have hs79 := (hs76.fb b_s)
  have hF80 := ((hs79.fr L77).fb b_s)
  refine WL.cl Try.call114 rfl (k61_ _ ⟨s.W, s.H, ⟨s.Main.W, s.Main.H, SlD.of ho70⟩, ⟨s.Alt.W, s.Alt.H, SlD.of ho71⟩, false, s.X, s.Y, s.Wrap, ⟨s.A.Fg, s.A.Bg, s.A.Bold, s.A.Under, s.A.Turn⟩, s.Top, s.Bot, s.NoWrap, s.Hide, s.SaveX, s.SaveY, ⟨s.SaveA.Fg, s.SaveA.Bg, s.SaveA.Bold, s.SaveA.Under, s.SaveA.Turn⟩, SlD.of ho72, s.Limit, SlD.ofN ho73⟩ _ _ (St.headP hF80) (by exact ho78) (St.ownP hF80) (St.nodupP hF80) ?_) ?_
  · first | assumption | rfl | omega
  rintro _ whs81 ⟨r82, L83, rfl, hs81, ho84, hd85⟩
  replace hs81 := St.lendP hF80 hs81
  refine ⟨_, rfl, WL.nil (ibN (retK0 rfl (⟨r82, _, rfl, St.keepP (L1 := L83) ((hs81.fr L83).fb b_s), ho84, ?_⟩)))⟩
  · unfold modeD; rw [if_neg e7, if_neg e25, if_neg a1, if_pos a2]; exact hd85
 have a2 : ¬ ((n = 1049 ∧ on = false) ∧ s.dat.OnAlt = true) := by show ¬ ((n = 1049 ∧ on = false) ∧ s.OnAlt = true); rintro ⟨⟨h1, h2⟩, h3⟩; have h9 := h64; simp [h1, h2, h3] at h9
 refine WC.skip (ibN (retK0 rfl (⟨s, _, rfl, St.keepP (L1 := L_s) ((hs1.fr L_s).fb b_s), o_s, ?_⟩)))
 · unfold modeD; rw [if_neg e7, if_neg e25, if_neg a1, if_neg a2]
theorem k74_ (b_p b_s : Nat) (s : ScrR) (m : Int) (w : World) (hp : w.heap[b_p]? = some (Obj.cells (List.toArray [.pointer (some ⟨b_s, 0, none⟩)]) 65 (0, 0))) (hq : w.heap[b_s]? = some (Obj.cells (List.toArray [i64 s.W, i64 s.H, i64 s.Main.W, i64 s.Main.H, .slice s.Main.Cells.A s.Main.Cells.n s.Main.Cells.c, i64 s.Alt.W, i64 s.Alt.H, .slice s.Alt.Cells.A s.Alt.Cells.n s.Alt.Cells.c, .bool s.OnAlt, i64 s.X, i64 s.Y, .bool s.Wrap, i64 s.A.Fg, i64 s.A.Bg, .bool s.A.Bold, .bool s.A.Under, .bool s.A.Turn, i64 s.Top, i64 s.Bot, .bool s.NoWrap, .bool s.Hide, i64 s.SaveX, i64 s.SaveY, i64 s.SaveA.Fg, i64 s.SaveA.Bg, .bool s.SaveA.Bold, .bool s.SaveA.Under, .bool s.SaveA.Turn, .slice s.Tabs.A s.Tabs.n s.Tabs.c, i64 s.Limit, .slice s.Back.A s.Back.n s.Back.c]) 31 (0, 0))) (hne : b_p ≠ b_s) :
    Calls Try.prog 112 #[i64 m, .pointer (some ⟨b_p, 0, none⟩)] w fun e w' => e = .returned (.bool (decide (m = s.X))) ∧ St w [] [] w' := by
 refine enter 10 Try.func112 rfl Try.ntmps112 rfl rfl ?_
 have hs1 := St.take w [(b_p, Obj.cells (List.toArray [.pointer (some ⟨b_s, 0, none⟩)]) 65 (0, 0)), (b_s, Obj.cells (List.toArray [i64 s.W, i64 s.H, i64 s.Main.W, i64 s.Main.H, .slice s.Main.Cells.A s.Main.Cells.n s.Main.Cells.c, i64 s.Alt.W, i64 s.Alt.H, .slice s.Alt.Cells.A s.Alt.Cells.n s.Alt.Cells.c, .bool s.OnAlt, i64 s.X, i64 s.Y, .bool s.Wrap, i64 s.A.Fg, i64 s.A.Bg, .bool s.A.Bold, .bool s.A.Under, .bool s.A.Turn, i64 s.Top, i64 s.Bot, .bool s.NoWrap, .bool s.Hide, i64 s.SaveX, i64 s.SaveY, i64 s.SaveA.Fg, i64 s.SaveA.Bg, .bool s.SaveA.Bold, .bool s.SaveA.Under, .bool s.SaveA.Turn, .slice s.Tabs.A s.Tabs.n s.Tabs.c, i64 s.Limit, .slice s.Back.A s.Back.n s.Back.c]) 31 (0, 0))] (fun p hp_ => by rcases List.mem_cons.1 hp_ with rfl | hp_; exact hp; obtain rfl := List.mem_singleton.1 hp_; exact hq) (by simp [hne])
 refine WC.r1 hs1 [] rfl (WC.r1 hs1 [0, 1] rfl (WC.ret (retV1 rfl (resV.tmp rfl) (⟨rfl, St.untouch hs1 (fun k hk => ?_) (fun p hp_ => ?_)⟩))))
 · rcases List.mem_cons.1 hk with rfl | hk
   · exact ⟨_, List.mem_cons_self⟩
   · obtain rfl := List.mem_singleton.1 hk
     exact ⟨_, List.mem_cons_of_mem _ List.mem_cons_self⟩
 · rcases List.mem_cons.1 hp_ with rfl | hp_
   · exact hp
   · obtain rfl := List.mem_singleton.1 hp_
     exact hq
theorem k75_ (b_s : Nat) (s : ScrR) (L_s : Hp) (a : Int) (b : Int) (w : World) (hb_s : w.heap[b_s]? = some (Obj.cells (List.toArray [i64 s.W, i64 s.H, i64 s.Main.W, i64 s.Main.H, .slice s.Main.Cells.A s.Main.Cells.n s.Main.Cells.c, i64 s.Alt.W, i64 s.Alt.H, .slice s.Alt.Cells.A s.Alt.Cells.n s.Alt.Cells.c, .bool s.OnAlt, i64 s.X, i64 s.Y, .bool s.Wrap, i64 s.A.Fg, i64 s.A.Bg, .bool s.A.Bold, .bool s.A.Under, .bool s.A.Turn, i64 s.Top, i64 s.Bot, .bool s.NoWrap, .bool s.Hide, i64 s.SaveX, i64 s.SaveY, i64 s.SaveA.Fg, i64 s.SaveA.Bg, .bool s.SaveA.Bold, .bool s.SaveA.Under, .bool s.SaveA.Turn, .slice s.Tabs.A s.Tabs.n s.Tabs.c, i64 s.Limit, .slice s.Back.A s.Back.n s.Back.c]) 31 (0, 0))) (o_s : ownScrR s L_s) (h_s : Hh w L_s) (hd_ : (b_s :: L_s.map (·.1)).Nodup) (hab : 0 ≤ a ∧ b ≤ s.Main.Cells.xs.length ∧ b ≤ 1048576 ∧ -1048576 ≤ b ∧ a ≤ 1048576) (hsmB : smScr 549755813888 s.dat) (hx : s.OnAlt = false) :
    Calls Try.prog 106 #[.pointer (some ⟨b_s, 0, none⟩), i64 a, i64 b] w fun e w' => ∃ r L1, e = .returned (.tuple #[]) ∧ St w (b_s :: L_s.map (·.1)) ([(b_s, Obj.cells (List.toArray [i64 r.W, i64 r.H, i64 r.Main.W, i64 r.Main.H, .slice r.Main.Cells.A r.Main.Cells.n r.Main.Cells.c, i64 r.Alt.W, i64 r.Alt.H, .slice r.Alt.Cells.A r.Alt.Cells.n r.Alt.Cells.c, .bool r.OnAlt, i64 r.X, i64 r.Y, .bool r.Wrap, i64 r.A.Fg, i64 r.A.Bg, .bool r.A.Bold, .bool r.A.Under, .bool r.A.Turn, i64 r.Top, i64 r.Bot, .bool r.NoWrap, .bool r.Hide, i64 r.SaveX, i64 r.SaveY, i64 r.SaveA.Fg, i64 r.SaveA.Bg, .bool r.SaveA.Bold, .bool r.SaveA.Under, .bool r.SaveA.Turn, .slice r.Tabs.A r.Tabs.n r.Tabs.c, i64 r.Limit, .slice r.Back.A r.Back.n r.Back.c]) 31 (0, 0))] ++ L1) w' ∧ ownScrR r L1 ∧ r.dat = clearD s.dat a b := by
 refine enter 23 Try.func106 rfl Try.ntmps106 rfl rfl ?_
 have hs1 := St.takeP w b_s _ L_s hb_s h_s hd_
 refine WC.sr (WL.r 1 hs1 [] rfl ?_)
 have hF2 := ((hs1.fr L_s).fb b_s)
 refine WL.cl Try.call37 rfl (k43_ _ s _ _ (St.headP hF2) o_s (St.ownP hF2) (St.nodupP hF2) ?_) ?_
 · first | assumption | rfl | omega
 rintro _ whs3 ⟨r4, L5, rfl, hs3, ho6, hd7⟩
 replace hs3 := St.lendP hF2 hs3
 refine ⟨_, rfl, ?_⟩
 have hrl : r4.Main.Cells.xs.length = s.Main.Cells.xs.length := congrArg (fun d : ScrD => d.Main.Cells.length) hd7
 have hln := ownScrR.len ‹ownScrR r4 _›
 refine WL.r 4 hs3 [0] rfl (WL.nil (WC.r1 hs3 [] rfl (WC.block ?_)))
 obtain ⟨L8, L9, L10, L11, hs16, ho12, ho13, ho14, ho15⟩ := ownScrR.op hs3 ho6
 have hs17 := (hs16.fb b_s)
 refine WC.lO [2, 6] rfl (hs17.fr L8) (fun k_ f L_ => ∃ (i : Nat) (zs : List CellD), k_ = (b - a).toNat - i ∧ (i ≤ (b - a).toNat) ∧ (zs.length = r4.Main.Cells.xs.length) ∧ (∀ k, k < r4.Main.Cells.xs.length → cat zs k = partF r4.Main.dat (clearF r4.Main.dat a b) a.toNat i k) ∧ OwnF encCell 58 (.slice r4.Main.Cells.A (r4.Main.Cells.n) r4.Main.Cells.c) (zs) L_ ∧ Sub [(7, .int .i64 (a + i))] f) (((fun (i : Nat) (zs : List CellD) => (b - a).toNat - i) (0) (r4.Main.Cells.xs))) ?_ ?_
 ·refine ⟨0, r4.Main.Cells.xs, rfl, ?_, ?_, ?_, ho12, ⟨?_, trivial⟩⟩
  · omega
  · rfl
  · intro k hk; rw [partF_zero]; rfl
  · (refine congrArg some (congrArg (Value.int _) ?_); omega)
 clear hs17
 rintro _ f w L20 ⟨i, zs, rfl, p0, p1, p2, ho21, hG⟩ hF hs22
 refine WC.sub _ (hG.app hF) ?_
 clear hG hF
 replace hs22 := St.back [_] hs22
 refine WC.seq (fun K23 hK23 => WC.r1 hs22 [] rfl ?_)
 refine WC.cD rfl (fun qh24 => ?_) (fun qh24 => ?_)
 ·refine WC.skip (hK23 _ _ (WC.seq (fun K25 hK25 => WC.block (WC.region (WL.r 2 hs22 [] rfl (WL.cl Try.call96 rfl (k13_ _) ?_))))))
  rintro _ whs26 ⟨rfl, hs26⟩
  replace hs26 := hs22.call0 hs26
  refine ⟨_, rfl, WL.val rfl rfl rfl (Run.idx Try.runUnderlying23 Try.sizeOf58 rfl rfl rfl ?_ ?_ ?_) ?_⟩
  · exact SlF.some_ (SlF.ofOwn ho21 (hs26.ow L20))
  · first | omega | (obtain ⟨h1, h2, _, _⟩ := hln; omega)
  · first | omega | (obtain ⟨h1, h2, _, _⟩ := hln; omega)
  refine WL.storeF1 (x' := blankC) (hs26.fr L20) ho21 Try.sizeOf58 rfl rfl rfl rfl rfl rfl rfl rfl rfl ?_ rfl (fun L27 whs28 hs28 ho29 _ => ?_)
  · first | omega | (obtain ⟨h1, h2, _, _⟩ := hln; omega)
  replace hs28 := St.back [_] hs28
  refine WL.nil (hK25 _ _ (WC.region (WL.r 3 hs28 [] rfl (WL.nil (tkN ?_)))))
  refine ⟨sbF rfl, _, (hs28.fr L27), _, ?_, i + 1, _, rfl, ?_, ?_, ?_, ho29, ⟨?_, trivial⟩⟩
  · omega
  · omega
  · rw [List.length_set]; exact p1
  · intro k hk; exact part_next (g := r4.Main.dat) (by omega) (by rw [p1]; omega) (clearF_in ⟨by omega, by omega⟩).symm (p2 k hk)
  · (refine congrArg some (congrArg (Value.int _) ?_); omega)
 refine WC.exit (tkE (tkE (ibE (retK0 rfl ?_))))
 obtain ⟨L31, hs30, ho32⟩ := ownScrR.fl hs22 ho21 ho13 ho14 ho15
 have hs33 := (hs30.fb b_s)
 refine ownScrR.retp rfl ((hs33.fr L31).fb b_s) ho32 ?_
 · rw [← hd7]; show _ = clearD r4.dat a b; rw [show clearD r4.dat a b = { r4.dat with Main := gmap r4.Main.dat (clearF r4.Main.dat a b) } from by unfold clearD putD shownD; rw [if_neg (show ¬ r4.dat.OnAlt = true from by have h8 : r4.OnAlt = s.OnAlt := congrArg ScrD.OnAlt hd7; show ¬ r4.OnAlt = true; rw [h8, hx]; decide), if_neg (show ¬ r4.dat.OnAlt = true from by have h8 : r4.OnAlt = s.OnAlt := congrArg ScrD.OnAlt hd7; show ¬ r4.OnAlt = true; rw [h8, hx]; decide)]; rfl]; exact ScrD.ext' rfl rfl (part_done (g := r4.Main.dat) (lo := a.toNat) (a := i) rfl rfl p1 (fun k hk h9 => clearF_out (by omega)) p2) rfl rfl rfl rfl rfl rfl rfl rfl rfl rfl rfl rfl rfl rfl rfl rfl
theorem k76_ (b_s : Nat) (s : ScrR) (L_s : Hp) (a : Int) (b : Int) (w : World) (hb_s : w.heap[b_s]? = some (Obj.cells (List.toArray [i64 s.W, i64 s.H, i64 s.Main.W, i64 s.Main.H, .slice s.Main.Cells.A s.Main.Cells.n s.Main.Cells.c, i64 s.Alt.W, i64 s.Alt.H, .slice s.Alt.Cells.A s.Alt.Cells.n s.Alt.Cells.c, .bool s.OnAlt, i64 s.X, i64 s.Y, .bool s.Wrap, i64 s.A.Fg, i64 s.A.Bg, .bool s.A.Bold, .bool s.A.Under, .bool s.A.Turn, i64 s.Top, i64 s.Bot, .bool s.NoWrap, .bool s.Hide, i64 s.SaveX, i64 s.SaveY, i64 s.SaveA.Fg, i64 s.SaveA.Bg, .bool s.SaveA.Bold, .bool s.SaveA.Under, .bool s.SaveA.Turn, .slice s.Tabs.A s.Tabs.n s.Tabs.c, i64 s.Limit, .slice s.Back.A s.Back.n s.Back.c]) 31 (0, 0))) (o_s : ownScrR s L_s) (h_s : Hh w L_s) (hd_ : (b_s :: L_s.map (·.1)).Nodup) (hab : 0 ≤ a ∧ b ≤ s.Alt.Cells.xs.length ∧ b ≤ 1048576 ∧ -1048576 ≤ b ∧ a ≤ 1048576) (hsmB : smScr 549755813888 s.dat) (hx : s.OnAlt = true) :
    Calls Try.prog 106 #[.pointer (some ⟨b_s, 0, none⟩), i64 a, i64 b] w fun e w' => ∃ r L1, e = .returned (.tuple #[]) ∧ St w (b_s :: L_s.map (·.1)) ([(b_s, Obj.cells (List.toArray [i64 r.W, i64 r.H, i64 r.Main.W, i64 r.Main.H, .slice r.Main.Cells.A r.Main.Cells.n r.Main.Cells.c, i64 r.Alt.W, i64 r.Alt.H, .slice r.Alt.Cells.A r.Alt.Cells.n r.Alt.Cells.c, .bool r.OnAlt, i64 r.X, i64 r.Y, .bool r.Wrap, i64 r.A.Fg, i64 r.A.Bg, .bool r.A.Bold, .bool r.A.Under, .bool r.A.Turn, i64 r.Top, i64 r.Bot, .bool r.NoWrap, .bool r.Hide, i64 r.SaveX, i64 r.SaveY, i64 r.SaveA.Fg, i64 r.SaveA.Bg, .bool r.SaveA.Bold, .bool r.SaveA.Under, .bool r.SaveA.Turn, .slice r.Tabs.A r.Tabs.n r.Tabs.c, i64 r.Limit, .slice r.Back.A r.Back.n r.Back.c]) 31 (0, 0))] ++ L1) w' ∧ ownScrR r L1 ∧ r.dat = clearD s.dat a b := by
 refine enter 23 Try.func106 rfl Try.ntmps106 rfl rfl ?_
 have hs1 := St.takeP w b_s _ L_s hb_s h_s hd_
 refine WC.sr (WL.r 1 hs1 [] rfl ?_)
 have hF2 := ((hs1.fr L_s).fb b_s)
 refine WL.cl Try.call37 rfl (k44_ _ s _ _ (St.headP hF2) o_s (St.ownP hF2) (St.nodupP hF2) ?_) ?_
 · first | assumption | rfl | omega
 rintro _ whs3 ⟨r4, L5, rfl, hs3, ho6, hd7⟩
 replace hs3 := St.lendP hF2 hs3
 refine ⟨_, rfl, ?_⟩
 have hrl : r4.Alt.Cells.xs.length = s.Alt.Cells.xs.length := congrArg (fun d : ScrD => d.Alt.Cells.length) hd7
 have hln := ownScrR.len ‹ownScrR r4 _›
 refine WL.r 4 hs3 [0] rfl (WL.nil (WC.r1 hs3 [] rfl (WC.block ?_)))
 obtain ⟨L8, L9, L10, L11, hs16, ho12, ho13, ho14, ho15⟩ := ownScrR.op hs3 ho6
 have hs17 := (hs16.fb b_s)
 refine WC.lO [2, 6] rfl (hs17.fr L9) (fun k_ f L_ => ∃ (i : Nat) (zs : List CellD), k_ = (b - a).toNat - i ∧ (i ≤ (b - a).toNat) ∧ (zs.length = r4.Alt.Cells.xs.length) ∧ (∀ k, k < r4.Alt.Cells.xs.length → cat zs k = partF r4.Alt.dat (clearF r4.Alt.dat a b) a.toNat i k) ∧ OwnF encCell 58 (.slice r4.Alt.Cells.A (r4.Alt.Cells.n) r4.Alt.Cells.c) (zs) L_ ∧ Sub [(7, .int .i64 (a + i))] f) (((fun (i : Nat) (zs : List CellD) => (b - a).toNat - i) (0) (r4.Alt.Cells.xs))) ?_ ?_
 ·refine ⟨0, r4.Alt.Cells.xs, rfl, ?_, ?_, ?_, ho13, ⟨?_, trivial⟩⟩
  · omega
  · rfl
  · intro k hk; rw [partF_zero]; rfl
  · (refine congrArg some (congrArg (Value.int _) ?_); omega)
 clear hs17
 rintro _ f w L20 ⟨i, zs, rfl, p0, p1, p2, ho21, hG⟩ hF hs22
 refine WC.sub _ (hG.app hF) ?_
 clear hG hF
 replace hs22 := St.back [_] hs22
 refine WC.seq (fun K23 hK23 => WC.r1 hs22 [] rfl ?_)
 refine WC.cD rfl (fun qh24 => ?_) (fun qh24 => ?_)
 ·refine WC.skip (hK23 _ _ (WC.seq (fun K25 hK25 => WC.block (WC.region (WL.r 2 hs22 [] rfl (WL.cl Try.call96 rfl (k13_ _) ?_))))))
  rintro _ whs26 ⟨rfl, hs26⟩
  replace hs26 := hs22.call0 hs26
  refine ⟨_, rfl, WL.val rfl rfl rfl (Run.idx Try.runUnderlying23 Try.sizeOf58 rfl rfl rfl ?_ ?_ ?_) ?_⟩
  · exact SlF.some_ (SlF.ofOwn ho21 (hs26.ow L20))
  · first | omega | (obtain ⟨h1, h2, _, _⟩ := hln; omega)
  · first | omega | (obtain ⟨h1, h2, _, _⟩ := hln; omega)
  refine WL.storeF1 (x' := blankC) (hs26.fr L20) ho21 Try.sizeOf58 rfl rfl rfl rfl rfl rfl rfl rfl rfl ?_ rfl (fun L27 whs28 hs28 ho29 _ => ?_)
  · first | omega | (obtain ⟨h1, h2, _, _⟩ := hln; omega)
  replace hs28 := St.back [_] hs28
  refine WL.nil (hK25 _ _ (WC.region (WL.r 3 hs28 [] rfl (WL.nil (tkN ?_)))))
  refine ⟨sbF rfl, _, (hs28.fr L27), _, ?_, i + 1, _, rfl, ?_, ?_, ?_, ho29, ⟨?_, trivial⟩⟩
  · omega
  · omega
  · rw [List.length_set]; exact p1
  · intro k hk; exact part_next (g := r4.Alt.dat) (by omega) (by rw [p1]; omega) (clearF_in ⟨by omega, by omega⟩).symm (p2 k hk)
  · (refine congrArg some (congrArg (Value.int _) ?_); omega)
 refine WC.exit (tkE (tkE (ibE (retK0 rfl ?_))))
 obtain ⟨L31, hs30, ho32⟩ := ownScrR.fl hs22 ho12 ho21 ho14 ho15
 have hs33 := (hs30.fb b_s)
 refine ownScrR.retp rfl ((hs33.fr L31).fb b_s) ho32 ?_
 · rw [← hd7]; show _ = clearD r4.dat a b; rw [show clearD r4.dat a b = { r4.dat with Alt := gmap r4.Alt.dat (clearF r4.Alt.dat a b) } from by unfold clearD putD shownD; rw [if_pos (show  r4.dat.OnAlt = true from by have h8 : r4.OnAlt = s.OnAlt := congrArg ScrD.OnAlt hd7; show  r4.OnAlt = true; rw [h8, hx]), if_pos (show  r4.dat.OnAlt = true from by have h8 : r4.OnAlt = s.OnAlt := congrArg ScrD.OnAlt hd7; show  r4.OnAlt = true; rw [h8, hx])]; rfl]; exact ScrD.ext' rfl rfl rfl (part_done (g := r4.Alt.dat) (lo := a.toNat) (a := i) rfl rfl p1 (fun k hk h9 => clearF_out (by omega)) p2) rfl rfl rfl rfl rfl rfl rfl rfl rfl rfl rfl rfl rfl rfl rfl
theorem k77_ (b_s : Nat) (s : ScrR) (L_s : Hp) (a : Int) (b : Int) (w : World) (hb_s : w.heap[b_s]? = some (Obj.cells (List.toArray [i64 s.W, i64 s.H, i64 s.Main.W, i64 s.Main.H, .slice s.Main.Cells.A s.Main.Cells.n s.Main.Cells.c, i64 s.Alt.W, i64 s.Alt.H, .slice s.Alt.Cells.A s.Alt.Cells.n s.Alt.Cells.c, .bool s.OnAlt, i64 s.X, i64 s.Y, .bool s.Wrap, i64 s.A.Fg, i64 s.A.Bg, .bool s.A.Bold, .bool s.A.Under, .bool s.A.Turn, i64 s.Top, i64 s.Bot, .bool s.NoWrap, .bool s.Hide, i64 s.SaveX, i64 s.SaveY, i64 s.SaveA.Fg, i64 s.SaveA.Bg, .bool s.SaveA.Bold, .bool s.SaveA.Under, .bool s.SaveA.Turn, .slice s.Tabs.A s.Tabs.n s.Tabs.c, i64 s.Limit, .slice s.Back.A s.Back.n s.Back.c]) 31 (0, 0))) (o_s : ownScrR s L_s) (h_s : Hh w L_s) (hd_ : (b_s :: L_s.map (·.1)).Nodup) (hab : 0 ≤ a ∧ a ≤ 1048576 ∧ b ≤ s.W * s.H ∧ -1048576 ≤ b) (hf : ScrFine s.dat) (hsmB : smScr 549755813888 s.dat) :
    Calls Try.prog 106 #[.pointer (some ⟨b_s, 0, none⟩), i64 a, i64 b] w fun e w' => ∃ r L1, e = .returned (.tuple #[]) ∧ St w (b_s :: L_s.map (·.1)) ([(b_s, Obj.cells (List.toArray [i64 r.W, i64 r.H, i64 r.Main.W, i64 r.Main.H, .slice r.Main.Cells.A r.Main.Cells.n r.Main.Cells.c, i64 r.Alt.W, i64 r.Alt.H, .slice r.Alt.Cells.A r.Alt.Cells.n r.Alt.Cells.c, .bool r.OnAlt, i64 r.X, i64 r.Y, .bool r.Wrap, i64 r.A.Fg, i64 r.A.Bg, .bool r.A.Bold, .bool r.A.Under, .bool r.A.Turn, i64 r.Top, i64 r.Bot, .bool r.NoWrap, .bool r.Hide, i64 r.SaveX, i64 r.SaveY, i64 r.SaveA.Fg, i64 r.SaveA.Bg, .bool r.SaveA.Bold, .bool r.SaveA.Under, .bool r.SaveA.Turn, .slice r.Tabs.A r.Tabs.n r.Tabs.c, i64 r.Limit, .slice r.Back.A r.Back.n r.Back.c]) 31 (0, 0))] ++ L1) w' ∧ ownScrR r L1 ∧ r.dat = clearD s.dat a b := by
 have hz := isSize_bnd hf.size
 simp only [ScrR.dat] at hz
 have hgm := grid_len hf.gM
 have hga := grid_len hf.gA
 obtain ⟨d1, d2, d3, d4⟩ := hf.dim
 simp only [ScrR.dat, GridR.dat] at hgm hga d1 d2 d3 d4
 rw [d1, d2] at hgm
 rw [d3, d4] at hga
 rcases Bool.eq_false_or_eq_true s.OnAlt with hx_ | hx_
 · exact k76_ b_s s L_s a b w hb_s o_s h_s hd_ ⟨hab.1, by omega, by omega, by omega, by omega⟩ hsmB hx_
 · exact k75_ b_s s L_s a b w hb_s o_s h_s hd_ ⟨hab.1, by omega, by omega, by omega, by omega⟩ hsmB hx_
theorem k78_ (b_s : Nat) (s : ScrR) (L_s : Hp) (k : Int) (row : Bool) (w : World) (hb_s : w.heap[b_s]? = some (Obj.cells (List.toArray [i64 s.W, i64 s.H, i64 s.Main.W, i64 s.Main.H, .slice s.Main.Cells.A s.Main.Cells.n s.Main.Cells.c, i64 s.Alt.W, i64 s.Alt.H, .slice s.Alt.Cells.A s.Alt.Cells.n s.Alt.Cells.c, .bool s.OnAlt, i64 s.X, i64 s.Y, .bool s.Wrap, i64 s.A.Fg, i64 s.A.Bg, .bool s.A.Bold, .bool s.A.Under, .bool s.A.Turn, i64 s.Top, i64 s.Bot, .bool s.NoWrap, .bool s.Hide, i64 s.SaveX, i64 s.SaveY, i64 s.SaveA.Fg, i64 s.SaveA.Bg, .bool s.SaveA.Bold, .bool s.SaveA.Under, .bool s.SaveA.Turn, .slice s.Tabs.A s.Tabs.n s.Tabs.c, i64 s.Limit, .slice s.Back.A s.Back.n s.Back.c]) 31 (0, 0))) (o_s : ownScrR s L_s) (h_s : Hh w L_s) (hd_ : (b_s :: L_s.map (·.1)).Nodup) (hf : ScrFine s.dat) (hsmB : smScr 549755813888 s.dat) :
    Calls Try.prog 105 #[.pointer (some ⟨b_s, 0, none⟩), i64 k, .bool row] w fun e w' => ∃ r L1, e = .returned (.tuple #[]) ∧ St w (b_s :: L_s.map (·.1)) ([(b_s, Obj.cells (List.toArray [i64 r.W, i64 r.H, i64 r.Main.W, i64 r.Main.H, .slice r.Main.Cells.A r.Main.Cells.n r.Main.Cells.c, i64 r.Alt.W, i64 r.Alt.H, .slice r.Alt.Cells.A r.Alt.Cells.n r.Alt.Cells.c, .bool r.OnAlt, i64 r.X, i64 r.Y, .bool r.Wrap, i64 r.A.Fg, i64 r.A.Bg, .bool r.A.Bold, .bool r.A.Under, .bool r.A.Turn, i64 r.Top, i64 r.Bot, .bool r.NoWrap, .bool r.Hide, i64 r.SaveX, i64 r.SaveY, i64 r.SaveA.Fg, i64 r.SaveA.Bg, .bool r.SaveA.Bold, .bool r.SaveA.Under, .bool r.SaveA.Turn, .slice r.Tabs.A r.Tabs.n r.Tabs.c, i64 r.Limit, .slice r.Back.A r.Back.n r.Back.c]) 31 (0, 0))] ++ L1) w' ∧ ownScrR r L1 ∧ r.dat = eraseD s.dat (if row = true then s.Y * s.W else 0) (if row = true then (s.Y + 1) * s.W else s.W * s.H) k := by
 have hwh : (1 ≤ s.W ∧ s.W ≤ 120) ∧ 1 ≤ s.H ∧ s.H ≤ 120 := ⟨(isSize_bnd hf.size).1, (isSize_bnd hf.size).2.1⟩
 have hxy := hf.pos
 simp only [ScrR.dat, GridR.dat] at hxy
 have hz := isSize_bnd hf.size
 simp only [ScrR.dat] at hz
 have hv0 : 0 ≤ s.Y * s.W := Int.mul_nonneg (by omega) (by omega)
 have hv1 : (s.Y + 1) * s.W = s.Y * s.W + s.W := by rw [Int.add_mul, Int.one_mul]
 have hv2 : (s.Y + 1) * s.W ≤ s.H * s.W := Int.mul_le_mul_of_nonneg_right (by omega) (by omega)
 rw [Int.mul_comm s.H s.W] at hv2
 refine enter 72 Try.func105 rfl Try.ntmps105 rfl rfl ?_
 have hs1 := St.takeP w b_s _ L_s hb_s h_s hd_
 refine WC.q1 hs1 [0, 0, 0, 0, 0] rfl (fun _ hs2 => WC.seq (fun K3 hK3 => WC.r1 hs2 [] rfl ?_))
 refine WC.cq rfl (fun h4 qh4 => ?_) (fun h4 qh4 => ?_)
 ·have hrow : row = true := by have h9 := h4; simpa using h9
  refine WC.regionQ (fun w' => St _ _ _ w') mixed (by kernel_rfl) hs2.drew (WQ.r 21 [0, 0, 0, 0] rfl (WQ.nil (fun _ (hs5 : St _ _ _ _) => hK3 _ _ (WC.r1 hs5 [] rfl (WC.block (WC.r1 hs5 [] rfl ?_))))))
  refine WC.cq rfl (fun h6 qh6 => ?_) (fun h6 qh6 => ?_)
  ·have e0 : k = 0 := by have h9 := h6; simpa using h9
   refine WC.region (WL.r 3 hs5 [] rfl ?_)
   have hF7 := ((hs5.fr L_s).fb b_s)
   refine WL.cl Try.call106 rfl (k77_ _ s _ _ _ _ (St.headP hF7) o_s (St.ownP hF7) (St.nodupP hF7) ?_ ?_ ?_) ?_
   iterate 3 first | assumption | rfl | omega | (refine ⟨?_, ?_, ?_, ?_⟩ <;> omega)
   rintro _ whs8 ⟨r9, L10, rfl, hs8, ho11, hd12⟩
   replace hs8 := St.lendP hF7 hs8
   refine ⟨_, rfl, WL.nil (ibN (retK0 rfl (⟨r9, _, rfl, St.keepP (L1 := L10) ((hs8.fr L10).fb b_s), ho11, ?_⟩)))⟩
   · first | rw [if_pos hrow, if_pos hrow] | rw [if_neg hrow, if_neg hrow]
     unfold eraseD; rw [if_pos e0]; exact hd12
  have e0 : ¬ k = 0 := by have h9 := h6; simpa using h9
  refine WC.r1 hs5 [] rfl (WC.cq rfl (fun h13 qh13 => ?_) (fun h13 qh13 => ?_))
  ·have e1 : k = 1 := by have h9 := h13; simpa using h9
   refine WC.region (WL.r 4 hs5 [] rfl ?_)
   have hF14 := ((hs5.fr L_s).fb b_s)
   refine WL.cl Try.call106 rfl (k77_ _ s _ _ _ _ (St.headP hF14) o_s (St.ownP hF14) (St.nodupP hF14) ?_ ?_ ?_) ?_
   iterate 3 first | assumption | rfl | omega | (refine ⟨?_, ?_, ?_, ?_⟩ <;> omega)
   rintro _ whs15 ⟨r16, L17, rfl, hs15, ho18, hd19⟩
   replace hs15 := St.lendP hF14 hs15
   refine ⟨_, rfl, WL.nil (ibN (retK0 rfl (⟨r16, _, rfl, St.keepP (L1 := L17) ((hs15.fr L17).fb b_s), ho18, ?_⟩)))⟩
   · first | rw [if_pos hrow, if_pos hrow] | rw [if_neg hrow, if_neg hrow]
     unfold eraseD; rw [if_neg e0, if_pos e1]; exact hd19
  have e1 : ¬ k = 1 := by have h9 := h13; simpa using h9
  refine WC.r1 hs5 [] rfl (WC.cq rfl (fun h20 qh20 => ?_) (fun h20 qh20 => ?_))
  ·have e2 : k = 2 := by have h9 := h20; simpa using h9
   refine WC.region (WL.r 3 hs5 [] rfl ?_)
   have hF21 := ((hs5.fr L_s).fb b_s)
   refine WL.cl Try.call106 rfl (k77_ _ s _ _ _ _ (St.headP hF21) o_s (St.ownP hF21) (St.nodupP hF21) ?_ ?_ ?_) ?_
   iterate 3 first | assumption | rfl | omega | (refine ⟨?_, ?_, ?_, ?_⟩ <;> omega)
   rintro _ whs22 ⟨r23, L24, rfl, hs22, ho25, hd26⟩
   replace hs22 := St.lendP hF21 hs22
   refine ⟨_, rfl, WL.nil (ibN (retK0 rfl (⟨r23, _, rfl, St.keepP (L1 := L24) ((hs22.fr L24).fb b_s), ho25, ?_⟩)))⟩
   · first | rw [if_pos hrow, if_pos hrow] | rw [if_neg hrow, if_neg hrow]
     unfold eraseD; rw [if_neg e0, if_neg e1, if_pos e2]; exact hd26
  have e2 : ¬ k = 2 := by have h9 := h20; simpa using h9
  refine WC.skip (ibN (retK0 rfl (⟨s, _, rfl, St.keepP (L1 := L_s) ((hs5.fr L_s).fb b_s), o_s, ?_⟩)))
  · first | rw [if_pos hrow, if_pos hrow] | rw [if_neg hrow, if_neg hrow]
    unfold eraseD; rw [if_neg e0, if_neg e1, if_neg e2]
 have hrow : ¬ row = true := by have h9 := h4; simpa using h9
 refine WC.skip (hK3 _ _ (WC.r1 hs2 [] rfl (WC.block (WC.r1 hs2 [] rfl ?_))))
 refine WC.cq rfl (fun h27 qh27 => ?_) (fun h27 qh27 => ?_)
 ·have e0 : k = 0 := by have h9 := h27; simpa using h9
  refine WC.region (WL.r 3 hs2 [] rfl ?_)
  have hF28 := ((hs2.fr L_s).fb b_s)
  refine WL.cl Try.call106 rfl (k77_ _ s _ _ _ _ (St.headP hF28) o_s (St.ownP hF28) (St.nodupP hF28) ?_ ?_ ?_) ?_
  iterate 3 first | assumption | rfl | omega | (refine ⟨?_, ?_, ?_, ?_⟩ <;> omega)
  rintro _ whs29 ⟨r30, L31, rfl, hs29, ho32, hd33⟩
  replace hs29 := St.lendP hF28 hs29
  refine ⟨_, rfl, WL.nil (ibN (retK0 rfl (⟨r30, _, rfl, St.keepP (L1 := L31) ((hs29.fr L31).fb b_s), ho32, ?_⟩)))⟩
  · first | rw [if_pos hrow, if_pos hrow] | rw [if_neg hrow, if_neg hrow]
    unfold eraseD; rw [if_pos e0]; exact hd33
 have e0 : ¬ k = 0 := by have h9 := h27; simpa using h9
 refine WC.r1 hs2 [] rfl (WC.cq rfl (fun h34 qh34 => ?_) (fun h34 qh34 => ?_))
 ·have e1 : k = 1 := by have h9 := h34; simpa using h9
  refine WC.region (WL.r 4 hs2 [] rfl ?_)
  have hF35 := ((hs2.fr L_s).fb b_s)
  refine WL.cl Try.call106 rfl (k77_ _ s _ _ _ _ (St.headP hF35) o_s (St.ownP hF35) (St.nodupP hF35) ?_ ?_ ?_) ?_
  iterate 3 first | assumption | rfl | omega | (refine ⟨?_, ?_, ?_, ?_⟩ <;> omega)
  rintro _ whs36 ⟨r37, L38, rfl, hs36, ho39, hd40⟩
  replace hs36 := St.lendP hF35 hs36
  refine ⟨_, rfl, WL.nil (ibN (retK0 rfl (⟨r37, _, rfl, St.keepP (L1 := L38) ((hs36.fr L38).fb b_s), ho39, ?_⟩)))⟩
  · first | rw [if_pos hrow, if_pos hrow] | rw [if_neg hrow, if_neg hrow]
    unfold eraseD; rw [if_neg e0, if_pos e1]; exact hd40
 have e1 : ¬ k = 1 := by have h9 := h34; simpa using h9
 refine WC.r1 hs2 [] rfl (WC.cq rfl (fun h41 qh41 => ?_) (fun h41 qh41 => ?_))
 ·have e2 : k = 2 := by have h9 := h41; simpa using h9
  refine WC.region (WL.r 3 hs2 [] rfl ?_)
  have hF42 := ((hs2.fr L_s).fb b_s)
  refine WL.cl Try.call106 rfl (k77_ _ s _ _ _ _ (St.headP hF42) o_s (St.ownP hF42) (St.nodupP hF42) ?_ ?_ ?_) ?_
  iterate 3 first | assumption | rfl | omega | (refine ⟨?_, ?_, ?_, ?_⟩ <;> omega)
  rintro _ whs43 ⟨r44, L45, rfl, hs43, ho46, hd47⟩
  replace hs43 := St.lendP hF42 hs43
  refine ⟨_, rfl, WL.nil (ibN (retK0 rfl (⟨r44, _, rfl, St.keepP (L1 := L45) ((hs43.fr L45).fb b_s), ho46, ?_⟩)))⟩
  · first | rw [if_pos hrow, if_pos hrow] | rw [if_neg hrow, if_neg hrow]
    unfold eraseD; rw [if_neg e0, if_neg e1, if_pos e2]; exact hd47
 have e2 : ¬ k = 2 := by have h9 := h41; simpa using h9
 refine WC.skip (ibN (retK0 rfl (⟨s, _, rfl, St.keepP (L1 := L_s) ((hs2.fr L_s).fb b_s), o_s, ?_⟩)))
 · first | rw [if_pos hrow, if_pos hrow] | rw [if_neg hrow, if_neg hrow]
   unfold eraseD; rw [if_neg e0, if_neg e1, if_neg e2]
theorem built_27 : Try.prog.built 27 [] = some (List.toArray [.int .i64 0, .int .i64 0, .bool false, .bool false, .bool false]) := by kernel_rfl
theorem k79_ (b_a : Nat) (a : AttrD) (n : Int) (w : World) (hb : w.heap[b_a]? = some (Obj.cells (List.toArray [i64 a.Fg, i64 a.Bg, .bool a.Bold, .bool a.Under, .bool a.Turn]) 27 (0, 0))) (hn : 0 ≤ n ∧ n ≤ 9999) :
    Calls Try.prog 129 #[.pointer (some ⟨b_a, 0, none⟩), i64 n] w fun e w' => e = .returned (.tuple #[]) ∧ St w [b_a] [(b_a, Obj.cells (List.toArray [i64 (sgrOne a n).Fg, i64 (sgrOne a n).Bg, .bool (sgrOne a n).Bold, .bool (sgrOne a n).Under, .bool (sgrOne a n).Turn]) 27 (0, 0))] w' := by
 refine enter 74 Try.func129 rfl Try.ntmps129 rfl rfl ?_
 have hs1 := St.take1 w b_a _ hb
 refine WC.block (WC.r1 hs1 [] rfl (WC.cq rfl (fun h2 qh2 => ?_) (fun h2 qh2 => ?_)))
 ·have e0 : n = 0 := by have h9 := h2; (try simp only [within_iff] at h9); first | exact h9 | (simp at h9; omega)
  refine WC.region (WL.r 1 hs1 [] rfl ?_)
  refine WL.val rfl rfl rfl (Run.build rfl rfl rfl rfl (built_27)) (WL.r 1 hs1 [] rfl (WL.st tbk hs1 0 rfl rfl (fun _ hs3 => WL.nil (ibN (retK0 rfl (⟨rfl, ?_⟩))))))
  unfold sgrOne
  rw [if_pos e0]
  exact hs3
 have e0 : ¬ (n = 0) := by have h9 := h2; (try simp only [within_not] at h9); first | exact h9 | (simp at h9; omega)
 refine WC.sr (WL.r 3 hs1 [] rfl (WL.pO tbk 2 Acts.nil hs1 [] rfl rfl rfl rfl (fun g_ => trivial) (WL.r 1 hs1 [] rfl (WL.nil (WC.cq rfl (fun h4 qh4 => ?_) (fun h4 qh4 => ?_))))))
 ·have e1 : n = 1 ∨ n = 22 := by have h9 := h4; (try simp only [within_iff] at h9); first | exact h9 | (simp at h9; omega)
  refine WC.region (WL.r 5 hs1 [] rfl (WL.st tbk hs1 0 rfl rfl (fun _ hs5 => WL.nil (ibN (retK0 rfl (⟨rfl, ?_⟩))))))
  unfold sgrOne
  rw [if_neg e0, if_pos e1]
  exact hs5
 have e1 : ¬ (n = 1 ∨ n = 22) := by have h9 := h4; (try simp only [within_not] at h9); first | exact h9 | (simp at h9; omega)
 refine WC.sr (WL.r 3 hs1 [] rfl (WL.pO tbk 2 Acts.nil hs1 [] rfl rfl rfl rfl (fun g_ => trivial) (WL.r 1 hs1 [] rfl (WL.nil (WC.cq rfl (fun h6 qh6 => ?_) (fun h6 qh6 => ?_))))))
 ·have e4 : n = 4 ∨ n = 24 := by have h9 := h6; (try simp only [within_iff] at h9); first | exact h9 | (simp at h9; omega)
  refine WC.region (WL.r 5 hs1 [] rfl (WL.st tbk hs1 0 rfl rfl (fun _ hs7 => WL.nil (ibN (retK0 rfl (⟨rfl, ?_⟩))))))
  unfold sgrOne
  rw [if_neg e0, if_neg e1, if_pos e4]
  exact hs7
 have e4 : ¬ (n = 4 ∨ n = 24) := by have h9 := h6; (try simp only [within_not] at h9); first | exact h9 | (simp at h9; omega)
 refine WC.sr (WL.r 3 hs1 [] rfl (WL.pO tbk 2 Acts.nil hs1 [] rfl rfl rfl rfl (fun g_ => trivial) (WL.r 1 hs1 [] rfl (WL.nil (WC.cq rfl (fun h8 qh8 => ?_) (fun h8 qh8 => ?_))))))
 ·have e7 : n = 7 ∨ n = 27 := by have h9 := h8; (try simp only [within_iff] at h9); first | exact h9 | (simp at h9; omega)
  refine WC.region (WL.r 5 hs1 [] rfl (WL.st tbk hs1 0 rfl rfl (fun _ hs9 => WL.nil (ibN (retK0 rfl (⟨rfl, ?_⟩))))))
  unfold sgrOne
  rw [if_neg e0, if_neg e1, if_neg e4, if_pos e7]
  exact hs9
 have e7 : ¬ (n = 7 ∨ n = 27) := by have h9 := h8; (try simp only [within_not] at h9); first | exact h9 | (simp at h9; omega)
 refine WC.sr (WL.r 1 hs1 [] rfl (WL.cl Try.call33 rfl (k0_ _ _ _ _) ?_))
 rintro _ whs10 ⟨rfl, hs10⟩
 replace hs10 := hs1.call0 hs10
 refine ⟨_, rfl, WL.r 1 hs10 [] rfl (WL.nil (WC.cq rfl (fun h11 qh11 => ?_) (fun h11 qh11 => ?_)))⟩
 ·have e30 : 30 ≤ n ∧ n ≤ 37 := by have h9 := h11; (try simp only [within_iff] at h9); first | exact h9 | (simp at h9; omega)
  refine WC.region (WL.r 5 hs10 [] rfl (WL.st tbk hs10 0 rfl rfl (fun _ hs12 => WL.nil (ibN (retK0 rfl (⟨rfl, ?_⟩))))))
  unfold sgrOne
  rw [if_neg e0, if_neg e1, if_neg e4, if_neg e7, if_pos e30]
  exact hs12
 have e30 : ¬ (30 ≤ n ∧ n ≤ 37) := by have h9 := h11; (try simp only [within_not] at h9); first | exact h9 | (simp at h9; omega)
 refine WC.r1 hs10 [] rfl (WC.cq rfl (fun h13 qh13 => ?_) (fun h13 qh13 => ?_))
 ·have e39 : n = 39 := by have h9 := h13; (try simp only [within_iff] at h9); first | exact h9 | (simp at h9; omega)
  refine WC.region (WL.r 3 hs10 [] rfl (WL.st tbk hs10 0 rfl rfl (fun _ hs14 => WL.nil (ibN (retK0 rfl (⟨rfl, ?_⟩))))))
  unfold sgrOne
  rw [if_neg e0, if_neg e1, if_neg e4, if_neg e7, if_neg e30, if_pos e39]
  exact hs14
 have e39 : ¬ (n = 39) := by have h9 := h13; (try simp only [within_not] at h9); first | exact h9 | (simp at h9; omega)
 refine WC.sr (WL.r 1 hs10 [] rfl (WL.cl Try.call33 rfl (k0_ _ _ _ _) ?_))
 rintro _ whs15 ⟨rfl, hs15⟩
 replace hs15 := hs10.call0 hs15
 refine ⟨_, rfl, WL.r 1 hs15 [] rfl (WL.nil (WC.cq rfl (fun h16 qh16 => ?_) (fun h16 qh16 => ?_)))⟩
 ·have e40 : 40 ≤ n ∧ n ≤ 47 := by have h9 := h16; (try simp only [within_iff] at h9); first | exact h9 | (simp at h9; omega)
  refine WC.region (WL.r 5 hs15 [] rfl (WL.st tbk hs15 0 rfl rfl (fun _ hs17 => WL.nil (ibN (retK0 rfl (⟨rfl, ?_⟩))))))
  unfold sgrOne
  rw [if_neg e0, if_neg e1, if_neg e4, if_neg e7, if_neg e30, if_neg e39, if_pos e40]
  exact hs17
 have e40 : ¬ (40 ≤ n ∧ n ≤ 47) := by have h9 := h16; (try simp only [within_not] at h9); first | exact h9 | (simp at h9; omega)
 refine WC.r1 hs15 [] rfl (WC.cq rfl (fun h18 qh18 => ?_) (fun h18 qh18 => ?_))
 ·have e49 : n = 49 := by have h9 := h18; (try simp only [within_iff] at h9); first | exact h9 | (simp at h9; omega)
  refine WC.region (WL.r 3 hs15 [] rfl (WL.st tbk hs15 0 rfl rfl (fun _ hs19 => WL.nil (ibN (retK0 rfl (⟨rfl, ?_⟩))))))
  unfold sgrOne
  rw [if_neg e0, if_neg e1, if_neg e4, if_neg e7, if_neg e30, if_neg e39, if_neg e40, if_pos e49]
  exact hs19
 have e49 : ¬ (n = 49) := by have h9 := h18; (try simp only [within_not] at h9); first | exact h9 | (simp at h9; omega)
 refine WC.skip (ibN (retK0 rfl (⟨rfl, ?_⟩)))
 unfold sgrOne
 rw [if_neg e0, if_neg e1, if_neg e4, if_neg e7, if_neg e30, if_neg e39, if_neg e40, if_neg e49]
 exact hs15
end Go.Proofs.Ytjmegoiclgancaa
