/-
  What the proof stands on, part 4.
-/
import Derived.Test.YtgigdjgjmfekkaaGreatDoorKG3
namespace Go.Proofs.YtgigdjgjmfekkaaGreatDoor
open Go Go.RowKit
set_option linter.unusedVariables false
set_option linter.unusedSimpArgs false
theorem k41_ (g : GridR) (w : World) (f_g : okGridR 549755813888 w g) :
    Calls Tryz.prog 55 #[.agg #[i64 g.W, i64 g.H, .slice g.Cells.A g.Cells.n g.Cells.c]] w fun e w' => e = .returned (.bool (gridOk g.dat)) ∧ St w [] [] w' := by
 have nb_g_Cells := f_g.Cells_n
 have nl_g_Cells := f_g.Cells.len
 refine enter 53 Tryz.func55 rfl Tryz.ntmps55 rfl rfl ?_
 have hs1 := St.init w
 refine WC.sr (WL.bx hs1 rfl (fun b2 _ hs3 => WL.r 1 hs3 [] rfl (WL.nil (WC.seq (fun K4 hK4 => WC.sr (WL.r 4 hs3 [0] rfl (WL.pO tbk 3 Acts.nil hs3 [0] rfl rfl rfl rfl (fun g_ => ⟨rfl, trivial⟩) ?_)))))))
 refine WL.r 1 hs3 [] rfl (WL.pO tbk 3 Acts.nil hs3 [0] rfl rfl rfl rfl (fun g_ => ⟨rfl, trivial⟩) (WL.r 1 hs3 [] rfl (WL.pO tbk 3 Acts.nil hs3 [0] rfl rfl rfl rfl (fun g_ => ⟨rfl, trivial⟩) (WL.r 1 hs3 [] rfl ?_))))
 apply WL.gO 6 Acts.nil hs3 rfl
 ·intro g5 J6
  have qg5 := g5
  try simp only [bf, within_iff, within_not] at qg5
  refine WL.runA tbk 6 (Acts.nil.cons (j := 18) rfl g5) hs3 [0, 0] rfl ⟨?_, rfl, rfl, trivial⟩ ?_
  · (have h9 := mul_size (w := g.W) (h := g.H) (by omega) (by omega); constructor <;> omega)
  exact WL.eO 6 Acts.nil J6 hs3 g5 rfl rfl
 intro _ hs7
 refine WL.r 1 hs7 [] rfl ?_
 apply WL.gO 9 Acts.nil hs7 rfl
 ·intro g8 J9
  have qg8 := g8
  try simp only [bf, within_iff, within_not] at qg8
  refine WL.runA tbk 9 (Acts.nil.cons (j := 26) rfl g8) hs7 [0, 0, 0] rfl ⟨?_, rfl, rfl, rfl, trivial⟩ ?_
  · (have h9 := mul_size (w := g.W) (h := g.H) (by omega) (by omega); constructor <;> omega)
  exact WL.eO 9 Acts.nil J9 hs7 g8 rfl rfl
 intro _ hs10
 refine WL.nil (WC.cq rfl (fun h11 qh11 => ?_) (fun h11 qh11 => ?_))
 ·have hg : gridOk g.dat = false := by rw [← Bool.not_eq_true]; intro h8; have hb : (1 ≤ g.W ∧ g.W ≤ 120) ∧ (1 ≤ g.H ∧ g.H ≤ 120) ∧ 1 ≤ g.W * g.H ∧ g.W * g.H ≤ 4000 := gridOk_bnd h8; unfold gridOk at h8; rw [Bool.and_eq_true, Bool.and_eq_true, decide_eq_true_eq] at h8; have h7 : (g.Cells.xs.length : Int) = g.W * g.H := h8.1.2; have h9 := h11; simp at h9; omega
  refine WC.r1 hs10 [] rfl (WC.ret (tkR ?_))
  clear hK4
  refine rtv rfl rfl hs10 ?_
  rw [hg]
 have hs : isSize g.W g.H = true ∧ (g.Cells.n : Int) = g.W * g.H := by rw [isSize_iff]; have h9 := h11; simp at h9; omega
 refine WC.skip (hK4 _ _ (WC.seq (fun K12 hK12 => WC.r1 hs10 [0] rfl (WC.block ?_))))
 refine WC.lS [41, 43, 44] rfl hs10 (fun k_ f w' => ∃ (i : Nat), k_ = g.Cells.n - i ∧ (i ≤ g.Cells.n) ∧ (∀ j, j < i → cellOk (gat encCell g.Cells.xs j) = true) ∧ Sub [(45, .int .i64 i)] f) ((fun (i : Nat) => g.Cells.n - i) (0)) ?_ ?_
 ·refine ⟨0, rfl, ?_, ?_, ⟨rfl, trivial⟩⟩
  · exact Nat.zero_le _
  · exact fun j hj => absurd hj (by omega)
 clear hs10
 rintro _ f w ⟨i, rfl, p0, p1, hG⟩ hF hs13
 refine WC.sub _ (hG.app hF) ?_
 clear hG hF
 refine WC.r1 hs13 [] rfl (WC.seq (fun K14 hK14 => ?_))
 refine WC.cq rfl (fun h15 qh15 => ?_) (fun h15 qh15 => ?_)
 ·refine WC.skip (hK14 _ _ (WC.seq (fun K16 hK16 => WC.block (WC.sr ?_))))
  refine WL.val rfl rfl rfl (Run.idxN Tryz.runUnderlying29 Tryz.sizeOf108 rfl rfl rfl ?_ ?_ ?_) ?_
  · exact SlF.some_ (SlF.st0 f_g.Cells hs13)
  · omega
  · omega
  refine WL.val rfl rfl rfl (Run.loadA Tryz.isAgg108 Tryz.sizeOf108 rfl rfl (SlF.whole (SlF.st0 f_g.Cells hs13) ?_)) ?_
  · omega
  refine WL.al hs13 Tryz.zeroValue108 rfl rfl (fun b17 _ hs18 => WL.st tbk hs18 0 rfl rfl (fun _ hs19 => WL.nil (WC.sr (WL.r 1 hs19 [0] rfl (WL.cl Tryz.call99 rfl (k7_ _ _ _ _ _ _ _) ?_)))))
  rintro _ whs20 ⟨rfl, hs20⟩
  replace hs20 := hs19.call0 hs20
  refine ⟨_, rfl, WL.r 1 hs20 [] rfl (WL.nil (WC.cq rfl (fun h21 qh21 => ?_) (fun h21 qh21 => ?_)))⟩
  ·have hci : cellOk (gat encCell g.Cells.xs i) = false := by simpa using h21
   refine WC.r1 hs20 [] rfl (WC.ret (ibR (tkR (tkR (ibR (tkR ?_))))))
   clear hK16 hK12
   refine rtv rfl rfl hs20 ?_
   rw [show gridOk g.dat = false from by unfold gridOk; rw [show cellsOk g.dat.Cells = false from cellsOk_not (i := i) (by show i < g.Cells.xs.length; omega) hci, Bool.and_false]]
  have hci : cellOk (gat encCell g.Cells.xs i) = true := by simpa using h21
  refine WC.skip (hK16 _ _ (WC.region (WL.r 2 hs20 [] rfl (WL.nil (tkN ?_)))))
  refine ⟨sbF rfl, (hs20.drop (by repeat (first | exact List.Sublist.refl _ | exact List.sublist_append_left _ _ | exact List.Sublist.trans (List.sublist_append_left _ _) (List.sublist_append_left _ _) | apply List.Sublist.cons | refine List.Sublist.trans ?_ (sR _)))), _, ?_, i + 1, rfl, ?_, ?_, ⟨rfl, trivial⟩⟩
  · omega
  · omega
  · intro j hj; rcases Nat.lt_or_ge j i with h_ | h_
    · exact p1 j h_
    · obtain rfl : j = i := by omega
      exact hci
 refine WC.exit (hK12 _ _ (WC.r1 hs13 [] rfl (WC.ret (rtv rfl rfl hs13 ?_))))
 rw [show gridOk g.dat = true from by unfold gridOk; rw [show cellsOk g.dat.Cells = true from cellsOk_all (fun j hj => p1 j (by have : j < g.Cells.xs.length := hj; omega)), show isSize g.dat.W g.dat.H = true from hs.1, decide_eq_true (show (g.dat.Cells.length : Int) = g.dat.W * g.dat.H from by show (g.Cells.xs.length : Int) = g.W * g.H; rw [nl_g_Cells]; exact hs.2)]; rfl]
theorem k42_ (r : RowR) (w : World) (f_r : okRowR 549755813888 w r) :
    Calls Tryz.prog 57 #[.agg #[.slice r.Cells.A r.Cells.n r.Cells.c]] w fun e w' => e = .returned (.bool (rowOk r.dat)) ∧ St w [] [] w' := by
 have nb_r_Cells := f_r.Cells_n
 have nl_r_Cells := f_r.Cells.len
 refine enter 26 Tryz.func57 rfl Tryz.ntmps57 rfl rfl ?_
 have hs1 := St.init w
 refine WC.sr (WL.bx hs1 rfl (fun b2 _ hs3 => WL.r 1 hs3 [] rfl (WL.nil (WC.seq (fun K4 hK4 => WC.r1 hs3 [0] rfl (WC.block ?_))))))
 refine WC.lS [1, 6, 7] rfl hs3 (fun k_ f w' => ∃ (i : Nat), k_ = r.Cells.n - i ∧ (i ≤ r.Cells.n) ∧ (∀ j, j < i → cellOk (gat encCell r.Cells.xs j) = true) ∧ Sub [(8, .int .i64 i)] f) ((fun (i : Nat) => r.Cells.n - i) (0)) ?_ ?_
 ·refine ⟨0, rfl, ?_, ?_, ⟨rfl, trivial⟩⟩
  · exact Nat.zero_le _
  · exact fun j hj => absurd hj (by omega)
 clear hs3
 rintro _ f w ⟨i, rfl, p0, p1, hG⟩ hF hs5
 refine WC.sub _ (hG.app hF) ?_
 clear hG hF
 refine WC.r1 hs5 [] rfl (WC.seq (fun K6 hK6 => ?_))
 refine WC.cq rfl (fun h7 qh7 => ?_) (fun h7 qh7 => ?_)
 ·refine WC.skip (hK6 _ _ (WC.seq (fun K8 hK8 => WC.block (WC.sr ?_))))
  refine WL.val rfl rfl rfl (Run.idxN Tryz.runUnderlying29 Tryz.sizeOf108 rfl rfl rfl ?_ ?_ ?_) ?_
  · exact SlF.some_ (SlF.st0 f_r.Cells hs5)
  · omega
  · omega
  refine WL.val rfl rfl rfl (Run.loadA Tryz.isAgg108 Tryz.sizeOf108 rfl rfl (SlF.whole (SlF.st0 f_r.Cells hs5) ?_)) ?_
  · omega
  refine WL.al hs5 Tryz.zeroValue108 rfl rfl (fun b9 _ hs10 => WL.st tbk hs10 0 rfl rfl (fun _ hs11 => WL.nil (WC.sr (WL.r 1 hs11 [0] rfl (WL.cl Tryz.call99 rfl (k7_ _ _ _ _ _ _ _) ?_)))))
  rintro _ whs12 ⟨rfl, hs12⟩
  replace hs12 := hs11.call0 hs12
  refine ⟨_, rfl, WL.r 1 hs12 [] rfl (WL.nil (WC.cq rfl (fun h13 qh13 => ?_) (fun h13 qh13 => ?_)))⟩
  ·have hci : cellOk (gat encCell r.Cells.xs i) = false := by simpa using h13
   refine WC.r1 hs12 [] rfl (WC.ret (ibR (tkR (tkR (ibR (tkR ?_))))))
   clear hK8 hK4
   refine rtv rfl rfl hs12 ?_
   rw [show rowOk r.dat = false from by unfold rowOk; rw [show cellsOk r.dat.Cells = false from cellsOk_not (i := i) (by show i < r.Cells.xs.length; omega) hci, Bool.and_false]]
  have hci : cellOk (gat encCell r.Cells.xs i) = true := by simpa using h13
  refine WC.skip (hK8 _ _ (WC.region (WL.r 2 hs12 [] rfl (WL.nil (tkN ?_)))))
  refine ⟨sbF rfl, (hs12.drop (by repeat (first | exact List.Sublist.refl _ | exact List.sublist_append_left _ _ | exact List.Sublist.trans (List.sublist_append_left _ _) (List.sublist_append_left _ _) | apply List.Sublist.cons | refine List.Sublist.trans ?_ (sR _)))), _, ?_, i + 1, rfl, ?_, ?_, ⟨rfl, trivial⟩⟩
  · omega
  · omega
  · intro j hj; rcases Nat.lt_or_ge j i with h_ | h_
    · exact p1 j h_
    · obtain rfl : j = i := by omega
      exact hci
 refine WC.exit (hK4 _ _ (WC.sr (WL.r 5 hs5 [0] rfl (WL.pA tbk 4 Acts.nil hs5 [0] rfl rfl rfl rfl (fun g_ => ⟨rfl, trivial⟩) (WL.r 1 hs5 [] rfl (WL.nil (WC.ret ?_)))))))
 refine rtv rfl rfl hs5 ?_
 rw [show rowOk r.dat = within (r.Cells.n : Int) 1 120 from by unfold rowOk; rw [show cellsOk r.dat.Cells = true from cellsOk_all (fun j hj => p1 j (by have : j < r.Cells.xs.length := hj; omega)), Bool.and_true, ← nl_r_Cells]; rfl]; rfl
set_option maxHeartbeats 4000000 in
theorem k43_ (s : ScrR) (w : World) (f_s : okScrR 549755813888 w s) :
    Calls Tryz.prog 30 #[.agg (cScr s).toArray] w fun e w' => e = .returned (.bool (scrOk s.dat)) ∧ St w [] [] w' := by
 have nb_s_Main_Cells := f_s.Main.Cells_n
 have nl_s_Main_Cells := f_s.Main.Cells.len
 have nb_s_Alt_Cells := f_s.Alt.Cells_n
 have nl_s_Alt_Cells := f_s.Alt.Cells.len
 have nb_s_Tabs := f_s.Tabs_n
 have nl_s_Tabs := f_s.Tabs.len
 have nb_s_Back := f_s.Back_n
 have nl_s_Back := f_s.Back.sl.len
 refine enter 208 Tryz.func30 rfl Tryz.ntmps30 rfl rfl ?_
 have hs1 := St.init w
 refine WC.sr (WL.bx hs1 rfl (fun b2 _ hs3 => WL.r 1 hs3 [] rfl (WL.nil (WC.seq (fun K4 hK4 => WC.sr (WL.r 2 hs3 [0] rfl (WL.cl Tryz.call55 rfl (k41_ s.Main _ (okGridR.st0 f_s.Main hs3)) ?_)))))))
 rintro _ whs5 ⟨rfl, hs5⟩
 replace hs5 := hs3.call0 hs5
 refine ⟨_, rfl, WL.r 2 hs5 [] rfl ?_⟩
 apply WL.gO 4 Acts.nil hs5 rfl
 ·intro g6 J7
  have qg6 := g6
  try simp only [bf, within_iff, within_not] at qg6
  refine WL.runA tbk 2 (Acts.nil.cons (j := 4) rfl g6) hs5 [0] rfl ⟨rfl, trivial⟩ (WL.call (wantF rfl g6) rfl rfl (Run.call Tryz.call55 rfl rfl rfl) (k41_ s.Alt _ (okGridR.st0 f_s.Alt hs5)) ?_)
  rintro _ whs8 ⟨rfl, hs8⟩
  replace hs8 := hs5.call0 hs8
  refine ⟨_, rfl, WL.runA tbk 1 (Acts.nil.cons (j := 4) rfl g6) hs8 [] rfl trivial (WL.eO 4 Acts.nil J7 hs8 g6 rfl rfl)⟩
 intro _ hs9
 refine WL.r 1 hs9 [] rfl (WL.pO tbk 6 Acts.nil hs9 [0, 0] rfl rfl rfl rfl (fun g_ => ⟨rfl, rfl, trivial⟩) (WL.r 1 hs9 [] rfl (WL.pO tbk 6 Acts.nil hs9 [0, 0] rfl rfl rfl rfl (fun g_ => ⟨rfl, rfl, trivial⟩) (WL.r 1 hs9 [] rfl (WL.pO tbk 6 Acts.nil hs9 [0, 0] rfl rfl rfl rfl (fun g_ => ⟨rfl, rfl, trivial⟩) (WL.r 1 hs9 [] rfl (WL.pO tbk 6 Acts.nil hs9 [0, 0] rfl rfl rfl rfl (fun g_ => ⟨rfl, rfl, trivial⟩) ?_)))))))
 refine WL.nil (WC.cq rfl (fun h10 qh10 => ?_) (fun h10 qh10 => ?_))
 ·have hp1 : scrP1 s.dat = false := by have h9 := h10; unfold scrP1 gridFit; show ((gridOk s.Main.dat && (decide (s.Main.W = s.W) && decide (s.Main.H = s.H))) && (gridOk s.Alt.dat && (decide (s.Alt.W = s.W) && decide (s.Alt.H = s.H)))) = false; revert h9; cases gridOk s.Main.dat <;> cases gridOk s.Alt.dat <;> cases decide (s.Main.W = s.W) <;> cases decide (s.Main.H = s.H) <;> cases decide (s.Alt.W = s.W) <;> cases decide (s.Alt.H = s.H) <;> simp
  refine WC.r1 hs9 [] rfl (WC.ret (tkR ?_))
  clear hK4
  refine rtv rfl rfl hs9 ?_
  rw [scrOk_no (.inl hp1)]
 have hp1 : scrP1 s.dat = true := by have h9 := h10; unfold scrP1 gridFit; show ((gridOk s.Main.dat && (decide (s.Main.W = s.W) && decide (s.Main.H = s.H))) && (gridOk s.Alt.dat && (decide (s.Alt.W = s.W) && decide (s.Alt.H = s.H)))) = true; revert h9; cases gridOk s.Main.dat <;> cases gridOk s.Alt.dat <;> cases decide (s.Main.W = s.W) <;> cases decide (s.Main.H = s.H) <;> cases decide (s.Alt.W = s.W) <;> cases decide (s.Alt.H = s.H) <;> simp
 have hbn : (1 ≤ s.W ∧ s.W ≤ 120) ∧ (1 ≤ s.H ∧ s.H ≤ 120) ∧ s.Main.W = s.W ∧ s.Main.H = s.H ∧ s.Alt.W = s.W ∧ s.Alt.H = s.H := scrP1_bnd hp1
 refine WC.skip (hK4 _ _ (WC.seq (fun K11 hK11 => WC.sr (WL.r 4 hs9 [0] rfl (WL.pO tbk 5 Acts.nil hs9 [0, 0] rfl rfl rfl rfl (fun g_ => ⟨rfl, rfl, trivial⟩) (WL.r 1 hs9 [] rfl (WL.pO tbk 3 Acts.nil hs9 [0] rfl rfl rfl rfl (fun g_ => ⟨rfl, trivial⟩) ?_)))))))
 refine WL.r 1 hs9 [] rfl (WL.pO tbk 5 Acts.nil hs9 [0, 0] rfl rfl rfl rfl (fun g_ => ⟨rfl, rfl, trivial⟩) (WL.r 1 hs9 [] rfl ?_))
 apply WL.gO 10 Acts.nil hs9 rfl
 ·intro g12 J13
  have qg12 := g12
  try simp only [bf, within_iff, within_not] at qg12
  refine WL.runA tbk 3 (Acts.nil.cons (j := 22) rfl g12) hs9 [0] rfl ⟨rfl, trivial⟩ ?_
  refine WL.pA tbk 6 (Acts.nil.cons (j := 22) rfl g12) hs9 [0, 0] rfl rfl rfl rfl (fun g_ => by (try simp only [bf, within_iff, within_not] at g_); exact ⟨by omega, rfl, rfl, trivial⟩) (WL.eO 4 Acts.nil J13 hs9 g12 rfl rfl)
 intro _ hs14
 refine WL.r 1 hs14 [] rfl (WL.pO tbk 3 Acts.nil hs14 [0] rfl rfl rfl rfl (fun g_ => ⟨rfl, trivial⟩) (WL.r 1 hs14 [] rfl (WL.pO tbk 5 Acts.nil hs14 [0, 0] rfl rfl rfl rfl (fun g_ => ⟨rfl, rfl, trivial⟩) (WL.r 1 hs14 [] rfl (WL.pO tbk 3 Acts.nil hs14 [0] rfl rfl rfl rfl (fun g_ => ⟨rfl, trivial⟩) (WL.r 1 hs14 [] rfl (WL.pO tbk 5 Acts.nil hs14 [0, 0] rfl rfl rfl rfl (fun g_ => ⟨rfl, rfl, trivial⟩) ?_)))))))
 refine WL.r 1 hs14 [] rfl ?_
 apply WL.gO 4 Acts.nil hs14 rfl
 ·intro g15 J16
  have qg15 := g15
  try simp only [bf, within_iff, within_not] at qg15
  refine WL.runA tbk 2 (Acts.nil.cons (j := 58) rfl g15) hs14 [0] rfl ⟨rfl, trivial⟩ (WL.call (wantF rfl g15) rfl rfl (Run.call Tryz.call56 rfl rfl rfl) (k5_ _ _ _ _ _ _) ?_)
  rintro _ whs17 ⟨rfl, hs17⟩
  replace hs17 := hs14.call0 hs17
  refine ⟨_, rfl, WL.runA tbk 1 (Acts.nil.cons (j := 58) rfl g15) hs17 [] rfl trivial (WL.eO 4 Acts.nil J16 hs17 g15 rfl rfl)⟩
 intro _ hs18
 refine WL.r 1 hs18 [] rfl ?_
 apply WL.gO 4 Acts.nil hs18 rfl
 ·intro g19 J20
  have qg19 := g19
  try simp only [bf, within_iff, within_not] at qg19
  refine WL.runA tbk 2 (Acts.nil.cons (j := 64) rfl g19) hs18 [0] rfl ⟨rfl, trivial⟩ (WL.call (wantF rfl g19) rfl rfl (Run.call Tryz.call56 rfl rfl rfl) (k5_ _ _ _ _ _ _) ?_)
  rintro _ whs21 ⟨rfl, hs21⟩
  replace hs21 := hs18.call0 hs21
  refine ⟨_, rfl, WL.runA tbk 1 (Acts.nil.cons (j := 64) rfl g19) hs21 [] rfl trivial (WL.eO 4 Acts.nil J20 hs21 g19 rfl rfl)⟩
 intro _ hs22
 refine WL.nil (WC.cq rfl (fun h23 qh23 => ?_) (fun h23 qh23 => ?_))
 ·have hp2 : scrP2 s.dat = false := by have h9 := h23; unfold scrP2 gridHas within; show ((((decide (0 ≤ s.X) && decide (s.X ≤ s.Main.W - 1)) && (decide (0 ≤ s.Y) && decide (s.Y ≤ s.Main.H - 1))) && ((decide (0 ≤ s.SaveX) && decide (s.SaveX ≤ s.Main.W - 1)) && (decide (0 ≤ s.SaveY) && decide (s.SaveY ≤ s.Main.H - 1)))) && ((!s.Wrap || decide (s.X = s.W - 1)) && (attrOk s.A.Fg s.A.Bg && attrOk s.SaveA.Fg s.SaveA.Bg))) = false; revert h9; cases s.Wrap <;> cases attrOk s.A.Fg s.A.Bg <;> cases attrOk s.SaveA.Fg s.SaveA.Bg <;> intro h9 <;> simp at h9 ⊢ <;> omega
  refine WC.r1 hs22 [] rfl (WC.ret (tkR ?_))
  clear hK11
  refine rtv rfl rfl hs22 ?_
  rw [scrOk_no (.inr (.inl hp2))]
 have hp2 : scrP2 s.dat = true := by have h9 := h23; unfold scrP2 gridHas within; show ((((decide (0 ≤ s.X) && decide (s.X ≤ s.Main.W - 1)) && (decide (0 ≤ s.Y) && decide (s.Y ≤ s.Main.H - 1))) && ((decide (0 ≤ s.SaveX) && decide (s.SaveX ≤ s.Main.W - 1)) && (decide (0 ≤ s.SaveY) && decide (s.SaveY ≤ s.Main.H - 1)))) && ((!s.Wrap || decide (s.X = s.W - 1)) && (attrOk s.A.Fg s.A.Bg && attrOk s.SaveA.Fg s.SaveA.Bg))) = true; revert h9; cases s.Wrap <;> cases attrOk s.A.Fg s.A.Bg <;> cases attrOk s.SaveA.Fg s.SaveA.Bg <;> intro h9 <;> simp at h9 ⊢ <;> omega
 refine WC.skip (hK11 _ _ (WC.seq (fun K24 hK24 => WC.sr (WL.r 4 hs22 [0] rfl (WL.pO tbk 5 Acts.nil hs22 [0, 0] rfl rfl rfl rfl (fun g_ => ⟨rfl, rfl, trivial⟩) (WL.r 1 hs22 [] rfl (WL.pO tbk 5 Acts.nil hs22 [0, 0] rfl rfl rfl rfl (fun g_ => ⟨rfl, rfl, trivial⟩) ?_)))))))
 refine WL.r 1 hs22 [] rfl ?_
 apply WL.gO 10 Acts.nil hs22 rfl
 ·intro g25 J26
  have qg25 := g25
  try simp only [bf, within_iff, within_not] at qg25
  refine WL.runA tbk 6 (Acts.nil.cons (j := 17) rfl g25) hs22 [0, 0] rfl ⟨rfl, rfl, trivial⟩ (WL.pA tbk 3 (Acts.nil.cons (j := 17) rfl g25) hs22 [0] rfl rfl rfl rfl (fun g_ => ⟨rfl, trivial⟩) (WL.eO 7 Acts.nil J26 hs22 g25 rfl rfl))
 intro _ hs27
 refine WL.r 1 hs27 [] rfl (WL.pO tbk 3 Acts.nil hs27 [0] rfl rfl rfl rfl (fun g_ => ⟨rfl, trivial⟩) (WL.r 1 hs27 [] rfl (WL.pO tbk 3 Acts.nil hs27 [0] rfl rfl rfl rfl (fun g_ => ⟨rfl, trivial⟩) (WL.r 1 hs27 [] rfl (WL.pO tbk 6 Acts.nil hs27 [0, 0] rfl rfl rfl rfl (fun g_ => ⟨rfl, rfl, trivial⟩) (WL.nil (WC.cq rfl (fun h28 qh28 => ?_) (fun h28 qh28 => ?_))))))))
 ·have hp34 : scrP3 s.dat = false ∨ scrP4 s.dat = false := by have h9 := h28; unfold scrP3 scrP4 within; show ((decide (0 ≤ s.Top) && decide (s.Top ≤ s.Bot)) && (decide (s.Bot < s.H) && (!decide (s.Top = s.Bot) || decide (s.H = 1)))) = false ∨ ((decide (0 ≤ s.Limit) && decide (s.Limit ≤ 100)) && decide (((s.Back.xs.map RowR.dat).length : Int) ≤ s.Limit)) = false; rw [List.length_map, nl_s_Back]; simp at h9 ⊢; omega
  refine WC.r1 hs27 [] rfl (WC.ret (tkR ?_))
  clear hK24
  refine rtv rfl rfl hs27 ?_
  rw [scrOk_no (.inr (.inr (hp34.elim .inl (fun h => .inr (.inl h)))))]
 have hp34 : scrP3 s.dat = true ∧ scrP4 s.dat = true := by have h9 := h28; unfold scrP3 scrP4 within; show ((decide (0 ≤ s.Top) && decide (s.Top ≤ s.Bot)) && (decide (s.Bot < s.H) && (!decide (s.Top = s.Bot) || decide (s.H = 1)))) = true ∧ ((decide (0 ≤ s.Limit) && decide (s.Limit ≤ 100)) && decide (((s.Back.xs.map RowR.dat).length : Int) ≤ s.Limit)) = true; rw [List.length_map, nl_s_Back]; simp at h9 ⊢; omega
 refine WC.skip (hK24 _ _ (WC.seq (fun K29 hK29 => WC.r1 hs27 [0] rfl (WC.block ?_))))
 refine WC.lS [1, 48, 118, 165, 167, 168] rfl hs27 (fun k_ f w' => ∃ (i : Nat), k_ = s.Tabs.n - i ∧ (i ≤ s.Tabs.n) ∧ (∀ j, j < i → ascAt s.Tabs.xs 0 (s.W - 1) j = true) ∧ Sub [(169, .int .i64 i)] f) ((fun (i : Nat) => s.Tabs.n - i) (0)) ?_ ?_
 ·refine ⟨0, rfl, ?_, ?_, ⟨rfl, trivial⟩⟩
  · exact Nat.zero_le _
  · exact fun j hj => absurd hj (by omega)
 clear hs27
 rintro _ f w ⟨i, rfl, p0, p1, hG⟩ hF hs30
 refine WC.sub _ (hG.app hF) ?_
 clear hG hF
 refine WC.r1 hs30 [] rfl (WC.seq (fun K31 hK31 => ?_))
 refine WC.cq rfl (fun h32 qh32 => ?_) (fun h32 qh32 => ?_)
 ·refine WC.skip (hK31 _ _ (WC.seq (fun K33 hK33 => WC.block (WC.sr (WL.r 1 hs30 [] rfl ?_)))))
  refine WL.val rfl rfl rfl (Run.idxN Tryz.runUnderlying26 Tryz.sizeOf3 rfl rfl rfl ?_ ?_ ?_) ?_
  · exact SlF.some_ (SlF.st0 f_s.Tabs hs30)
  · omega
  · omega
  refine WL.val rfl rfl rfl (Run.load Tryz.isAgg3 rfl rfl (SlF.one1 (SlF.st0 f_s.Tabs hs30) ?_ rfl)) ?_
  · omega
  refine WL.r 2 hs30 [] rfl (WL.nil (WC.sr (WL.r 3 hs30 [] rfl (WL.pO tbk 4 Acts.nil hs30 [0] rfl rfl rfl rfl (fun g_ => ⟨rfl, trivial⟩) (WL.r 1 hs30 [] rfl ?_)))))
  apply WL.gO 12 Acts.nil hs30 rfl
  ·intro g34 J35
   have qg34 := g34
   try simp only [bf, within_iff, within_not] at qg34
   refine WL.runA tbk 3 (Acts.nil.cons (j := 8) rfl g34) hs30 [] rfl trivial ?_
   apply WL.gA 8 (Acts.nil.cons (j := 8) rfl g34) hs30 rfl
   ·intro g36 J37
    have qg36 := g36
    try simp only [bf, within_iff, within_not] at qg36
    refine WL.runA tbk 4 (Acts.nil.cons (j := 11) rfl g36) hs30 [0] rfl ⟨by omega, rfl, trivial⟩ (WL.val (wantT rfl g36) rfl rfl (Run.idxK (i - 1) Tryz.runUnderlying26 Tryz.sizeOf3 rfl rfl rfl ?_ ?_ ?_) ?_)
    · exact SlF.some_ (SlF.st0 f_s.Tabs hs30)
    · omega
    · omega
    refine WL.val (wantT rfl g36) rfl rfl (Run.load Tryz.isAgg3 rfl rfl (SlF.one1 (SlF.st0 f_s.Tabs hs30) ?_ rfl)) ?_
    · omega
    refine WL.runA tbk 2 (Acts.nil.cons (j := 11) rfl g36) hs30 [] rfl trivial (WL.eA 8 (Acts.nil.cons (j := 8) rfl g34) J37 hs30 g36 rfl rfl)
   intro _ hs38
   exact WL.eO 4 Acts.nil J35 hs38 g34 rfl rfl
  intro _ hs39
  refine WL.nil (WC.cq rfl (fun h40 qh40 => ?_) (fun h40 qh40 => ?_))
  ·have ha : ascAt s.Tabs.xs 0 (s.W - 1) i = false := by unfold ascAt within iat; have h9 := h40; simp at h9 ⊢; omega
   refine WC.r1 hs39 [] rfl (WC.ret (ibR (tkR (tkR (ibR (tkR ?_))))))
   clear hK33 hK29
   refine rtv rfl rfl hs39 ?_
   rw [scrOk_no (.inr (.inr (.inr (.inr (.inl (isAsc_not (i := i) (by show i < s.Tabs.xs.length; omega) ha))))))]
  have ha : ascAt s.Tabs.xs 0 (s.W - 1) i = true := by unfold ascAt within iat; have h9 := h40; simp at h9 ⊢; omega
  refine WC.skip (hK33 _ _ (WC.region (WL.r 2 hs39 [] rfl (WL.nil (tkN ?_)))))
  refine ⟨sbF rfl, hs39, _, ?_, i + 1, rfl, ?_, ?_, ⟨rfl, trivial⟩⟩
  · omega
  · omega
  · intro j hj; rcases Nat.lt_or_ge j i with h_ | h_
    · exact p1 j h_
    · obtain rfl : j = i := by omega
      exact ha
 have hasc : isAsc s.dat.Tabs 0 (s.dat.W - 1) = true := isAsc_all (fun j hj => p1 j (by have : j < s.Tabs.xs.length := hj; omega))
 refine WC.exit (hK29 _ _ (WC.seq (fun K41 hK41 => WC.r1 hs30 [0] rfl (WC.block ?_))))
 refine WC.lS [48, 118, 165, 170, 198, 199] rfl hs30 (fun k_ f w' => ∃ (i : Nat), k_ = s.Back.n - i ∧ (i ≤ s.Back.n) ∧ (∀ j, j < i → rowOk (RowR.dat (gat encRowR s.Back.xs j)) = true) ∧ Sub [(200, .int .i64 i)] f) ((fun (i : Nat) => s.Back.n - i) (0)) ?_ ?_
 ·refine ⟨0, rfl, ?_, ?_, ⟨rfl, trivial⟩⟩
  · exact Nat.zero_le _
  · exact fun j hj => absurd hj (by omega)
 clear hs30
 rintro _ f w ⟨i, rfl, r0, r1, hG⟩ hF hs42
 refine WC.sub _ (hG.app hF) ?_
 clear hG hF
 refine WC.r1 hs42 [] rfl (WC.seq (fun K43 hK43 => ?_))
 refine WC.cq rfl (fun h44 qh44 => ?_) (fun h44 qh44 => ?_)
 ·refine WC.skip (hK43 _ _ (WC.seq (fun K45 hK45 => WC.block (WC.sr ?_))))
  refine WL.val rfl rfl rfl (Run.idxN Tryz.runUnderlying32 Tryz.sizeOf93 rfl rfl rfl ?_ ?_ ?_) ?_
  · exact SlF.some_ (SlF.st0 f_s.Back.sl hs42)
  · omega
  · omega
  refine WL.val rfl rfl rfl (Run.loadA Tryz.isAgg93 Tryz.sizeOf93 rfl rfl (SlF.whole (SlF.st0 f_s.Back.sl hs42) ?_)) ?_
  · omega
  refine WL.al hs42 Tryz.zeroValue93 rfl rfl (fun b46 _ hs47 => WL.st tbk hs47 0 rfl rfl (fun _ hs48 => WL.nil (WC.sr (WL.r 1 hs48 [0] rfl (WL.cl Tryz.call57 rfl (k42_ (gat encRowR s.Back.xs i) _ (okRowR.st0 (SlN.nth f_s.Back (by omega)) hs48)) ?_)))))
  rintro _ whs49 ⟨rfl, hs49⟩
  replace hs49 := hs48.call0 hs49
  refine ⟨_, rfl, WL.r 1 hs49 [] rfl (WL.nil (WC.cq rfl (fun h50 qh50 => ?_) (fun h50 qh50 => ?_)))⟩
  ·refine WC.r1 hs49 [] rfl (WC.ret (ibR (tkR (tkR (ibR (tkR ?_))))))
   clear hK45 hK41
   refine rtv rfl rfl hs49 ?_
   rw [scrOk_no (.inr (.inr (.inr (.inr (.inr (all_gat_not (F := encRowR) (j := i) (by omega) (by simpa using h50)))))))]
  refine WC.skip (hK45 _ _ (WC.region (WL.r 2 hs49 [] rfl (WL.nil (tkN ?_)))))
  refine ⟨sbF rfl, (hs49.drop (by repeat (first | exact List.Sublist.refl _ | exact List.sublist_append_left _ _ | exact List.Sublist.trans (List.sublist_append_left _ _) (List.sublist_append_left _ _) | apply List.Sublist.cons | refine List.Sublist.trans ?_ (sR _)))), _, ?_, i + 1, rfl, ?_, ?_, ⟨rfl, trivial⟩⟩
  · omega
  · omega
  · intro j hj; rcases Nat.lt_or_ge j i with h_ | h_
    · exact r1 j h_
    · obtain rfl : j = i := by omega
      simpa using h50
 refine WC.exit (hK41 _ _ (WC.r1 hs42 [] rfl (WC.ret (rtv rfl rfl hs42 ?_))))
 rw [scrOk_all hp1 hp2 hp34.1 hp34.2 hasc (all_gat (F := encRowR) (fun j hj => r1 j (by omega)))]
theorem inf93 : Tryz.prog.info? 93 = some Tryz.t93 := by kernel_rfl
theorem built_93_0 (x0 : Option Addr) (x1 : Nat) (x2 : Nat) : Tryz.prog.built 93 [(0, .slice x0 x1 x2)] = some (List.toArray [.slice x0 x1 x2]) := by kernel_rfl
theorem k44_ (A_s : Option Addr) (n_s c_s : Nat) (s : List CellD) (w : World) (f_s : SlF encCell w A_s n_s s) (hn : n_s ≤ 268435456) :
    Calls Tryz.prog 70 #[.slice A_s n_s c_s] w fun e w' => ∃ A c L1, e = .returned (.slice A (s).length c) ∧ St w [] L1 w' ∧ OwnF encCell 108 (.slice A (s).length c) (s) L1 := by
 have hl := f_s.len
 refine enter 8 Tryz.func70 rfl Tryz.ntmps70 rfl rfl ?_
 have hs1 := St.init w
 refine WC.r1 hs1 [] rfl (WC.seq (fun K2 hK2 => WC.sr (WL.r 1 hs1 [] rfl (WL.val rfl rfl rfl (Run.eqlNil Tryz.underlying29 rfl rfl rfl) (WL.nil ?_)))))
 refine WC.cq rfl (fun h3 qh3 => ?_) (fun h3 qh3 => ?_)
 ·obtain rfl : A_s = none := by simpa using qh3
  have h0 : n_s = 0 := SlF.none_ f_s
  have hs : s = [] := List.eq_nil_of_length_eq_zero (by omega)
  refine WC.r1 hs1 [] rfl (WC.ret (tkR ?_))
  clear hK2
  refine retV1 rfl (resV.tmp rfl) ?_
  have hx_ := OwnF.eqOf (xs := s) (OwnF.nil encCell 108) (by rw [hs])
  rw [← hx_]
  exact ⟨_, _, _, rfl, hs1.nil, (OwnF.nil encCell 108)⟩
 refine WC.skip (hK2 _ _ (WC.sr (WL.buildF (F := encCell) hs1 ([]) Tryz.runUnderlying29 Tryz.sizeOf108 Tryz.zeroValue108 rfl rfl rfl rfl rfl rfl rfl rfl rfl rfl rfl rfl (fun A7 c8 L4 whs5 hs5 ho6 => WL.r 1 hs5 [] rfl ?_))))
 refine WL.appendG hs5 ho6 (SlF.src (SlF.st0 f_s hs5) Tryz.underlying29) Tryz.underlying29 inf108 rfl rfl rfl rfl rfl rfl rfl rfl rfl rfl ?_ (fun A12 c13 L9 whs10 hs10 ho11 => ?_)
 · simp; omega
 refine WL.r 1 hs10 [] rfl (WL.nil (WC.ret (retV1 rfl (resV.tmp rfl) ?_)))
 have hx_ := OwnF.eqOf (xs := s) ho11 (by simp)
 rw [← hx_]
 first | exact ⟨_, _, _, rfl, (St.keep1 hs10), ho11⟩ | exact ⟨A12, c13, _, by rw [OwnF.len_ ho11], (St.keep1 hs10), by rw [OwnF.len_ ho11]; exact ho11⟩
theorem k45_ (g : GridR) (w : World) (f_g : okGridR 549755813888 w g) (hsm : smGrid 1048576 g.dat) :
    Calls Tryz.prog 69 #[.agg #[i64 g.W, i64 g.H, .slice g.Cells.A g.Cells.n g.Cells.c]] w fun e w' => ∃ r L1, e = .returned (.agg #[i64 r.W, i64 r.H, .slice r.Cells.A r.Cells.n r.Cells.c]) ∧ St w [] L1 w' ∧ ownGridR r L1 ∧ r.dat = g.dat := by
 have nb_g_Cells := f_g.Cells_n
 have nl_g_Cells := f_g.Cells.len
 have hl9 : g.Cells.xs.length ≤ 1048576 := hsm
 refine enter 11 Tryz.func69 rfl Tryz.ntmps69 rfl rfl ?_
 have hs1 := St.init w
 refine WC.sr (WL.bx hs1 rfl (fun b2 _ hs3 => WL.al hs3 Tryz.zeroValue31 rfl rfl (fun b4 _ hs5 => WL.nil (WC.seq (fun K6 hK6 => WC.rH hs5.d1 hs5 (fun _ hs7 => ?_))))))
 refine WH.rn [0, 1, 2, 3, 4, 5] hs7.d1 [0, 0, 0] rfl rfl (WH.o1 6 rfl (WL.cl Tryz.call70 rfl (k44_ _ _ _ _ _ (SlF.st0 f_g.Cells hs7) ?_) ?_))
 · first | assumption | rfl | omega
 rintro _ whs8 ⟨A9, c10, L1_11, rfl, hs8, ho12⟩
 replace hs8 := hs7.callF hs8
 refine ⟨_, rfl, ?_⟩
 replace hs8 := St.back [_, _] hs8
 refine WL.nil ⟨(hs8.d1.rm L1_11), ?_⟩
 refine WH.take 7 rfl (by kernel_rfl) rfl rfl rfl (hs8.d1.rm L1_11) (fun w_ hs_ => (Run.build rfl rfl rfl rfl (built_31_0_1_2 _ _ _ _ _))) ?_
 refine WH.o1 8 rfl (WL.st tbk hs8 0 rfl rfl (fun _ hs13 => WL.nil ⟨(hs13.d1.rm L1_11), WH.dn (hK6 _ _ (WC.ret (retV1 rfl (resV.cellA tbk hs13 0 rfl rfl rfl rfl) ?_)))⟩))
 refine ⟨⟨g.W, g.H, SlD.of ho12⟩, _, rfl, (St.keep1 (hs13.fr L1_11)), ?_, ?_⟩
 · exact ho12
 · rfl
theorem k46_ (s : ScrR) (w : World) (f_s : okScrR 549755813888 w s) (hsm : smScr 1048576 s.dat) :
    Calls Tryz.prog 35 #[.agg (cScr s).toArray] w fun e w' => ∃ r L1, e = .returned (.agg (cScr r).toArray) ∧ St w [] L1 w' ∧ ownScrR r L1 ∧ r.dat = s.dat := by
 have nb_s_Main_Cells := f_s.Main.Cells_n
 have nl_s_Main_Cells := f_s.Main.Cells.len
 have nb_s_Alt_Cells := f_s.Alt.Cells_n
 have nl_s_Alt_Cells := f_s.Alt.Cells.len
 have nb_s_Tabs := f_s.Tabs_n
 have nl_s_Tabs := f_s.Tabs.len
 have nb_s_Back := f_s.Back_n
 have nl_s_Back := f_s.Back.sl.len
 have hM : s.Main.Cells.xs.length ≤ 1048576 := hsm.1
 have hA : s.Alt.Cells.xs.length ≤ 1048576 := hsm.2.1
 have hT : s.Tabs.xs.length ≤ 1048576 := hsm.2.2.1
 have hB : s.Back.xs.length ≤ 1048576 := by have h_ := hsm.2.2.2.1; simpa [ScrR.dat] using h_
 have hR : ∀ y, y ∈ s.Back.xs → y.Cells.xs.length ≤ 1048576 := fun y hy => hsm.2.2.2.2 _ (List.mem_map_of_mem hy)
 refine enter 37 Tryz.func35 rfl Tryz.ntmps35 rfl rfl ?_
 have hs1 := St.init w
 refine WC.sr (WL.bx hs1 rfl (fun b2 _ hs3 => WL.al hs3 Tryz.zeroValue34 rfl rfl (fun b4 _ hs5 => WL.nil (WC.seq (fun K6 hK6 => WC.rG 10 (hs5.fb b2).d1 hs5 hs5 (fun _ hs7 => ?_))))))
 refine WG.rn [0, 1, 3, 4, 6, 7] hs7 [1, 1, 1] rfl rfl (WG.o1 2 rfl rfl (WL.cl Tryz.call69 rfl (k45_ s.Main _ (okGridR.st0 f_s.Main hs7) ?_) ?_))
 · first | assumption | rfl | omega | exact hsm.1 | exact hsm.2.1 | (exact Nat.le_trans hsm.1 (by decide)) | (exact Nat.le_trans hsm.2.1 (by decide)) | (have := hR _ (gat_mem (F := encRowR) (show i < s.Back.xs.length by omega)); omega)
 rintro _ whs8 ⟨r9, L1_10, rfl, hs8, ho11, hd12⟩
 replace hs8 := hs7.callF hs8
 refine ⟨_, rfl, ?_⟩
 replace hs8 := St.back [_, _] hs8
 refine WL.nil ⟨(hs8.rm L1_10), WG.rn [9] (hs8.rm L1_10) [] rfl rfl (WG.o1 5 rfl rfl (WL.cl Tryz.call69 rfl (k45_ s.Alt _ (okGridR.st0 f_s.Alt hs8) ?_) ?_))⟩
 · first | assumption | rfl | omega | exact hsm.1 | exact hsm.2.1 | (exact Nat.le_trans hsm.1 (by decide)) | (exact Nat.le_trans hsm.2.1 (by decide)) | (have := hR _ (gat_mem (F := encRowR) (show i < s.Back.xs.length by omega)); omega)
 rintro _ whs13 ⟨r14, L1_15, rfl, hs13, ho16, hd17⟩
 replace hs13 := hs8.callF hs13
 refine ⟨_, rfl, ?_⟩
 replace hs13 := St.back [_, _] hs13
 refine WL.nil ⟨((hs13.rm L1_15).rm L1_10), WG.o1 8 rfl rfl (WL.cl Tryz.call67 rfl (k18_ _ _ _ _ _ (SlF.st0 f_s.Tabs hs13) ?_) ?_)⟩
 · first | assumption | rfl | omega | exact hsm.1 | exact hsm.2.1 | (exact Nat.le_trans hsm.1 (by decide)) | (exact Nat.le_trans hsm.2.1 (by decide)) | (have := hR _ (gat_mem (F := encRowR) (show i < s.Back.xs.length by omega)); omega)
 rintro _ whs18 ⟨A19, c20, L1_21, rfl, hs18, ho22⟩
 replace hs18 := hs13.callF hs18
 refine ⟨_, rfl, ?_⟩
 replace hs18 := St.back [_, _] hs18
 refine WL.nil ⟨(((hs18.rm L1_21).rm L1_15).rm L1_10), WG.oK rfl (WL.st tbk hs18 1 rfl rfl (fun _ hs23 => WL.nil ⟨((((hs23.fb b2).d1.rm L1_21).rm L1_15).rm L1_10), WH.rn [11] ((((hs23.fb b2).d1.rm L1_21).rm L1_15).rm L1_10) [] rfl rfl (WH.o1 12 rfl (WL.st tbk hs23 1 rfl rfl (fun _ hs24 => WL.nil ⟨((((hs24.fb b2).d1.rm L1_21).rm L1_15).rm L1_10), ?_⟩)))⟩))⟩
 refine WH.rn [13] ((((hs24.fb b2).d1.rm L1_21).rm L1_15).rm L1_10) [] rfl rfl (WH.o1 14 rfl (WL.st tbk hs24 1 rfl rfl (fun _ hs25 => WL.nil ⟨((((hs25.fb b2).d1.rm L1_21).rm L1_15).rm L1_10), WH.dn (hK6 _ _ (WC.sr (WL.buildF (F := encRowR) hs25 ([]) Tryz.runUnderlying32 Tryz.sizeOf93 Tryz.zeroValue93 rfl rfl rfl rfl rfl rfl rfl rfl rfl rfl rfl rfl (fun A29 c30 L26 whs27 hs27 ho28 => ?_))))⟩)))
 replace hs27 := St.back [_, _] hs27
 obtain ⟨L31, hs32, ho33⟩ := OwnN.fresh (own := ownRowR) (hs27.fr L26) ho28 Bag.nil
 have hs34 := ((hs32.fb b2).fb b4)
 refine WL.r 1 hs34 [] rfl (WL.nil (WC.seq (fun K35 hK35 => WC.r1 hs34 [1] rfl (WC.block ?_))))
 have hM40 := (St.grp1 (L1 := L31) [] ((((((hs34.fr L1_10).fr L1_15).fr L1_21).fb b2).fb b4).fr L31))
 refine WC.lV [1, 2, 20, 21] rfl hM40 (fun k_ (a_ : Hp) f => ∃ (i : Nat) (rows_ : List RowR) (A36 : Option Addr) (c37 : Nat) (L38 : Hp), k_ = s.Back.n - i ∧ a_ = L38 ∧ (i ≤ s.Back.n) ∧ (rows_.map RowR.dat = (s.Back.xs.take i).map RowR.dat) ∧ (rows_.length = i) ∧ OwnN encRowR ownRowR 93 (.slice A36 (rows_).length c37) (rows_) L38 ∧ Sub [(3, .slice A36 (rows_).length c37), (22, .int .i64 i)] f) (((fun (i : Nat) (rows_ : List RowR) => s.Back.n - i) (0) ([]))) ?_ ?_
 ·refine ⟨0, [], A29, c30, L31, rfl, rfl, ?_, ?_, ?_, ho33, ⟨rfl, rfl, trivial⟩⟩
  · exact Nat.zero_le _
  · rfl
  · rfl
 rintro _ L38 f w ⟨i, rows_, A36, c37, _, rfl, rfl, p0, p1, p2, ho39, hG⟩ hF hs41
 refine WC.sub _ (hG.app hF) ?_
 clear hG hF
 replace hs41 := St.ungrp1 [] hs41
 have hs42 := ((hs41.fb b2).fb b4)
 refine WC.r1 hs42 [] rfl (WC.seq (fun K43 hK43 => ?_))
 refine WC.cD rfl (fun qh44 => ?_) (fun qh44 => ?_)
 ·have hnl := (SlN.nth f_s.Back (show i < s.Back.n by omega)).Cells.len
  refine WC.skip (hK43 _ _ (WC.seq (fun K45 hK45 => WC.block (WC.sr ?_))))
  refine WL.val rfl rfl rfl (Run.idxN Tryz.runUnderlying32 Tryz.sizeOf93 rfl rfl rfl ?_ ?_ ?_) ?_
  · exact SlF.some_ (SlF.st0 f_s.Back.sl hs42)
  · omega
  · omega
  refine WL.val rfl rfl rfl (Run.loadA Tryz.isAgg93 Tryz.sizeOf93 rfl rfl (SlF.whole (SlF.st0 f_s.Back.sl hs42) ?_)) ?_
  · omega
  refine WL.al hs42 Tryz.zeroValue93 rfl rfl (fun b46 _ hs47 => WL.st tbk hs47 0 rfl rfl (fun _ hs48 => WL.nil (WC.region (WL.r 3 hs48 [0] rfl ?_))))
  refine WL.cl Tryz.call70 rfl (k44_ _ _ _ _ _ (SlF.st0 (SlN.nth f_s.Back (by omega)).Cells hs48) ?_) ?_
  · first | assumption | rfl | omega | exact hsm.1 | exact hsm.2.1 | (exact Nat.le_trans hsm.1 (by decide)) | (exact Nat.le_trans hsm.2.1 (by decide)) | (have := hR _ (gat_mem (F := encRowR) (show i < s.Back.xs.length by omega)); omega)
  rintro _ whs49 ⟨A50, c51, L1_52, rfl, hs49, ho53⟩
  replace hs49 := hs48.callF hs49
  refine ⟨_, rfl, ?_⟩
  replace hs49 := St.back [_, _, _] hs49
  refine WL.val rfl rfl rfl (Run.build rfl rfl rfl rfl (built_93_0 _ _ _)) (WL.buildSlice hs49 Tryz.runUnderlying32 Tryz.sizeOf93 Tryz.zeroValue93 rfl rfl rfl rfl rfl rfl rfl rfl rfl rfl (fun b54 whs55 hs55 => ?_))
  obtain ⟨L56, L57, hs60, ho58, ho59⟩ := OwnN.open_ (hs55.fr L38) ho39
  have hs61 := ((((hs60.fb b2).fb b4).fb b46).fb b54)
  refine WL.appendG (hs61.fr L56) ho58 (srcF (F := encRowR) (ys := [(⟨SlD.of ho53⟩ : RowR)]) Tryz.underlying32 rfl rfl (hs61.own _ (nthL_mem (i := 0) rfl)).1) Tryz.underlying32 inf93 rfl rfl rfl rfl rfl rfl rfl rfl rfl rfl ?_ (fun A65 c66 L62 whs63 hs63 ho64 => ?_)
  · (try simp only [List.length_append, List.length_singleton, List.nil_append, List.length_nil]); first | omega | (have := hR _ (gat_mem (F := encRowR) (show i < s.Back.xs.length by omega)); omega)
  replace hs63 := St.back [_, _, _, _] hs63
  obtain ⟨L67, hs68, hb69⟩ := Bag.put (x := (⟨SlD.of ho53⟩ : RowR)) ((hs63.fr L1_52).fr L57) ho59 ho53
  have hs70 := ((((hs68.fb b2).fb b4).fb b46).fb b54)
  obtain ⟨L72, hs71, ho73⟩ := OwnN.fold ((hs70.fr L67).fr L62) ho64 hb69
  have hs74 := ((((hs71.fb b2).fb b4).fb b46).fb b54)
  refine WL.r 1 hs74 [] rfl (WL.nil (hK45 _ _ (WC.region (WL.r 2 hs74 [] rfl (WL.nil (tkN ?_))))))
  replace hs74 := hs74.d1.d1
  have hF75 := (St.grp1 (L1 := L72) [] ((((((hs74.fr L1_10).fr L1_15).fr L1_21).fb b2).fb b4).fr L72))
  refine ⟨sbF rfl, _, hF75, _, ?_, i + 1, ((rows_) ++ [(⟨SlD.of ho53⟩ : RowR)]), A65, c66, L72, rfl, rfl, ?_, ?_, ?_, ho73, ⟨rfl, rfl, trivial⟩⟩
  · omega
  · omega
  · rw [List.map_append, p1, map_take_succ (F := encRowR) (by omega)]; congr 1
  · simp only [List.length_append, List.length_singleton]; omega
 refine WC.exit (hK35 _ _ (WC.sr (WL.r 2 hs42 [] rfl (WL.st tbk hs42 1 rfl rfl (fun _ hs76 => WL.nil (WC.sr (WL.r 1 hs76 [1] rfl ?_)))))))
 refine WL.st tbk hs76 0 rfl rfl (fun _ hs77 => WL.nil (WC.ret (retV1 rfl (resV.cellA tbk hs77 0 rfl rfl rfl rfl) ?_)))
 have hi_ : i = s.Back.n := by omega
 have hbk : rows_.map RowR.dat = s.dat.Back := by rw [p1, List.take_of_length_le (by omega)]; rfl
 obtain ⟨L79, hs78, ho80⟩ := ownScrR.fl hs77 ho11 ho16 ho22 ho39
 have hs81 := ((hs78.fb b2).fb b4)
 refine ownScrR.ret rfl (St.keep1 (hs81.fr L79)) ho80 ?_
 · exact ScrD.ext' rfl rfl hd12 hd17 rfl rfl rfl rfl rfl rfl rfl rfl rfl rfl rfl rfl rfl rfl hbk
theorem k47_ (s : ScrR) (w : World) (f_s : okScrR 549755813888 w s) (hsm : smScr 1048576 s.dat) :
    Calls Tryz.prog 50 #[.agg (cScr s).toArray] w fun e w' => ∃ r L1, e = .returned (.agg (cScr r).toArray) ∧ St w [] L1 w' ∧ ownScrR r L1 ∧ r.dat = s.dat := by
 have nb_s_Main_Cells := f_s.Main.Cells_n
 have nl_s_Main_Cells := f_s.Main.Cells.len
 have nb_s_Alt_Cells := f_s.Alt.Cells_n
 have nl_s_Alt_Cells := f_s.Alt.Cells.len
 have nb_s_Tabs := f_s.Tabs_n
 have nl_s_Tabs := f_s.Tabs.len
 have nb_s_Back := f_s.Back_n
 have nl_s_Back := f_s.Back.sl.len
 have hM : s.Main.Cells.xs.length ≤ 1048576 := hsm.1
 have hA : s.Alt.Cells.xs.length ≤ 1048576 := hsm.2.1
 have hT : s.Tabs.xs.length ≤ 1048576 := hsm.2.2.1
 have hB : s.Back.xs.length ≤ 1048576 := by have h_ := hsm.2.2.2.1; simpa [ScrR.dat] using h_
 have hR : ∀ y, y ∈ s.Back.xs → y.Cells.xs.length ≤ 1048576 := fun y hy => hsm.2.2.2.2 _ (List.mem_map_of_mem hy)
 refine enter 39 Tryz.func50 rfl Tryz.ntmps50 rfl rfl ?_
 have hs1 := St.init w
 refine WC.sr (WL.bx hs1 rfl (fun b2 _ hs3 => WL.al hs3 Tryz.zeroValue34 rfl rfl (fun b4 _ hs5 => WL.nil (WC.sr (WL.r 2 hs5 [1] rfl ?_)))))
 refine WL.cl Tryz.call59 rfl (k29_ s.Main _ (okGridR.st0 f_s.Main hs5) ?_) ?_
 · first | assumption | rfl | omega | exact hsm.1 | exact hsm.2.1 | (exact Nat.le_trans hsm.1 (by decide)) | (exact Nat.le_trans hsm.2.1 (by decide)) | (have := hR _ (gat_mem (F := encRowR) (show i < s.Back.xs.length by omega)); omega)
 rintro _ whs6 ⟨r7, L1_8, rfl, hs6, ho9, hd10⟩
 replace hs6 := hs5.callF hs6
 refine ⟨_, rfl, ?_⟩
 replace hs6 := St.back [_, _] hs6
 refine WL.r 1 hs6 [] rfl (WL.st tbk hs6 1 rfl rfl (fun _ hs11 => WL.nil (WC.sr (WL.r 2 hs11 [1] rfl ?_))))
 refine WL.cl Tryz.call59 rfl (k29_ s.Alt _ (okGridR.st0 f_s.Alt hs11) ?_) ?_
 · first | assumption | rfl | omega | exact hsm.1 | exact hsm.2.1 | (exact Nat.le_trans hsm.1 (by decide)) | (exact Nat.le_trans hsm.2.1 (by decide)) | (have := hR _ (gat_mem (F := encRowR) (show i < s.Back.xs.length by omega)); omega)
 rintro _ whs12 ⟨r13, L1_14, rfl, hs12, ho15, hd16⟩
 replace hs12 := hs11.callF hs12
 refine ⟨_, rfl, ?_⟩
 replace hs12 := St.back [_, _] hs12
 refine WL.r 1 hs12 [] rfl (WL.st tbk hs12 1 rfl rfl (fun _ hs17 => WL.nil (WC.sr (WL.buildF (F := encI) hs17 ([]) Tryz.runUnderlying26 Tryz.sizeOf3 Tryz.zeroValue3 rfl rfl rfl rfl rfl rfl rfl rfl rfl rfl rfl rfl (fun A21 c22 L18 whs19 hs19 ho20 => ?_)))))
 replace hs19 := St.back [_, _] hs19
 refine WL.r 2 hs19 [1] rfl (WL.appendG (hs19.fr L18) ho20 (SlF.src (SlF.st0 f_s.Tabs hs19) Tryz.underlying26) Tryz.underlying26 inf3 rfl rfl rfl rfl rfl rfl rfl rfl rfl rfl ?_ (fun A26 c27 L23 whs24 hs24 ho25 => ?_))
 · (try simp only [List.length_append, List.length_singleton, List.nil_append, List.length_nil]); first | omega | (have := hR _ (gat_mem (F := encRowR) (show i < s.Back.xs.length by omega)); omega)
 replace hs24 := St.back [_, _] hs24
 refine WL.r 1 hs24 [] rfl (WL.st tbk hs24 1 rfl rfl (fun _ hs28 => WL.nil (WC.sr (WL.buildF (F := encRowR) hs28 ([]) Tryz.runUnderlying32 Tryz.sizeOf93 Tryz.zeroValue93 rfl rfl rfl rfl rfl rfl rfl rfl rfl rfl rfl rfl (fun A32 c33 L29 whs30 hs30 ho31 => ?_)))))
 replace hs30 := St.back [_, _] hs30
 obtain ⟨L34, hs35, ho36⟩ := OwnN.fresh (own := ownRowR) (hs30.fr L29) ho31 Bag.nil
 have hs37 := ((hs35.fb b2).fb b4)
 refine WL.r 1 hs37 [] rfl (WL.nil (WC.seq (fun K38 hK38 => WC.r1 hs37 [1] rfl (WC.block ?_))))
 have hM43 := (St.grp1 (L1 := L34) [] ((((((hs37.fr L1_8).fr L1_14).fr L23).fb b2).fb b4).fr L34))
 refine WC.lV [1, 2, 21, 22] rfl hM43 (fun k_ (a_ : Hp) f => ∃ (i : Nat) (rows_ : List RowR) (A39 : Option Addr) (c40 : Nat) (L41 : Hp), k_ = s.Back.n - i ∧ a_ = L41 ∧ (i ≤ s.Back.n) ∧ (rows_.map RowR.dat = (s.Back.xs.take i).map RowR.dat) ∧ (rows_.length = i) ∧ OwnN encRowR ownRowR 93 (.slice A39 (rows_).length c40) (rows_) L41 ∧ Sub [(3, .slice A39 (rows_).length c40), (23, .int .i64 i)] f) (((fun (i : Nat) (rows_ : List RowR) => s.Back.n - i) (0) ([]))) ?_ ?_
 ·refine ⟨0, [], A32, c33, L34, rfl, rfl, ?_, ?_, ?_, ho36, ⟨rfl, rfl, trivial⟩⟩
  · exact Nat.zero_le _
  · rfl
  · rfl
 rintro _ L41 f w ⟨i, rows_, A39, c40, _, rfl, rfl, p0, p1, p2, ho42, hG⟩ hF hs44
 refine WC.sub _ (hG.app hF) ?_
 clear hG hF
 replace hs44 := St.ungrp1 [] hs44
 have hs45 := ((hs44.fb b2).fb b4)
 refine WC.r1 hs45 [] rfl (WC.seq (fun K46 hK46 => ?_))
 refine WC.cD rfl (fun qh47 => ?_) (fun qh47 => ?_)
 ·have hnl := (SlN.nth f_s.Back (show i < s.Back.n by omega)).Cells.len
  refine WC.skip (hK46 _ _ (WC.seq (fun K48 hK48 => WC.block (WC.sr ?_))))
  refine WL.val rfl rfl rfl (Run.idxN Tryz.runUnderlying32 Tryz.sizeOf93 rfl rfl rfl ?_ ?_ ?_) ?_
  · exact SlF.some_ (SlF.st0 f_s.Back.sl hs45)
  · omega
  · omega
  refine WL.val rfl rfl rfl (Run.loadA Tryz.isAgg93 Tryz.sizeOf93 rfl rfl (SlF.whole (SlF.st0 f_s.Back.sl hs45) ?_)) ?_
  · omega
  refine WL.al hs45 Tryz.zeroValue93 rfl rfl (fun b49 _ hs50 => WL.st tbk hs50 0 rfl rfl (fun _ hs51 => WL.nil (WC.region (WL.r 1 hs51 [] rfl (WL.buildF (F := encCell) hs51 ([]) Tryz.runUnderlying29 Tryz.sizeOf108 Tryz.zeroValue108 rfl rfl rfl rfl rfl rfl rfl rfl rfl rfl rfl rfl (fun A55 c56 L52 whs53 hs53 ho54 => ?_))))))
  replace hs53 := St.back [_, _, _] hs53
  refine WL.r 2 hs53 [0] rfl (WL.appendG (hs53.fr L52) ho54 (SlF.src (SlF.st0 (SlN.nth f_s.Back (by omega)).Cells hs53) Tryz.underlying29) Tryz.underlying29 inf108 rfl rfl rfl rfl rfl rfl rfl rfl rfl rfl ?_ (fun A60 c61 L57 whs58 hs58 ho59 => ?_))
  · (try simp only [List.length_append, List.length_singleton, List.nil_append, List.length_nil]); first | omega | (have := hR _ (gat_mem (F := encRowR) (show i < s.Back.xs.length by omega)); omega)
  replace hs58 := St.back [_, _, _] hs58
  refine WL.val rfl rfl rfl (Run.build rfl rfl rfl rfl (built_93_0 _ _ _)) (WL.buildSlice hs58 Tryz.runUnderlying32 Tryz.sizeOf93 Tryz.zeroValue93 rfl rfl rfl rfl rfl rfl rfl rfl rfl rfl (fun b62 whs63 hs63 => ?_))
  obtain ⟨L64, L65, hs68, ho66, ho67⟩ := OwnN.open_ (hs63.fr L41) ho42
  have hs69 := ((((hs68.fb b2).fb b4).fb b49).fb b62)
  refine WL.appendG (hs69.fr L64) ho66 (srcF (F := encRowR) (ys := [(⟨SlD.of ho59⟩ : RowR)]) Tryz.underlying32 rfl rfl (hs69.own _ (nthL_mem (i := 0) rfl)).1) Tryz.underlying32 inf93 rfl rfl rfl rfl rfl rfl rfl rfl rfl rfl ?_ (fun A73 c74 L70 whs71 hs71 ho72 => ?_)
  · (try simp only [List.length_append, List.length_singleton, List.nil_append, List.length_nil]); first | omega | (have := hR _ (gat_mem (F := encRowR) (show i < s.Back.xs.length by omega)); omega)
  replace hs71 := St.back [_, _, _, _] hs71
  obtain ⟨L75, hs76, hb77⟩ := Bag.put (x := (⟨SlD.of ho59⟩ : RowR)) ((hs71.fr L57).fr L65) ho67 ho59
  have hs78 := ((((hs76.fb b2).fb b4).fb b49).fb b62)
  obtain ⟨L80, hs79, ho81⟩ := OwnN.fold ((hs78.fr L75).fr L70) ho72 hb77
  have hs82 := ((((hs79.fb b2).fb b4).fb b49).fb b62)
  refine WL.r 1 hs82 [] rfl (WL.nil (hK48 _ _ (WC.region (WL.r 2 hs82 [] rfl (WL.nil (tkN ?_))))))
  replace hs82 := hs82.d1.d1
  have hF83 := (St.grp1 (L1 := L80) [] ((((((hs82.fr L1_8).fr L1_14).fr L23).fb b2).fb b4).fr L80))
  refine ⟨sbF rfl, _, hF83, _, ?_, i + 1, ((rows_) ++ [(⟨SlD.of ho59⟩ : RowR)]), A73, c74, L80, rfl, rfl, ?_, ?_, ?_, ho81, ⟨rfl, rfl, trivial⟩⟩
  · omega
  · omega
  · rw [List.map_append, p1, map_take_succ (F := encRowR) (by omega)]; congr 1
  · simp only [List.length_append, List.length_singleton]; omega
 refine WC.exit (hK38 _ _ (WC.sr (WL.r 2 hs45 [] rfl (WL.st tbk hs45 1 rfl rfl (fun _ hs84 => WL.nil (WC.sr (WL.r 1 hs84 [1] rfl ?_)))))))
 refine WL.st tbk hs84 0 rfl rfl (fun _ hs85 => WL.nil (WC.ret (retV1 rfl (resV.cellA tbk hs85 0 rfl rfl rfl rfl) ?_)))
 have hi_ : i = s.Back.n := by omega
 have hbk : rows_.map RowR.dat = s.dat.Back := by rw [p1, List.take_of_length_le (by omega)]; rfl
 obtain ⟨L87, hs86, ho88⟩ := ownScrR.fl hs85 ho9 ho15 ho25 ho42
 have hs89 := ((hs86.fb b2).fb b4)
 refine ownScrR.ret rfl (St.keep1 (hs89.fr L87)) ho88 ?_
 · exact ScrD.ext' rfl rfl hd10 hd16 rfl rfl rfl rfl rfl rfl rfl rfl rfl rfl rfl rfl rfl rfl hbk
theorem k48_ (g : GridR) (y : Int) (w : World) (f_g : okGridR 549755813888 w g) (h0 : 0 ≤ y * g.W) (h1 : y * g.W ≤ (y + 1) * g.W) (h2 : (y + 1) * g.W ≤ g.Cells.n) (h3 : -1 ≤ y ∧ y ≤ 1048576) :
    Calls Tryz.prog 75 #[.agg #[i64 g.W, i64 g.H, .slice g.Cells.A g.Cells.n g.Cells.c], i64 y] w fun e w' => e = .returned (.slice (cutA g.Cells.A (y * g.W).toNat 6 g.Cells.c) (((y + 1) * g.W).toNat - (y * g.W).toNat) (g.Cells.c - (y * g.W).toNat)) ∧ St w [] [] w' := by
 have nb_g_Cells := f_g.Cells_n
 have nl_g_Cells := f_g.Cells.len
 have hcap := f_g.Cells_c
 refine enter 17 Tryz.func75 rfl Tryz.ntmps75 rfl rfl ?_
 have hs1 := St.init w
 refine WC.sr (WL.bx hs1 rfl (fun b2 _ hs3 => WL.r 1 hs3 [] rfl (WL.nil (WC.sr (WL.r 11 hs3 [0, 0, 0] rfl ?_)))))
 refine WL.val rfl rfl rfl (Run.sliceLH ((y * g.W).toNat) (((y + 1) * g.W).toNat) Tryz.runUnderlying29 Tryz.sizeOf108 rfl rfl rfl rfl ?_ ?_ ?_) ?_
 · first | rfl | (omega)
 · first | rfl | (omega)
 · refine ⟨?_, ?_, ?_⟩ <;> (omega)
 refine WL.r 1 hs3 [] rfl (WL.nil (WC.ret (rtv rfl rfl hs3 ?_)))
 rfl
theorem k49_ (n : Int) (w : World) :
    Calls Tryz.prog 129 #[i64 n] w fun e w' => e = .returned (.bool (within n (-100000) 100000)) ∧ St w [] [] w' := by
 refine enter 9 Tryz.func129 rfl Tryz.ntmps129 rfl rfl ?_
 have hs1 := St.init w
 refine WC.r1 hs1 [] rfl (WC.sr (WL.r 3 hs1 [] rfl (WL.pA tbk 2 Acts.nil hs1 [] rfl rfl rfl rfl (fun g_ => trivial) (WL.r 1 hs1 [] rfl (WL.nil (WC.ret (retV1 rfl (resV.tmp rfl) ?_)))))))
 refine ⟨congrArg Ending.returned ?_, hs1.nil⟩
 rfl
theorem k50_ (n hi : Int) (w : World) :
    Calls Tryz.prog 93 #[i64 n, i64 hi] w fun e w' => e = .returned (.int .i64 (if n < 0 then 0 else min n hi)) ∧ St w [] [] w' := by
 refine enter 12 Tryz.func93 rfl Tryz.ntmps93 rfl rfl ?_
 have hs1 := St.init w
 refine WC.r1 hs1 [] rfl (WC.seq (fun K2 hK2 => WC.r1 hs1 [] rfl ?_))
 refine WC.cD rfl (fun qh3 => ?_) (fun qh3 => ?_)
 ·refine WC.r1 hs1 [] rfl (WC.ret (tkR ?_))
  clear hK2
  refine rtv rfl rfl hs1 ?_
  congr 1; (repeat' split) <;> omega
 refine WC.skip (hK2 _ _ (WC.seq (fun K4 hK4 => WC.r1 hs1 [] rfl ?_)))
 refine WC.cD rfl (fun qh5 => ?_) (fun qh5 => ?_)
 ·refine WC.r1 hs1 [] rfl (WC.ret (tkR ?_))
  clear hK4
  refine rtv rfl rfl hs1 ?_
  congr 1; (repeat' split) <;> omega
 refine WC.skip (hK4 _ _ (WC.r1 hs1 [] rfl (WC.ret (rtv rfl rfl hs1 ?_))))
 congr 1; (repeat' split) <;> omega
theorem k51_ (g : GridR) (top : Int) (bot : Int) (n : Int) (w : World) (f_g : okGridR 549755813888 w g) (hg : gridOk g.dat = true) (ht : 0 ≤ top ∧ top ≤ bot ∧ bot < g.H) (hn : -100000 ≤ n ∧ n ≤ 100000) :
    Calls Tryz.prog 156 #[.agg #[i64 g.W, i64 g.H, .slice g.Cells.A g.Cells.n g.Cells.c], i64 top, i64 bot, i64 n] w fun e w' => ∃ r L1, e = .returned (.agg #[i64 r.W, i64 r.H, .slice r.Cells.A r.Cells.n r.Cells.c]) ∧ St w [] L1 w' ∧ ownGridR r L1 ∧ r.dat = gRoll g.dat top bot n := by
 have nb_g_Cells := f_g.Cells_n
 have nl_g_Cells := f_g.Cells.len
 have hgb : (1 ≤ g.W ∧ g.W ≤ 120) ∧ (1 ≤ g.H ∧ g.H ≤ 120) ∧ 1 ≤ g.W * g.H ∧ g.W * g.H ≤ 4000 := gridOk_bnd hg
 have hgl : (g.Cells.xs.length : Int) = g.W * g.H := grid_len hg
 have hsmg : smGrid 1048576 g.dat := by show g.Cells.xs.length ≤ 1048576; omega
 refine enter 103 Tryz.func156 rfl Tryz.ntmps156 rfl rfl ?_
 have hs1 := St.init w
 refine WC.sr (WL.bx hs1 rfl (fun b2 _ hs3 => WL.al hs3 Tryz.zeroValue31 rfl rfl (fun b4 _ hs5 => WL.nil (WC.seq (fun K6 hK6 => WC.sr (WL.r 1 hs5 [1] rfl (WL.cl Tryz.call55 rfl (k41_ g _ (okGridR.st0 f_g hs5)) ?_)))))))
 rintro _ whs7 ⟨rfl, hs7⟩
 replace hs7 := hs5.call0 hs7
 refine ⟨_, rfl, WL.r 2 hs7 [] rfl (WL.pO tbk 2 Acts.nil hs7 [] rfl rfl rfl rfl (fun g_ => trivial) (WL.r 1 hs7 [] rfl (WL.pO tbk 3 Acts.nil hs7 [] rfl rfl rfl rfl (fun g_ => trivial) (WL.r 1 hs7 [] rfl (WL.pO tbk 4 Acts.nil hs7 [1] rfl rfl rfl rfl (fun g_ => ⟨rfl, trivial⟩) (WL.nil ?_))))))⟩
 refine WC.cq rfl (fun h8 qh8 => ?_) (fun h8 qh8 => ?_)
 ·exfalso; have h9 := h8; simp [hg] at h9; omega
 refine WC.skip (hK6 _ _ (WC.seq (fun K9 hK9 => WC.r1 hs7 [1] rfl ?_)))
 refine WC.mergeK [(1, _), (2, _), (4, _), (8, _), (29, _), (34, _)] 3 (i64 (min n g.H)) hs7 ⟨rfl, rfl, rfl, rfl, rfl, rfl, trivial⟩ (fun f whs11 hF12 hs11 => ?_) (fun hJ10 => ?_)
 ·refine hK9 _ _ (WC.sub _ hF12 ?_)
  clear hF12
  refine WC.seq (fun K13 hK13 => WC.r1 hs11 [1] rfl ?_)
  refine WC.mergeK [(1, _), (2, _), (4, _), (8, _), (29, _), (34, _), (41, _)] 3 (i64 (max (min n g.H) (-g.H))) hs11 ⟨rfl, rfl, rfl, rfl, rfl, rfl, rfl, trivial⟩ (fun f whs15 hF16 hs15 => ?_) (fun hJ14 => ?_)
  ·refine hK13 _ _ (WC.sub _ hF16 ?_)
   clear hF16
   refine WC.sr (WL.r 1 hs15 [1] rfl (WL.cl Tryz.call59 rfl (k29_ g _ (okGridR.st0 f_g hs15) ?_) ?_))
   · first | assumption | rfl | omega | (exact Nat.le_trans hsmg (by decide))
   rintro _ whs17 ⟨r18, L1_19, rfl, hs17, ho20, hd21⟩
   replace hs17 := hs15.callF hs17
   refine ⟨_, rfl, ?_⟩
   replace hs17 := St.back [_, _] hs17
   skip
   refine WL.al hs17 Tryz.zeroValue31 rfl rfl (fun b22 _ hs23 => WL.st tbk hs23 0 rfl rfl (fun _ hs24 => WL.nil (WC.seq (fun K25 hK25 => WC.r1 hs24 [] rfl (WC.block ?_)))))
   have hM30 := (St.grp1 (L1 := L1_19) [_] ((((hs24.fb b2).fb b4).fr L1_19).fb b22))
   refine WC.lV [1, 2, 3, 4, 8, 9, 29, 34, 41] rfl hM30 (fun k_ (a_ : Hp) f => ∃ (a : Nat) (r : GridR) (L28 : Hp), k_ = (bot - top + 1).toNat - a ∧ a_ = [(b22, .cells (List.toArray [i64 r.W, i64 r.H, .slice r.Cells.A r.Cells.n r.Cells.c]) 31 (0, 0))] ++ L28 ∧ (top + (a : Int) ≤ bot + 1) ∧ (r.W = g.W ∧ r.H = g.H ∧ r.Cells.xs.length = g.Cells.xs.length) ∧ (∀ k, k < g.Cells.xs.length → cat r.Cells.xs k = partF g.dat (rollF g.dat top bot (max (min n g.H) (-g.H))) (top.toNat * g.W.toNat) (a * g.W.toNat) k) ∧ ownGridR r L28 ∧ Sub [(10, .int .i64 (top + a))] f) (((fun (a : Nat) => (bot - top + 1).toNat - a) (0))) ?_ ?_
   ·refine ⟨0, r18, L1_19, rfl, rfl, ?_, ?_, ?_, ho20, ⟨?_, trivial⟩⟩
    · omega
    · exact ⟨congrArg GridD.W hd21, congrArg GridD.H hd21, congrArg (fun d : GridD => d.Cells.length) hd21⟩
    · intro k hk; rw [Nat.zero_mul, partF_zero]; exact congrArg (fun d : GridD => cat d.Cells k) hd21
    · (refine congrArg some (congrArg (Value.int _) ?_); omega)
   rintro _ _ f w ⟨a, r, L28, rfl, rfl, p0, p1, p2, ho29, hG⟩ hF hs31
   refine WC.sub _ (hG.app hF) ?_
   clear hG hF
   replace hs31 := St.ungrp1 [_] hs31
   have hs32 := (((hs31.fb b2).fb b4).fb b22)
   have hsmr : smGrid 549755813888 r.dat := by show r.Cells.xs.length ≤ 549755813888; omega
   refine WC.seq (fun K33 hK33 => WC.r1 hs32 [] rfl ?_)
   refine WC.cq rfl (fun h34 qh34 => ?_) (fun h34 qh34 => ?_)
   ·refine WC.skip (hK33 _ _ (WC.seq (fun K35 hK35 => WC.block (WC.r1 hs32 [] rfl (WC.block ?_)))))
    have hM40 := (St.grp1 (L1 := L28) [_] ((((hs32.fb b2).fb b4).fr L28).fb b22))
    refine WC.lV [1, 2, 3, 4, 8, 9, 10, 29, 34, 41, 48, 49, 50] rfl hM40 (fun k_ (a_ : Hp) f => ∃ (c : Nat) (r : GridR) (L38 : Hp), k_ = g.W.toNat - c ∧ a_ = [(b22, .cells (List.toArray [i64 r.W, i64 r.H, .slice r.Cells.A r.Cells.n r.Cells.c]) 31 (0, 0))] ++ L38 ∧ ((c : Int) ≤ g.W) ∧ (r.W = g.W ∧ r.H = g.H ∧ r.Cells.xs.length = g.Cells.xs.length) ∧ (∀ k, k < g.Cells.xs.length → cat r.Cells.xs k = partF g.dat (rollF g.dat top bot (max (min n g.H) (-g.H))) (top.toNat * g.W.toNat) (a * g.W.toNat + c) k) ∧ ownGridR r L38 ∧ Sub [(11, .int .i64 c)] f) (((fun (c : Nat) => g.W.toNat - c) (0))) ?_ ?_
    ·refine ⟨0, r, L28, rfl, rfl, ?_, ?_, ?_, ho29, ⟨rfl, trivial⟩⟩
     · omega
     · exact p1
     · rw [Nat.add_zero]; exact p2
    rintro _ _ f w ⟨c, r, L38, rfl, rfl, q0, q1, q2, ho39, hG⟩ hF hs41
    refine WC.sub _ (hG.app hF) ?_
    clear hG hF
    replace hs41 := St.ungrp1 [_] hs41
    have hs42 := (((hs41.fb b2).fb b4).fb b22)
    have hsmr : smGrid 549755813888 r.dat := by show r.Cells.xs.length ≤ 549755813888; omega
    have hnr := ownGridR.len ‹ownGridR r _›
    refine WC.seq (fun K43 hK43 => WC.r1 hs42 [2] rfl ?_)
    refine WC.cq rfl (fun h44 qh44 => ?_) (fun h44 qh44 => ?_)
    ·have hcw : (c : Int) < g.W := by omega
     have hab : top + (a : Int) ≤ bot := by omega
     have hv0 : 0 ≤ (top + (a : Int)) * g.W := Int.mul_nonneg (by omega) (by omega)
     have hv1 : (top + (a : Int) + 1) * g.W ≤ g.H * g.W := Int.mul_le_mul_of_nonneg_right (by omega) (by omega)
     rw [Int.add_mul _ 1, Int.one_mul, Int.mul_comm g.H g.W] at hv1
     refine WC.skip (hK43 _ _ (WC.seq (fun K45 hK45 => WC.block (WC.seq (fun K46 hK46 => WC.rG 10 (hs42.rm L38) hs42 hs42 (fun _ hs47 => ?_))))))
     refine WG.rn [0, 1, 2, 3, 4, 5, 6, 7] hs47 [0, 2] rfl rfl (WG.o1 8 rfl rfl (WL.cl Tryz.call100 rfl (k22_ _) ?_))
     rintro _ whs48 ⟨rfl, hs48⟩
     replace hs48 := hs47.call0 hs48
     refine ⟨_, rfl, WL.nil ⟨hs48, ?_⟩⟩
     refine WG.tk 9 rfl (by kernel_rfl) rfl rfl rfl hs48 (fun w_ hs_ => (Run.idx Tryz.runUnderlying29 Tryz.sizeOf108 rfl rfl rfl ?_ ?_ ?_)) ?_
     · exact SlF.some_ (ownGridR.ok (B := 549755813888) ho39 ((hs_ : St _ _ _ _).ow L38) hsmr).Cells
     · first | omega | (simp only [List.length_set]; omega)
     · first | omega | (simp only [List.length_set]; omega)
     refine WG.oK rfl (WL.storeF1 (x' := blankC) (hs48.fr L38) ho39 Tryz.sizeOf108 rfl rfl rfl rfl rfl rfl rfl rfl rfl ?_ rfl (fun L49 whs50 hs50 ho51 _ => ?_))
     · first | omega | (simp only [List.length_set]; omega)
     replace hs50 := St.back [_, _, _] hs50
     refine WL.nil ⟨(hs50.rm L49), WH.dn (hK46 _ _ (WC.sr (WL.r 6 hs50 [] rfl ?_)))⟩
     refine WL.pA tbk 5 Acts.nil hs50 [] rfl rfl rfl rfl (fun g_ => by (try simp only [bf, within_iff, within_not] at g_); exact ⟨by omega, trivial⟩) (WL.nil (WC.cq rfl (fun h52 qh52 => ?_) (fun h52 qh52 => ?_)))
     ·have hin : top ≤ top + (a : Int) + (max (min n g.H) (-g.H)) ∧ top + (a : Int) + (max (min n g.H) (-g.H)) ≤ bot := by have h9 := h52; simp at h9; omega
      have hu0 : 0 ≤ (top + (a : Int) + (max (min n g.H) (-g.H))) * g.W := Int.mul_nonneg (by omega) (by omega)
      have hu1 : (top + (a : Int) + (max (min n g.H) (-g.H)) + 1) * g.W ≤ g.H * g.W := Int.mul_le_mul_of_nonneg_right (by omega) (by omega)
      rw [Int.add_mul _ 1, Int.one_mul, Int.mul_comm g.H g.W] at hu1
      refine WC.rG 21 (hs50.rm L49) hs50 hs50 (fun _ hs53 => ?_)
      refine WG.rn [0, 1, 2, 3, 4, 5, 6, 7, 8, 9, 10, 11, 12, 13, 14, 15, 16, 17] hs53 [0, 2, 2, 2] rfl rfl ?_
      refine WG.tk 18 rfl (by kernel_rfl) rfl rfl rfl hs53 (fun w_ hs_ => (Run.idx Tryz.runUnderlying29 Tryz.sizeOf108 rfl rfl rfl ?_ ?_ ?_)) ?_
      · exact SlF.some_ (SlF.st0 f_g.Cells (hs_ : St _ _ _ _))
      · first | omega | (simp only [List.length_set]; omega)
      · first | omega | (simp only [List.length_set]; omega)
      refine WG.tk 19 rfl (by kernel_rfl) rfl rfl rfl hs53 (fun w_ hs_ => (Run.loadA Tryz.isAgg108 Tryz.sizeOf108 rfl rfl (SlF.whole (SlF.st0 f_g.Cells (hs_ : St _ _ _ _)) ?_))) ?_
      · first | omega | (simp only [List.length_set]; omega)
      refine WG.tk 20 rfl (by kernel_rfl) rfl rfl rfl hs53 (fun w_ hs_ => (Run.idx Tryz.runUnderlying29 Tryz.sizeOf108 rfl rfl rfl ?_ ?_ ?_)) ?_
      · exact SlF.some_ (SlF.ofOwn ho51 ((hs_ : St _ _ _ _).ow L49))
      · first | omega | (simp only [List.length_set]; omega)
      · first | omega | (simp only [List.length_set]; omega)
      refine WG.oK rfl (WL.storeF1 (x' := _) (hs53.fr L49) ho51 Tryz.sizeOf108 rfl rfl rfl rfl rfl rfl rfl rfl rfl ?_ rfl (fun L54 whs55 hs55 ho56 _ => ?_))
      · first | omega | (simp only [List.length_set]; omega)
      replace hs55 := St.back [_, _, _] hs55
      refine WL.nil ⟨(hs55.rm L54), WH.dn (hK45 _ _ (WC.region (WL.r 3 hs55 [] rfl (WL.nil (tkN ?_)))))⟩
      have hF57 := (St.grp1 (L1 := L54) [_] ((((hs55.fb b2).fb b4).fr L54).fb b22))
      refine ⟨sbF rfl, _, hF57, _, ?_, c + 1, ⟨r.W, r.H, SlD.of ho56⟩, L54, rfl, rfl, ?_, ?_, ?_, ho56, ⟨rfl, trivial⟩⟩
      · omega
      · omega
      · exact ⟨q1.1, q1.2.1, by simp only [List.length_set]; exact q1.2.2⟩
      · intro k hk; first | (show gat encCell ((r.Cells.xs.set _ _).set _ _) k = _; rw [List.set_set]; exact roll_next (g := g.dat) (i := (top + a) * g.W + c) (by omega) rfl (by show 0 ≤ g.W; omega) (by omega) hcw hab (by rw [if_pos (by have h9 := h52; simp at h9; omega)]; rfl) (q2 k hk)) | exact roll_next (g := g.dat) (i := (top + a) * g.W + c) (by omega) rfl (by show 0 ≤ g.W; omega) (by omega) hcw hab (by rw [if_neg (by have h9 := h52; simp at h9; omega)]) (q2 k hk)
     refine WC.skip (hK45 _ _ (WC.region (WL.r 3 hs50 [] rfl (WL.nil (tkN ?_)))))
     have hF58 := (St.grp1 (L1 := L49) [_] ((((hs50.fb b2).fb b4).fr L49).fb b22))
     refine ⟨sbF rfl, _, hF58, _, ?_, c + 1, ⟨r.W, r.H, SlD.of ho51⟩, L49, rfl, rfl, ?_, ?_, ?_, ho51, ⟨rfl, trivial⟩⟩
     · omega
     · omega
     · exact ⟨q1.1, q1.2.1, by simp only [List.length_set]; exact q1.2.2⟩
     · intro k hk; first | (show gat encCell ((r.Cells.xs.set _ _).set _ _) k = _; rw [List.set_set]; exact roll_next (g := g.dat) (i := (top + a) * g.W + c) (by omega) rfl (by show 0 ≤ g.W; omega) (by omega) hcw hab (by rw [if_pos (by have h9 := h52; simp at h9; omega)]; rfl) (q2 k hk)) | exact roll_next (g := g.dat) (i := (top + a) * g.W + c) (by omega) rfl (by show 0 ≤ g.W; omega) (by omega) hcw hab (by rw [if_neg (by have h9 := h52; simp at h9; omega)]) (q2 k hk)
    refine WC.exit (hK35 _ _ (WC.region (WL.r 3 hs42 [] rfl (WL.nil (tkN ?_)))))
    have hF59 := (St.grp1 (L1 := L38) [_] ((((hs42.fb b2).fb b4).fr L38).fb b22))
    refine ⟨sbF rfl, _, hF59, _, ?_, a + 1, r, L38, rfl, rfl, ?_, ?_, ?_, ho39, ⟨?_, trivial⟩⟩
    · omega
    · omega
    · exact q1
    · intro k hk; rw [q2 k hk, show c = g.W.toNat by omega, Nat.add_mul, Nat.one_mul]
    · (refine congrArg some (congrArg (Value.int _) ?_); omega)
   refine WC.exit (hK25 _ _ (WC.sr (WL.r 1 hs32 [0] rfl (WL.st tbk hs32 1 rfl rfl (fun _ hs60 => WL.nil (WC.ret (retV1 rfl (resV.cellA tbk hs60 1 rfl rfl rfl rfl) ?_)))))))
   refine ⟨r, _, rfl, (St.keep1 (hs60.fr L28)), ?_, ?_⟩
   · exact ho29
   · exact roll_done hg ht.1 ht.2.1 ht.2.2 (m := (max (min n g.H) (-g.H))) (by omega) p1.1 p1.2.1 p1.2.2 (by show n = _ ∨ (g.H ≤ n ∧ g.H ≤ _ ∨ n ≤ -g.H ∧ _ ≤ -g.H); omega) p2
  refine WC.cq rfl (fun h61 qh61 => ?_) (fun h61 qh61 => ?_)
  ·refine WC.region (WL.r 4 hs11 [1] rfl (WL.nil ?_))
   exact hJ14 _ _ ⟨(congrArg some (congrArg (Value.int .i64) (by omega))), rfl, rfl, rfl, rfl, rfl, rfl, rfl, trivial⟩ hs11
  refine WC.skip ?_
  exact hJ14 _ _ ⟨(congrArg some (congrArg (Value.int .i64) (by omega))), rfl, rfl, rfl, rfl, rfl, rfl, rfl, trivial⟩ hs11
 refine WC.cq rfl (fun h62 qh62 => ?_) (fun h62 qh62 => ?_)
 ·refine WC.region (WL.r 3 hs7 [1] rfl (WL.nil ?_))
  exact hJ10 _ _ ⟨(congrArg some (congrArg (Value.int .i64) (by omega))), rfl, rfl, rfl, rfl, rfl, rfl, trivial⟩ hs7
 refine WC.skip ?_
 exact hJ10 _ _ ⟨(congrArg some (congrArg (Value.int .i64) (by omega))), rfl, rfl, rfl, rfl, rfl, rfl, trivial⟩ hs7
theorem k52_ (s : ScrR) (w : World) (f_s : okScrR 549755813888 w s) :
    Calls Tryz.prog 92 #[.agg (cScr s).toArray] w fun e w' => e = .returned (.agg #[i64 (shownR s).W, i64 (shownR s).H, .slice (shownR s).Cells.A (shownR s).Cells.n (shownR s).Cells.c]) ∧ St w [] [] w' := by
 have nb_s_Main_Cells := f_s.Main.Cells_n
 have nl_s_Main_Cells := f_s.Main.Cells.len
 have nb_s_Alt_Cells := f_s.Alt.Cells_n
 have nl_s_Alt_Cells := f_s.Alt.Cells.len
 have nb_s_Tabs := f_s.Tabs_n
 have nl_s_Tabs := f_s.Tabs.len
 have nb_s_Back := f_s.Back_n
 have nl_s_Back := f_s.Back.sl.len
 refine enter 9 Tryz.func92 rfl Tryz.ntmps92 rfl rfl ?_
 have hs1 := St.init w
 refine WC.sr (WL.bx hs1 rfl (fun b2 _ hs3 => WL.al hs3 Tryz.zeroValue31 rfl rfl (fun b4 _ hs5 => WL.nil (WC.seq (fun K6 hK6 => WC.r1 hs5 [1] rfl ?_)))))
 refine WC.cq rfl (fun h7 qh7 => ?_) (fun h7 qh7 => ?_)
 ·refine WC.sr (WL.r 2 hs5 [1] rfl (WL.st tbk hs5 0 rfl rfl (fun _ hs8 => WL.nil (WC.ret (tkR ?_)))))
  clear hK6
  refine retV1 rfl (resV.cellA tbk hs8 0 rfl rfl rfl rfl) (⟨congrArg Ending.returned ?_, hs8.nil⟩)
  rw [shownR_alt (by have h9 := h7; simpa using h9)]
 refine WC.skip (hK6 _ _ (WC.sr (WL.r 2 hs5 [1] rfl (WL.st tbk hs5 0 rfl rfl (fun _ hs9 => WL.nil (WC.ret (retV1 rfl (resV.cellA tbk hs9 0 rfl rfl rfl rfl) ?_)))))))
 refine ⟨congrArg Ending.returned ?_, hs9.nil⟩
 rw [shownR_main (by have h9 := h7; simpa using h9)]
theorem k53_ (s : ScrR) (L_s : Hp) (g : GridR) (L_g : Hp) (w : World) (o_s : ownScrR s L_s) (h_s : Hh w L_s) (o_g : ownGridR g L_g) (h_g : Hh w L_g) (hd_ : ((L_s ++ L_g).map (·.1)).Nodup) :
    Calls Tryz.prog 90 #[.agg (cScr s).toArray, .agg #[i64 g.W, i64 g.H, .slice g.Cells.A g.Cells.n g.Cells.c]] w fun e w' => ∃ r L1, e = .returned (.agg (cScr r).toArray) ∧ St w ((L_s ++ L_g).map (·.1)) L1 w' ∧ ownScrR r L1 ∧ r.dat = putD s.dat g.dat := by
 refine enter 12 Tryz.func90 rfl Tryz.ntmps90 rfl rfl ?_
 have hs1 := St.takes2 w L_s L_g h_s h_g hd_
 refine WC.sr (WL.bx hs1 rfl (fun b2 _ hs3 => WL.bx hs3 rfl (fun b4 _ hs5 => WL.al hs5 Tryz.zeroValue34 rfl rfl (fun b6 _ hs7 => WL.nil (WC.seq (fun K8 hK8 => WC.r1 hs7 [2] rfl ?_))))))
 refine WC.cq rfl (fun h9 qh9 => ?_) (fun h9 qh9 => ?_)
 ·refine WC.region (WL.r 2 hs7 [1] rfl (WL.st tbk hs7 2 rfl rfl (fun _ hs10 => WL.nil (hK8 _ _ (WC.sr (WL.r 1 hs10 [2] rfl (WL.st tbk hs10 0 rfl rfl (fun _ hs11 => ?_))))))))
  refine WL.nil (WC.ret (retV1 rfl (resV.cellA tbk hs11 0 rfl rfl rfl rfl) ?_))
  obtain ⟨L12, L13, L14, L15, hs20, ho16, ho17, ho18, ho19⟩ := ownScrR.op hs11 o_s
  have hs21 := (((hs20.fb b2).fb b4).fb b6)
  obtain ⟨L23, hs22, ho24⟩ := ownScrR.fl hs21 ho16 o_g ho18 ho19
  have hs25 := (((hs22.fb b2).fb b4).fb b6)
  refine ownScrR.ret rfl (St.keep1 (hs25.fr L23)) ho24 ?_
  · rw [putD, if_pos (show s.dat.OnAlt = true from by show s.OnAlt = true; have h9 := h9; simpa using h9)]; rfl
 refine WC.region (WL.r 2 hs7 [1] rfl (WL.st tbk hs7 2 rfl rfl (fun _ hs26 => WL.nil (hK8 _ _ (WC.sr (WL.r 1 hs26 [2] rfl (WL.st tbk hs26 0 rfl rfl (fun _ hs27 => ?_))))))))
 refine WL.nil (WC.ret (retV1 rfl (resV.cellA tbk hs27 0 rfl rfl rfl rfl) ?_))
 obtain ⟨L28, L29, L30, L31, hs36, ho32, ho33, ho34, ho35⟩ := ownScrR.op hs27 o_s
 have hs37 := (((hs36.fb b2).fb b4).fb b6)
 obtain ⟨L39, hs38, ho40⟩ := ownScrR.fl hs37 o_g ho33 ho34 ho35
 have hs41 := (((hs38.fb b2).fb b4).fb b6)
 refine ownScrR.ret rfl (St.keep1 (hs41.fr L39)) ho40 ?_
 · rw [putD, if_neg (show ¬ s.dat.OnAlt = true from by show ¬ s.OnAlt = true; have h9 := h9; simpa using h9)]; rfl
theorem k54_ (v_s : Value) (s : List RowR) (L_s : Hp) (i : Int) (j : Int) (w : World) (o_s : OwnN encRowR ownRowR 93 v_s s L_s) (h_s : Hh w L_s) (hd_ : ((L_s).map (·.1)).Nodup) (hi : i = 0) (hj : 0 < j ∧ j ≤ s.length) (hn : s.length ≤ 549755813888) :
    Calls Tryz.prog 165 #[v_s, i64 i, i64 j] w fun e w' => ∃ A c n xs L1, e = .returned (.slice A n c) ∧ St w (L_s.map (·.1)) L1 w' ∧ OwnN encRowR ownRowR 93 (.slice A n c) xs L1 ∧ xs = s.drop j.toNat := by
 obtain ⟨A_s, c_s, rfl⟩ := o_s.shape
 refine enter 33 Tryz.func165 rfl Tryz.ntmps165 rfl rfl ?_
 have hs1 := St.takes1 w L_s h_s hd_
 refine WC.r1 hs1 [] rfl (WC.sr (WL.r 5 hs1 [] rfl ?_))
 have hc_ := OwnN.cap o_s
 refine WL.val rfl rfl rfl (Run.slice3 0 j.toNat s.length Tryz.runUnderlying32 Tryz.sizeOf93 rfl rfl rfl rfl rfl ?_ ?_ ?_ ?_) ?_
 · omega
 · omega
 · rfl
 · omega
 refine WL.nil (WC.seq (fun K2 hK2 => WC.r1 hs1 [] rfl ?_))
 refine WC.cq rfl (fun h3 qh3 => ?_) (fun h3 qh3 => ?_)
 ·exfalso; omega
 refine WC.skip (hK2 _ _ (WC.sr ?_))
 obtain ⟨L4, L5, hs8, ho6, ho7⟩ := OwnN.open_ hs1 o_s
 refine WL.r 3 hs8 [] rfl (WL.nil (WC.seq (fun K9 hK9 => WC.rH (hs8.rm L4) hs8 (fun _ hs10 => ?_))))
 refine WH.rn [0, 1] (hs10.rm L4) [] rfl rfl ?_
 refine WH.take 2 rfl (by kernel_rfl) rfl rfl rfl (hs10.rm L4) (fun w_ hs_ => (Run.sliceH0 0 Tryz.runUnderlying32 Tryz.sizeOf93 rfl rfl rfl ?_ ?_)) ?_
 · exact hi
 · exact Nat.zero_le _
 refine WH.rn [3, 4] (hs10.rm L4) [] rfl rfl ?_
 have hc_ := OwnF.cap ho6
 refine WH.take 5 rfl (by kernel_rfl) rfl rfl rfl (hs10.rm L4) (fun w_ hs_ => (Run.sliceL (j.toNat) Tryz.runUnderlying32 Tryz.sizeOf93 rfl rfl rfl ?_ ?_)) ?_
 · first | rfl | (omega)
 · refine ⟨?_, ?_, ?_⟩ <;> (omega)
 refine WH.o1 6 rfl ?_
 refine WL.appendR hs10 (OwnF.take (k := 0) ho6 (Nat.zero_le _)) (SlF.src (SlF.cutL (j.toNat) (SlF.ofOwn ho6 (hs10.ow L4)) (by refine ⟨?_, ?_, ?_⟩ <;> (omega))) Tryz.underlying32) Tryz.underlying32 inf93 rfl rfl rfl rfl rfl rfl rfl ?_ ?_ (fun L11 whs12 hs12 ho13 => ?_)
 · rw [List.length_drop]; omega
 · omega
 have hdl : 0 + (s.drop j.toNat).length = s.length - j.toNat := by rw [List.length_drop]; omega
 rw [hdl, List.take_zero, List.nil_append] at ho13
 rw [hdl]
 refine WL.nil ⟨(hs12.rm L11), WH.rn [7] (hs12.rm L11) [] rfl rfl (WH.dn (hK9 _ _ (WC.sr (WL.r 4 hs12 [] rfl ?_))))⟩
 refine WL.val rfl rfl rfl (Run.sliceT (s.length - j.toNat) s.length Tryz.runUnderlying32 Tryz.sizeOf93 rfl rfl rfl rfl ?_ ?_ ?_) ?_
 · omega
 · omega
 · omega
 refine WL.clearT hs12 ho13 Tryz.underlying32 Tryz.zeroValue93 rfl rfl rfl rfl rfl ?_ (fun L14 whs15 hs15 ho16 => ?_)
 · omega
 refine WL.nil (WC.r1 hs15 [] rfl (WC.ret (retV1 rfl (resV.tmp rfl) ?_)))
 obtain ⟨L17, hs18, ho19⟩ := OwnN.foldD ((hs15.fr L5).fr L14) ho16 ho7
 exact ⟨_, _, _, _, _, rfl, St.keep1 hs18, ho19, rfl⟩
theorem k55_ (s : ScrR) (L_s : Hp) (y : Nat) (w : World) (o_s : ownScrR s L_s) (h_s : Hh w L_s) (hd_ : ((L_s).map (·.1)).Nodup) (hm : gridOk s.Main.dat = true) (hW : s.W = s.Main.W) (hlim : 0 ≤ s.Limit ∧ s.Limit ≤ 1048576) (hb : (s.Back.xs.length : Int) ≤ s.Limit) (hn : (y : Int) < s.Main.H) (hsmB : smScr 549755813888 s.dat) :
    Calls Tryz.prog 155 #[.agg (cScr s).toArray, .int .i64 y] w fun e w' => ∃ r L1, e = .returned (.agg (cScr r).toArray) ∧ St w ((L_s).map (·.1)) L1 w' ∧ ownScrR r L1 ∧ r.dat = keepOne s.dat y := by
 have hgb : (1 ≤ s.Main.W ∧ s.Main.W ≤ 120) ∧ (1 ≤ s.Main.H ∧ s.Main.H ≤ 120) ∧ 1 ≤ s.Main.W * s.Main.H ∧ s.Main.W * s.Main.H ≤ 4000 := gridOk_bnd hm
 have hgl : (s.Main.Cells.xs.length : Int) = s.Main.W * s.Main.H := by have h_ := hm; unfold gridOk at h_; rw [Bool.and_eq_true, Bool.and_eq_true, decide_eq_true_eq] at h_; exact h_.1.2
 obtain ⟨⟨hrn1, hrn2⟩, _, _, hrn3, hrn4⟩ := ownScrR.lens o_s
 have hv0 : 0 ≤ (y : Int) * s.W := Int.mul_nonneg (by omega) (by omega)
 have hv1 : ((y : Int) + 1) * s.W = (y : Int) * s.W + s.W := by rw [Int.add_mul, Int.one_mul]
 have hv2 : ((y : Int) + 1) * s.W ≤ s.Main.H * s.Main.W := by rw [hW]; exact Int.mul_le_mul_of_nonneg_right (by omega) (by omega)
 rw [Int.mul_comm s.Main.H] at hv2
 have hrow : (RowD.mk ((s.Main.Cells.xs.drop ((y : Int) * s.W).toNat).take ((((y : Int) * s.W) + s.W).toNat - ((y : Int) * s.W).toNat))) = rowAt s.dat.Main y := by
   have e1 : ((y : Int) * s.W).toNat = y * s.Main.W.toNat := by rw [hW]; exact toNat_mul_nat (by omega)
   have e2 : (((y : Int) * s.W) + s.W).toNat - y * s.Main.W.toNat = s.Main.W.toNat := by rw [← e1]; omega
   rw [e1, e2]; rfl
 refine enter 45 Tryz.func155 rfl Tryz.ntmps155 rfl rfl ?_
 have hs1 := St.takes1 w L_s h_s hd_
 refine WC.sr (WL.bx hs1 rfl (fun b2 _ hs3 => WL.al hs3 Tryz.zeroValue34 rfl rfl (fun b4 _ hs5 => WL.nil (WC.seq (fun K6 hK6 => WC.rG 23 ((hs5.fb b2).d1.rm L_s) (hs5.rm L_s) hs5 (fun _ hs7 => ?_))))))
 refine WG.rn [0, 1, 3, 4, 5, 6, 7, 8, 9, 10, 11, 12, 13, 14, 15, 16] (hs7.rm L_s) [1, 1, 1, 1, 1] rfl rfl ?_ (hS := ⟨by (first | omega | (simp only [List.length_append, List.length_singleton] at *; omega)), rfl, by (first | omega | (simp only [List.length_append, List.length_singleton] at *; omega)), rfl, by (first | omega | (simp only [List.length_append, List.length_singleton] at *; omega)), rfl, rfl, rfl, trivial⟩)
 refine WG.tk 17 rfl (by kernel_rfl) rfl rfl rfl (hs7.rm L_s) (fun w_ hs_ => (Run.sliceLH (((y : Int) * s.W).toNat) (((y : Int) * s.W + s.W).toNat) Tryz.runUnderlying29 Tryz.sizeOf108 rfl rfl rfl rfl ?_ ?_ ?_)) ?_
 · first | rfl | (first | omega | (simp only [List.length_append, List.length_singleton] at *; omega))
 · first | rfl | (first | omega | (simp only [List.length_append, List.length_singleton] at *; omega))
 · refine ⟨?_, ?_, ?_⟩ <;> (first | omega | (simp only [List.length_append, List.length_singleton] at *; omega))
 refine WG.o1 2 rfl rfl (WL.buildF (F := encCell) hs7 ([]) Tryz.runUnderlying29 Tryz.sizeOf108 Tryz.zeroValue108 rfl rfl rfl rfl rfl rfl rfl rfl rfl rfl rfl rfl (fun A11 c12 L8 whs9 hs9 ho10 => ?_))
 replace hs9 := St.back [_, _] hs9
 refine WL.nil ⟨((hs9.rm L8).rm L_s), WG.o1 18 rfl rfl ?_⟩
 refine WL.appendG (hs9.fr L8) ho10 (SlF.src (SlF.cutC (lo := ((y : Int) * s.W).toNat) (hi := ((y : Int) * s.W + s.W).toNat) (ownScrR.ok (B := 549755813888) o_s (hs9.ow L_s) (by assumption)).Main.Cells (by refine ⟨?_, ?_, ?_⟩ <;> (first | omega | (simp only [List.length_append, List.length_singleton] at *; omega)))) Tryz.underlying29) Tryz.underlying29 inf108 rfl rfl rfl rfl rfl rfl rfl rfl rfl rfl ?_ (fun A16 c17 L13 whs14 hs14 ho15 => ?_)
 · (try simp only [List.length_append, List.length_take, List.length_drop, List.length_nil, List.nil_append, List.length_singleton]); omega
 replace hs14 := St.back [_, _] hs14
 refine WL.nil ⟨((hs14.rm L13).rm L_s), ?_⟩
 refine WG.tk 19 rfl (by kernel_rfl) rfl rfl rfl ((hs14.rm L13).rm L_s) (fun w_ hs_ => (Run.build rfl rfl rfl rfl (built_93_0 _ _ _))) ?_
 refine WG.o1 20 rfl rfl (WL.buildSlice hs14 Tryz.runUnderlying32 Tryz.sizeOf93 Tryz.zeroValue93 rfl rfl rfl rfl rfl rfl rfl rfl rfl rfl (fun b18 whs19 hs19 => WL.nil ⟨((hs19.d1.rm L13).rm L_s), WG.o1 21 rfl rfl ?_⟩))
 obtain ⟨L20, L21, L22, L23, hs28, ho24, ho25, ho26, ho27⟩ := ownScrR.op hs19 o_s
 have hs29 := (((hs28.fb b2).fb b4).fb b18)
 obtain ⟨L30, L31, hs34, ho32, ho33⟩ := OwnN.open_ (hs29.fr L23) ho27
 have hs35 := (((hs34.fb b2).fb b4).fb b18)
 refine WL.appendG (hs35.fr L30) ho32 (srcF (F := encRowR) (ys := [(⟨SlD.of ho15⟩ : RowR)]) Tryz.underlying32 rfl rfl (hs35.own _ (nthL_mem (i := 0) rfl)).1) Tryz.underlying32 inf93 rfl rfl rfl rfl rfl rfl rfl rfl rfl rfl ?_ (fun A39 c40 L36 whs37 hs37 ho38 => ?_)
 · (try simp only [List.length_append, List.length_take, List.length_drop, List.length_nil, List.nil_append, List.length_singleton]); omega
 replace hs37 := St.back [_, _, _] hs37
 obtain ⟨L41, hs42, hb43⟩ := Bag.put (x := (⟨SlD.of ho15⟩ : RowR)) ((hs37.fr L13).fr L31) ho33 ho15
 have hs44 := (((hs42.fb b2).fb b4).fb b18)
 obtain ⟨L46, hs45, ho47⟩ := OwnN.fold ((hs44.fr L41).fr L36) ho38 hb43
 have hs48 := (((hs45.fb b2).fb b4).fb b18)
 refine WL.nil ⟨((((hs48.d1.rm L46).rm L20).rm L21).rm L22), WG.rn [22] ((((hs48.d1.rm L46).rm L20).rm L21).rm L22) [] rfl rfl (WG.oK rfl (WL.st tbk hs48 2 rfl rfl (fun _ hs49 => WL.nil ⟨(((((hs49.d1.fb b2).d1.rm L46).rm L20).rm L21).rm L22), WH.dn (hK6 _ _ (WC.seq (fun K50 hK50 => ?_)))⟩)))⟩
 refine WC.r1 hs49 [2, 2] rfl (WC.cD rfl (fun qh51 => ?_) (fun qh51 => ?_))
 ·refine WC.region ?_
  refine WL.run tbk 8 hs49 [2, 2, 2] rfl ⟨by first | omega | (simp only [List.length_append, List.length_singleton] at *; omega), rfl, rfl, rfl, trivial⟩ ?_
  have hcN := OwnN.cap ho47
  have hlN := OwnN.len_ ho47
  refine WL.val rfl rfl rfl (Run.sliceL (s.Back.xs.length + 1 - s.Limit.toNat) Tryz.runUnderlying32 Tryz.sizeOf93 rfl rfl rfl ?_ ?_) ?_
  · first | omega | (simp only [List.length_append, List.length_singleton] at *; omega)
  · refine ⟨?_, ?_, ?_⟩ <;> (first | omega | (simp only [List.length_append, List.length_singleton] at *; omega))
  obtain ⟨L52, hs53, ho54⟩ := OwnN.dropE (k := s.Back.xs.length + 1 - s.Limit.toNat) ho47 (by first | omega | (simp only [List.length_append, List.length_singleton] at *; omega)) (hs49.fr L46)
  have hs55 := (((hs53.fb b2).fb b4).fb b18)
  refine WL.r 1 hs55 [] rfl (WL.st tbk hs55 2 rfl rfl (fun _ hs56 => WL.nil (hK50 _ _ (WC.sr (WL.r 1 hs56 [2] rfl (WL.st tbk hs56 1 rfl rfl (fun _ hs57 => WL.nil ?_)))))))
  refine WC.ret (retV1 rfl (resV.cellA tbk hs57 1 rfl rfl rfl rfl) ?_)
  obtain ⟨L59, hs58, ho60⟩ := ownScrR.fl hs57 ho24 ho25 ho26 ho54
  have hs61 := (((hs58.fb b2).fb b4).fb b18)
  refine ownScrR.ret rfl (St.keep1 (hs61.fr L59)) ho60 ?_
  · rw [← keepOne_drop (k := s.Back.xs.length + 1 - s.Limit.toNat) (by show _ = (s.Back.xs.map RowR.dat).length + 1 - s.Limit.toNat; rw [List.length_map]), ← hrow]; simp only [ScrR.dat, List.map_drop, List.map_append]; rfl
 refine WC.skip (hK50 _ _ (WC.sr (WL.r 1 hs49 [2] rfl (WL.st tbk hs49 1 rfl rfl (fun _ hs62 => WL.nil (WC.ret (retV1 rfl (resV.cellA tbk hs62 1 rfl rfl rfl rfl) ?_)))))))
 obtain ⟨L64, hs63, ho65⟩ := ownScrR.fl hs62 ho24 ho25 ho26 ho47
 have hs66 := (((hs63.fb b2).fb b4).fb b18)
 refine ownScrR.ret rfl (St.keep1 (hs66.fr L64)) ho65 ?_
 · rw [← keepOne_all (by have h9 := qh51; simp only [List.length_append, List.length_singleton] at h9; show (s.Back.xs.map RowR.dat).length + 1 ≤ s.Limit.toNat; rw [List.length_map]; omega), ← hrow]; simp only [ScrR.dat, List.map_append]; rfl
theorem k56_ (s : ScrR) (L_s : Hp) (n : Int) (w : World) (o_s : ownScrR s L_s) (h_s : Hh w L_s) (hd_ : ((L_s).map (·.1)).Nodup) (hf : ScrFine s.dat) (hn : 0 ≤ n ∧ n ≤ 100000) (hsmB : smScr 549755813888 s.dat) :
    Calls Tryz.prog 128 #[.agg (cScr s).toArray, i64 n] w fun e w' => ∃ r L1, e = .returned (.agg (cScr r).toArray) ∧ St w ((L_s).map (·.1)) L1 w' ∧ ownScrR r L1 ∧ r.dat = rollUpD s.dat n := by
 have hok9 := hf.ok
 obtain ⟨hb1, hb2, hb3, hb4, hb5, hb6⟩ := scrOk_bnd hok9
 obtain ⟨hm, hma⟩ := scrOk_main hok9
 simp only [ScrR.dat, GridR.dat, List.length_map] at hb1 hb2 hb3 hb4 hb5 hb6
 refine enter 43 Tryz.func128 rfl Tryz.ntmps128 rfl rfl ?_
 have hs1 := St.takes1 w L_s h_s hd_
 refine WC.sr (WL.bx hs1 rfl (fun b2 _ hs3 => WL.al hs3 Tryz.zeroValue34 rfl rfl (fun b4 _ hs5 => WL.nil (WC.seq (fun K6 hK6 => WC.r1 hs5 [] rfl (WC.block ?_))))))
 have hM11 := (St.grp1 (L1 := L_s) [_] ((hs5.fr L_s).fb b2))
 refine WC.lV [1, 2, 4] rfl hM11 (fun k_ (a_ : Hp) f => ∃ (i : Nat) (r : ScrR) (L9 : Hp), k_ = (min n (s.Bot + 1)).toNat - i ∧ a_ = [(b2, .cells (List.toArray (cScr r)) 34 (0, 0))] ++ L9 ∧ ((i : Int) ≤ min n (s.Bot + 1)) ∧ (r.dat = keepRows s.dat i) ∧ (¬ (s.OnAlt = false ∧ s.Top = 0) → i = 0) ∧ ownScrR r L9 ∧ Sub [(5, .int .i64 i)] f) (((fun (i : Nat) => (min n (s.Bot + 1)).toNat - i) (0))) ?_ ?_
 ·refine ⟨0, s, L_s, rfl, rfl, ?_, ?_, ?_, o_s, ⟨rfl, trivial⟩⟩
  · omega
  · rw [keepRows_zero (by show ((s.Back.xs.map RowR.dat).length : Int) ≤ s.Limit; rw [List.length_map]; omega)]
  · exact fun _ => rfl
 rintro _ _ f w ⟨i, r, L9, rfl, rfl, p0, p1, p2, ho10, hG⟩ hF hs12
 refine WC.sub _ (hG.app hF) ?_
 clear hG hF
 replace hs12 := St.ungrp1 [_] hs12
 have hs13 := ((hs12.fb b4).fb b2)
 have hsmr : smScr 549755813888 r.dat := by rw [p1]; exact keepRows_sm hsmB hm (by decide) (by show s.Limit.toNat ≤ _; omega)
 have hrM : r.Main.dat = s.Main.dat := congrArg ScrD.Main p1
 have hrW : r.W = s.W := congrArg ScrD.W p1
 have hrL : r.Limit = s.Limit := congrArg ScrD.Limit p1
 have hrH : r.Main.H = s.Main.H := congrArg GridD.H hrM
 have hrV : r.Main.W = s.Main.W := congrArg GridD.W hrM
 have hrT : r.Top = s.Top := congrArg ScrD.Top p1
 have hrb : r.Bot = s.Bot := congrArg ScrD.Bot p1
 have hrO : r.OnAlt = s.OnAlt := congrArg ScrD.OnAlt p1
 have hrB : (r.Back.xs.length : Int) ≤ s.Limit := by have h9 := congrArg (fun d : ScrD => d.Back.length) p1; simp only [ScrR.dat, keepRows, lastN_len, List.length_map] at h9; omega
 refine WC.seq (fun K14 hK14 => WC.sr (WL.r 4 hs13 [] rfl ?_))
 refine WL.pA tbk 7 Acts.nil hs13 [0, 0] rfl rfl rfl rfl (fun g_ => by (try simp only [bf, within_iff, within_not] at g_); exact ⟨by omega, rfl, rfl, trivial⟩) (WL.r 1 hs13 [] rfl (WL.pA tbk 3 Acts.nil hs13 [0] rfl rfl rfl rfl (fun g_ => ⟨rfl, trivial⟩) (WL.r 1 hs13 [] rfl (WL.pA tbk 3 Acts.nil hs13 [0] rfl rfl rfl rfl (fun g_ => ⟨rfl, trivial⟩) (WL.nil (WC.cq rfl (fun h15 qh15 => ?_) (fun h15 qh15 => ?_)))))))
 ·have hc : s.OnAlt = false ∧ s.Top = 0 := by have h9 := h15; rw [hrO, hrT, hrb] at h9; simp at h9; exact ⟨h9.1.2, h9.2⟩
  have hlt : (i : Int) < min n (s.Bot + 1) := by have h9 := h15; rw [hrO, hrT, hrb] at h9; simp at h9; omega
  refine WC.skip (hK14 _ _ (WC.seq (fun K16 hK16 => WC.block (WC.region (WL.r 2 hs13 [0] rfl ?_)))))
  refine WL.cl Tryz.call155 rfl (k55_ r _ _ _ ho10 (hs13.ow L9) (St.nodupL (hs13.fr L9)) ?_ ?_ ?_ ?_ ?_ ?_) ?_
  iterate 6 first | assumption | rfl | omega | (rw [hrM]; assumption)
  rintro _ whs17 ⟨r18, L1_19, rfl, hs17, ho20, hd21⟩
  replace hs17 := St.lend (hs13.fr L9) hs17
  refine ⟨_, rfl, ?_⟩
  replace hs17 := St.back [_, _] hs17
  refine WL.st tbk hs17 0 rfl rfl (fun _ hs22 => WL.nil (hK16 _ _ (WC.region (WL.r 3 hs22 [] rfl (WL.nil (tkN ?_))))))
  have hF23 := (St.grp1 (L1 := L1_19) [_] (((hs22.fb b4).fr L1_19).fb b2))
  refine ⟨sbF rfl, _, hF23, _, ?_, i + 1, r18, L1_19, rfl, rfl, ?_, ?_, ?_, ho20, ⟨rfl, trivial⟩⟩
  · omega
  · omega
  · rw [hd21, p1]; exact keepOne_succ
  · intro h9; exact absurd hc h9
 have h1 : r.dat = keepD s.dat n := by
   unfold keepD
   by_cases hc : s.OnAlt = false ∧ s.Top = 0
   · rw [if_pos (show s.dat.OnAlt = false ∧ s.dat.Top = 0 from hc), p1]
     have h9 := h15
     rw [hrO, hrT, hrb, hc.1, hc.2] at h9
     simp at h9
     have e9 : i = (min n (s.dat.Bot + 1)).toNat := by show i = (min n (s.Bot + 1)).toNat; omega
     rw [e9]
   · rw [if_neg (show ¬ (s.dat.OnAlt = false ∧ s.dat.Top = 0) from hc), p1, p2 hc]
     exact keepRows_zero (by show ((s.Back.xs.map RowR.dat).length : Int) ≤ s.Limit; rw [List.length_map]; omega)
 have hfr : ScrFine r.dat := by rw [h1]; exact hf.keep
 have hgs : gridOk (shownR r).dat = true := by rw [shownR_dat]; exact hfr.shown.1
 have hts : 0 ≤ r.Top ∧ r.Top ≤ r.Bot ∧ r.Bot < (shownR r).H := by have h9 : (shownR r).H = (shownD r.dat).H := congrArg GridD.H shownR_dat; rw [h9, hfr.shown.2.2]; exact ⟨hfr.reg.1.1, hfr.reg.1.2, hfr.reg.2.1⟩
 refine WC.exit (hK6 _ _ (WC.seq (fun K24 hK24 => WC.rG 10 ((hs13.fb b4).d1.rm L9) (hs13.rm L9) hs13 (fun _ hs25 => ?_))))
 refine WG.rn [0, 1, 3, 4, 5, 6, 7] (hs25.rm L9) [0, 0, 0, 0] rfl rfl (WG.o1 2 rfl rfl (WL.cl Tryz.call92 rfl (k52_ r _ (ownScrR.ok (B := 549755813888) ho10 (hs25.ow L9) hsmr)) ?_))
 rintro _ whs26 ⟨rfl, hs26⟩
 replace hs26 := hs25.call0 hs26
 refine ⟨_, rfl, WL.nil ⟨(hs26.rm L9), WG.o1 8 rfl rfl (WL.cl Tryz.call156 rfl (k51_ (shownR r) _ _ _ _ (okScrR.shown (ownScrR.ok (B := 549755813888) ho10 (hs26.ow L9) hsmr)) ?_ ?_ ?_) ?_)⟩⟩
 iterate 3 first | assumption | rfl | omega | (rw [hrM]; assumption)
 rintro _ whs27 ⟨r28, L1_29, rfl, hs27, ho30, hd31⟩
 replace hs27 := hs26.callF hs27
 refine ⟨_, rfl, ?_⟩
 replace hs27 := St.back [_, _] hs27
 have hgr := hd31
 refine WL.nil ⟨((hs27.rm L1_29).rm L9), WG.o1 9 rfl rfl (WL.cl Tryz.call90 rfl (k53_ r _ r28 _ _ ho10 (hs27.ow L9) ho30 (hs27.ow L1_29) (St.nodupL (St.grp2 (L1 := L9) (L2 := L1_29) [] ((hs27.fr L1_29).fr L9)))) ?_)⟩
 rintro _ whs32 ⟨r33, L1_34, rfl, hs32, ho35, hd36⟩
 replace hs32 := St.lend (St.grp2 (L1 := L9) (L2 := L1_29) [] ((hs27.fr L1_29).fr L9)) hs32
 refine ⟨_, rfl, ?_⟩
 replace hs32 := St.back [_, _] hs32
 refine WL.nil ⟨(hs32.rm L1_34), WG.oK rfl (WL.st tbk hs32 1 rfl rfl (fun _ hs37 => WL.nil ⟨((hs37.fb b4).d1.rm L1_34), WH.dn (hK24 _ _ (WC.ret (retV1 rfl (resV.cellA tbk hs37 1 rfl rfl rfl rfl) ?_)))⟩))⟩
 refine ⟨r33, _, rfl, (St.keep1 (hs37.fr L1_34)), ?_, ?_⟩
 · exact ho35
 · refine hd36.trans ?_; rw [hgr, shownR_dat]; show putD r.dat (gRoll (shownD r.dat) r.Top r.Bot n) = _; rw [hrT, hrb, h1]; rfl
theorem k57_ (s : ScrR) (L_s : Hp) (w : World) (o_s : ownScrR s L_s) (h_s : Hh w L_s) (hd_ : ((L_s).map (·.1)).Nodup) (hf : ScrFine s.dat) (hsmB : smScr 549755813888 s.dat) :
    Calls Tryz.prog 89 #[.agg (cScr s).toArray] w fun e w' => ∃ r L1, e = .returned (.agg (cScr r).toArray) ∧ St w ((L_s).map (·.1)) L1 w' ∧ ownScrR r L1 ∧ r.dat = downD s.dat := by
 have hok9 := hf.ok
 obtain ⟨hb1, hb2, hb3, hb4, hb5, hb6⟩ := scrOk_bnd hok9
 obtain ⟨hm, hma⟩ := scrOk_main hok9
 simp only [ScrR.dat, GridR.dat, List.length_map] at hb1 hb2 hb3 hb4 hb5 hb6
 have hfw : ScrFine (wrapD s.dat false) := hf.wrap0
 refine enter 22 Tryz.func89 rfl Tryz.ntmps89 rfl rfl ?_
 have hs1 := St.takes1 w L_s h_s hd_
 refine WC.sr (WL.bx hs1 rfl (fun b2 _ hs3 => WL.al hs3 Tryz.zeroValue34 rfl rfl (fun b4 _ hs5 => WL.nil (WC.sr (WL.r 1 hs5 [] rfl (WL.st tbk hs5 1 rfl rfl (fun _ hs6 => WL.nil ?_)))))))
 refine WC.seq (fun K7 hK7 => WC.r1 hs6 [1, 1] rfl ?_)
 refine WC.cq rfl (fun h8 qh8 => ?_) (fun h8 qh8 => ?_)
 ·have e1 : s.dat.Y = s.dat.Bot := by show s.Y = s.Bot; have h9 := h8; simpa using h9
  refine WC.sr (WL.r 1 hs6 [1] rfl ?_)
  obtain ⟨L9, L10, L11, L12, hs17, ho13, ho14, ho15, ho16⟩ := ownScrR.op hs6 o_s
  have hs18 := ((hs17.fb b2).fb b4)
  obtain ⟨L20, hs19, ho21⟩ := ownScrR.fl hs18 ho13 ho14 ho15 ho16
  have hs22 := ((hs19.fb b2).fb b4)
  refine WL.cl Tryz.call128 rfl (k56_ ⟨s.W, s.H, ⟨s.Main.W, s.Main.H, SlD.of ho13⟩, ⟨s.Alt.W, s.Alt.H, SlD.of ho14⟩, s.OnAlt, s.X, s.Y, false, ⟨s.A.Fg, s.A.Bg, s.A.Bold, s.A.Under, s.A.Turn⟩, s.Top, s.Bot, s.NoWrap, s.Hide, s.SaveX, s.SaveY, ⟨s.SaveA.Fg, s.SaveA.Bg, s.SaveA.Bold, s.SaveA.Under, s.SaveA.Turn⟩, SlD.of ho15, s.Limit, SlD.ofN ho16⟩ _ _ _ (by exact ho21) (hs22.ow L20) (St.nodupL (hs22.fr L20)) ?_ ?_ ?_) ?_
  iterate 3 first | assumption | rfl | omega | exact hfw
  rintro _ whs23 ⟨r24, L1_25, rfl, hs23, ho26, hd27⟩
  replace hs23 := St.lend (hs22.fr L20) hs23
  refine ⟨_, rfl, ?_⟩
  replace hs23 := St.back [_, _] hs23
  have hd3 := hd27
  refine WL.st tbk hs23 0 rfl rfl (fun _ hs28 => WL.nil (WC.ret (tkR ?_)))
  clear hK7
  refine retV1 rfl (resV.cellA tbk hs28 0 rfl rfl rfl rfl) (⟨r24, _, rfl, (St.keep1 (hs28.fr L1_25)), ?_, ?_⟩)
  · exact ho26
  · unfold downD; first | (rw [if_pos e1, ← rollUp_wrap]; exact hd27) | (rw [if_neg e1, if_pos e2]; rfl) | (rw [if_neg e1, if_neg e2]; rfl)
 have e1 : ¬ s.dat.Y = s.dat.Bot := by show ¬ s.Y = s.Bot; have h9 := h8; simpa using h9
 refine WC.skip (hK7 _ _ (WC.seq (fun K29 hK29 => WC.r1 hs6 [1, 1] rfl ?_)))
 refine WC.cq rfl (fun h30 qh30 => ?_) (fun h30 qh30 => ?_)
 ·have e2 : s.dat.Y < s.dat.H - 1 := by show s.Y < s.H - 1; have h9 := h30; simpa using h9
  refine WC.region (WL.r 4 hs6 [1] rfl (WL.st tbk hs6 1 rfl rfl (fun _ hs31 => WL.nil (hK29 _ _ (WC.sr (WL.r 1 hs31 [1] rfl (WL.st tbk hs31 0 rfl rfl (fun _ hs32 => ?_))))))))
  refine WL.nil (WC.ret (retV1 rfl (resV.cellA tbk hs32 0 rfl rfl rfl rfl) ?_))
  obtain ⟨L33, L34, L35, L36, hs41, ho37, ho38, ho39, ho40⟩ := ownScrR.op hs32 o_s
  have hs42 := ((hs41.fb b2).fb b4)
  obtain ⟨L44, hs43, ho45⟩ := ownScrR.fl hs42 ho37 ho38 ho39 ho40
  have hs46 := ((hs43.fb b2).fb b4)
  refine ownScrR.ret rfl (St.keep1 (hs46.fr L44)) ho45 ?_
  · unfold downD; first | (rw [if_pos e1, ← rollUp_wrap]; exact rfl) | (rw [if_neg e1, if_pos e2]; rfl) | (rw [if_neg e1, if_neg e2]; rfl)
 have e2 : ¬ s.dat.Y < s.dat.H - 1 := by show ¬ s.Y < s.H - 1; have h9 := h30; simpa using h9
 refine WC.skip (hK29 _ _ (WC.sr (WL.r 1 hs6 [1] rfl (WL.st tbk hs6 0 rfl rfl (fun _ hs47 => WL.nil (WC.ret (retV1 rfl (resV.cellA tbk hs47 0 rfl rfl rfl rfl) ?_)))))))
 obtain ⟨L48, L49, L50, L51, hs56, ho52, ho53, ho54, ho55⟩ := ownScrR.op hs47 o_s
 have hs57 := ((hs56.fb b2).fb b4)
 obtain ⟨L59, hs58, ho60⟩ := ownScrR.fl hs57 ho52 ho53 ho54 ho55
 have hs61 := ((hs58.fb b2).fb b4)
 refine ownScrR.ret rfl (St.keep1 (hs61.fr L59)) ho60 ?_
 · unfold downD; first | (rw [if_pos e1, ← rollUp_wrap]; exact rfl) | (rw [if_neg e1, if_pos e2]; rfl) | (rw [if_neg e1, if_neg e2]; rfl)
theorem k58_ (s : ScrR) (w : World) (f_s : okScrR 549755813888 w s) (hsm : smScr 1048576 s.dat) :
    Calls Tryz.prog 132 #[.agg (cScr s).toArray] w fun e w' => ∃ r L1, e = .returned (.agg (cScr r).toArray) ∧ St w [] L1 w' ∧ ownScrR r L1 ∧ r.dat = scrDownRes s.dat := by
 have nb_s_Main_Cells := f_s.Main.Cells_n
 have nl_s_Main_Cells := f_s.Main.Cells.len
 have nb_s_Alt_Cells := f_s.Alt.Cells_n
 have nl_s_Alt_Cells := f_s.Alt.Cells.len
 have nb_s_Tabs := f_s.Tabs_n
 have nl_s_Tabs := f_s.Tabs.len
 have nb_s_Back := f_s.Back_n
 have nl_s_Back := f_s.Back.sl.len
 have hsmB : smScr 549755813888 s.dat := by first | assumption | exact smScr_mono hsm (by decide)
 refine enter 10 Tryz.func132 rfl Tryz.ntmps132 rfl rfl ?_
 have hs1 := St.init w
 refine WC.sr (WL.bx hs1 rfl (fun b2 _ hs3 => WL.al hs3 Tryz.zeroValue34 rfl rfl (fun b4 _ hs5 => WL.nil (WC.seq (fun K6 hK6 => WC.sr (WL.r 1 hs5 [1] rfl (WL.cl Tryz.call30 rfl (k43_ s _ (okScrR.st0 f_s hs5)) ?_)))))))
 rintro _ whs7 ⟨rfl, hs7⟩
 replace hs7 := hs5.call0 hs7
 refine ⟨_, rfl, WL.r 1 hs7 [] rfl (WL.nil (WC.cq rfl (fun h8 qh8 => ?_) (fun h8 qh8 => ?_)))⟩
 ·have hk : scrOk s.dat = false := by have h9 := h8; simpa using h9
  refine WC.sr ?_
  refine WL.val rfl rfl rfl (Run.build rfl rfl rfl rfl (built_34)) (WL.st tbk hs7 0 rfl rfl (fun _ hs9 => WL.nil (WC.ret (tkR ?_))))
  clear hK6
  refine retV1 rfl (resV.cellA tbk hs9 0 rfl rfl rfl rfl) ?_
  obtain ⟨L15, hs14, ho16⟩ := ownScrR.fl hs9 (OwnF.nil _ _) (OwnF.nil _ _) (OwnF.nil _ _) (OwnN.nil _ _ _)
  have hs17 := ((hs14.fb b2).fb b4)
  refine ownScrR.ret rfl (St.keep1 (hs17.fr L15)) ho16 ?_
  · unfold scrDownRes; rw [hk]; rfl
 have hk : scrOk s.dat = true := by have h9 := h8; simpa using h9
 have hf := ScrFine.of hk
 refine WC.skip (hK6 _ _ (WC.sr (WL.r 1 hs7 [1] rfl ?_)))
 refine WL.cl Tryz.call50 rfl (k47_ s _ (okScrR.st0 f_s hs7) ?_) ?_
 · first | assumption | rfl | omega | (rw [hk]; assumption)
 rintro _ whs18 ⟨r19, L1_20, rfl, hs18, ho21, hd22⟩
 replace hs18 := hs7.callF hs18
 refine ⟨_, rfl, ?_⟩
 replace hs18 := St.back [_, _] hs18
 have hcp := hd22
 have hfc : ScrFine (ScrR.dat _) := hcp.symm ▸ hf
 refine WL.cl Tryz.call89 rfl (k57_ r19 _ _ ho21 (hs18.ow L1_20) (St.nodupL (hs18.fr L1_20)) ?_ ?_) ?_
 iterate 2 first | assumption | rfl | omega | (rw [hd22]; assumption)
 rintro _ whs23 ⟨r24, L1_25, rfl, hs23, ho26, hd27⟩
 replace hs23 := St.lend (hs18.fr L1_20) hs23
 refine ⟨_, rfl, ?_⟩
 replace hs23 := St.back [_, _] hs23
 refine WL.st tbk hs23 0 rfl rfl (fun _ hs28 => WL.nil (WC.ret (retV1 rfl (resV.cellA tbk hs28 0 rfl rfl rfl rfl) ?_)))
 refine ⟨r24, _, rfl, (St.keep1 (hs28.fr L1_25)), ?_, ?_⟩
 · exact ho26
 · unfold scrDownRes; rw [hk]; exact hd27.trans (by rw [hcp]; rfl)
theorem k59_ (s : ScrR) (w : World) (f_s : okScrR 549755813888 w s) (hsm : smScr 1048576 s.dat) :
    Calls Tryz.prog 133 #[.agg (cScr s).toArray] w fun e w' => ∃ r L1, e = .returned (.agg (cScr r).toArray) ∧ St w [] L1 w' ∧ ownScrR r L1 ∧ r.dat = scrUpRes s.dat := by
 have nb_s_Main_Cells := f_s.Main.Cells_n
 have nl_s_Main_Cells := f_s.Main.Cells.len
 have nb_s_Alt_Cells := f_s.Alt.Cells_n
 have nl_s_Alt_Cells := f_s.Alt.Cells.len
 have nb_s_Tabs := f_s.Tabs_n
 have nl_s_Tabs := f_s.Tabs.len
 have nb_s_Back := f_s.Back_n
 have nl_s_Back := f_s.Back.sl.len
 have hsmB : smScr 549755813888 s.dat := by first | assumption | exact smScr_mono hsm (by decide)
 refine enter 33 Tryz.func133 rfl Tryz.ntmps133 rfl rfl ?_
 have hs1 := St.init w
 refine WC.sr (WL.bx hs1 rfl (fun b2 _ hs3 => WL.al hs3 Tryz.zeroValue34 rfl rfl (fun b4 _ hs5 => WL.nil (WC.seq (fun K6 hK6 => WC.sr (WL.r 1 hs5 [1] rfl (WL.cl Tryz.call30 rfl (k43_ s _ (okScrR.st0 f_s hs5)) ?_)))))))
 rintro _ whs7 ⟨rfl, hs7⟩
 replace hs7 := hs5.call0 hs7
 refine ⟨_, rfl, WL.r 1 hs7 [] rfl (WL.nil (WC.cq rfl (fun h8 qh8 => ?_) (fun h8 qh8 => ?_)))⟩
 ·have hk : scrOk s.dat = false := by have h9 := h8; simpa using h9
  refine WC.sr ?_
  refine WL.val rfl rfl rfl (Run.build rfl rfl rfl rfl (built_34)) (WL.st tbk hs7 0 rfl rfl (fun _ hs9 => WL.nil (WC.ret (tkR ?_))))
  clear hK6
  refine retV1 rfl (resV.cellA tbk hs9 0 rfl rfl rfl rfl) ?_
  obtain ⟨L15, hs14, ho16⟩ := ownScrR.fl hs9 (OwnF.nil _ _) (OwnF.nil _ _) (OwnF.nil _ _) (OwnN.nil _ _ _)
  have hs17 := ((hs14.fb b2).fb b4)
  refine ownScrR.ret rfl (St.keep1 (hs17.fr L15)) ho16 ?_
  · unfold scrUpRes; rw [hk]; rfl
 have hk : scrOk s.dat = true := by have h9 := h8; simpa using h9
 have hf := ScrFine.of hk
 have hgs : gridOk (shownR s).dat = true := by rw [shownR_dat]; exact hf.shown.1
 have hts : 0 ≤ s.Top ∧ s.Top ≤ s.Bot ∧ s.Bot < (shownR s).H := by have h9 : (shownR s).H = (shownD s.dat).H := congrArg GridD.H shownR_dat; rw [h9, hf.shown.2.2]; exact ⟨hf.reg.1.1, hf.reg.1.2, hf.reg.2.1⟩
 have hyb := hf.pos.2
 refine WC.skip (hK6 _ _ (WC.sr (WL.r 1 hs7 [1] rfl ?_)))
 refine WL.cl Tryz.call50 rfl (k47_ s _ (okScrR.st0 f_s hs7) ?_) ?_
 · first | assumption | rfl | omega | (rw [hcp]; assumption)
 rintro _ whs18 ⟨r19, L1_20, rfl, hs18, ho21, hd22⟩
 replace hs18 := hs7.callF hs18
 refine ⟨_, rfl, ?_⟩
 replace hs18 := St.back [_, _] hs18
 have hcp := hd22
 refine WL.al hs18 Tryz.zeroValue34 rfl rfl (fun b23 _ hs24 => WL.st tbk hs24 0 rfl rfl (fun _ hs25 => WL.nil (WC.sr (WL.r 1 hs25 [] rfl (WL.st tbk hs25 0 rfl rfl (fun _ hs26 => WL.nil (WC.seq (fun K27 hK27 => ?_))))))))
 refine WC.r1 hs26 [2, 2] rfl (WC.cq rfl (fun h28 qh28 => ?_) (fun h28 qh28 => ?_))
 ·have e1 : s.dat.Y = s.dat.Top := by show s.Y = s.Top; have h9 := h28; simpa using h9
  refine WC.seq (fun K29 hK29 => WC.rG 9 ((hs26.fb b4).d1.rm L1_20) (hs26.rm L1_20) hs26 (fun _ hs30 => ?_))
  refine WG.rn [0, 1, 3, 4, 5, 6] (hs30.rm L1_20) [0, 2, 2, 2] rfl rfl (WG.o1 2 rfl rfl (WL.cl Tryz.call92 rfl (k52_ s _ (okScrR.st0 f_s hs30)) ?_))
  rintro _ whs31 ⟨rfl, hs31⟩
  replace hs31 := hs30.call0 hs31
  refine ⟨_, rfl, WL.nil ⟨(hs31.rm L1_20), WG.o1 7 rfl rfl (WL.cl Tryz.call156 rfl (k51_ (shownR s) _ _ _ _ (okScrR.shown (okScrR.st0 f_s hs31)) ?_ ?_ ?_) ?_)⟩⟩
  iterate 3 first | assumption | rfl | omega | (rw [hcp]; assumption)
  rintro _ whs32 ⟨r33, L1_34, rfl, hs32, ho35, hd36⟩
  replace hs32 := hs31.callF hs32
  refine ⟨_, rfl, ?_⟩
  replace hs32 := St.back [_, _, _] hs32
  have hgr := hd36
  refine WL.nil ⟨((hs32.rm L1_34).rm L1_20), WG.o1 8 rfl rfl ?_⟩
  obtain ⟨L37, L38, L39, L40, hs45, ho41, ho42, ho43, ho44⟩ := ownScrR.op hs32 ho21
  have hs46 := (((hs45.fb b2).fb b4).fb b23)
  obtain ⟨L48, hs47, ho49⟩ := ownScrR.fl hs46 ho41 ho42 ho43 ho44
  have hs50 := (((hs47.fb b2).fb b4).fb b23)
  refine WL.cl Tryz.call90 rfl (k53_ ⟨r19.W, r19.H, ⟨r19.Main.W, r19.Main.H, SlD.of ho41⟩, ⟨r19.Alt.W, r19.Alt.H, SlD.of ho42⟩, r19.OnAlt, r19.X, r19.Y, false, ⟨r19.A.Fg, r19.A.Bg, r19.A.Bold, r19.A.Under, r19.A.Turn⟩, r19.Top, r19.Bot, r19.NoWrap, r19.Hide, r19.SaveX, r19.SaveY, ⟨r19.SaveA.Fg, r19.SaveA.Bg, r19.SaveA.Bold, r19.SaveA.Under, r19.SaveA.Turn⟩, SlD.of ho43, r19.Limit, SlD.ofN ho44⟩ _ r33 _ _ (by exact ho49) (hs50.ow L48) ho35 (hs50.ow L1_34) (St.nodupL (St.grp2 (L1 := L48) (L2 := L1_34) [] ((hs50.fr L1_34).fr L48)))) ?_
  rintro _ whs51 ⟨r52, L1_53, rfl, hs51, ho54, hd55⟩
  replace hs51 := St.lend (St.grp2 (L1 := L48) (L2 := L1_34) [] ((hs50.fr L1_34).fr L48)) hs51
  refine ⟨_, rfl, ?_⟩
  replace hs51 := St.back [_, _, _] hs51
  have hpt := hd55
  refine WL.nil ⟨(hs51.rm L1_53), WG.oK rfl (WL.st tbk hs51 1 rfl rfl (fun _ hs56 => WL.nil ⟨((hs56.fb b4).d1.rm L1_53), WH.dn (hK29 _ _ (WC.ret (tkR ?_)))⟩))⟩
  clear hK27
  refine retV1 rfl (resV.cellA tbk hs56 1 rfl rfl rfl rfl) (⟨r52, _, rfl, (St.keep1 (hs56.fr L1_53)), ?_, ?_⟩)
  · exact ho54
  · unfold scrUpRes; rw [hk]; show _ = upD s.dat; unfold upD; rw [if_pos e1]; refine hpt.trans ?_; rw [hgr, shownR_dat]; show putD (wrapD (ScrR.dat _) false) _ = _; rw [put_wrap, hcp]; rfl
 have e1 : ¬ s.dat.Y = s.dat.Top := by show ¬ s.Y = s.Top; have h9 := h28; simpa using h9
 refine WC.skip (hK27 _ _ (WC.seq (fun K57 hK57 => WC.r1 hs26 [2] rfl ?_)))
 refine WC.cq rfl (fun h58 qh58 => ?_) (fun h58 qh58 => ?_)
 ·have e2 : s.dat.Y > 0 := by show s.Y > 0; have h9 := h58; simpa using h9
  refine WC.region (WL.run tbk 4 hs26 [0] rfl ⟨?_, rfl, trivial⟩ ?_)
  · (have e9 := congrArg ScrD.Y hcp; simp only [ScrR.dat] at e9 hyb hk; have e8 : s.H ≤ 120 := (isSize_bnd hf.size).2.1.2; constructor <;> omega)
  refine WL.st tbk hs26 0 rfl rfl (fun _ hs59 => WL.nil (hK57 _ _ (WC.sr (WL.r 1 hs59 [0] rfl (WL.st tbk hs59 1 rfl rfl (fun _ hs60 => WL.nil (WC.ret ?_)))))))
  refine retV1 rfl (resV.cellA tbk hs60 1 rfl rfl rfl rfl) ?_
  obtain ⟨L61, L62, L63, L64, hs69, ho65, ho66, ho67, ho68⟩ := ownScrR.op hs60 ho21
  have hs70 := (((hs69.fb b2).fb b4).fb b23)
  obtain ⟨L72, hs71, ho73⟩ := ownScrR.fl hs70 ho65 ho66 ho67 ho68
  have hs74 := (((hs71.fb b2).fb b4).fb b23)
  refine ownScrR.ret rfl (St.keep1 (hs74.fr L72)) ho73 ?_
  · unfold scrUpRes; rw [hk]; show _ = upD s.dat; unfold upD; rw [if_neg e1, if_pos e2, ← hcp]; rfl
 have e2 : ¬ s.dat.Y > 0 := by show ¬ s.Y > 0; have h9 := h58; simpa using h9
 refine WC.skip (hK57 _ _ (WC.sr (WL.r 1 hs26 [0] rfl (WL.st tbk hs26 1 rfl rfl (fun _ hs75 => WL.nil (WC.ret (retV1 rfl (resV.cellA tbk hs75 1 rfl rfl rfl rfl) ?_)))))))
 obtain ⟨L76, L77, L78, L79, hs84, ho80, ho81, ho82, ho83⟩ := ownScrR.op hs75 ho21
 have hs85 := (((hs84.fb b2).fb b4).fb b23)
 obtain ⟨L87, hs86, ho88⟩ := ownScrR.fl hs85 ho80 ho81 ho82 ho83
 have hs89 := (((hs86.fb b2).fb b4).fb b23)
 refine ownScrR.ret rfl (St.keep1 (hs89.fr L87)) ho88 ?_
 · unfold scrUpRes; rw [hk]; show _ = upD s.dat; unfold upD; rw [if_neg e1, if_neg e2, ← hcp]; rfl
theorem k60_ (s : ScrR) (L_s : Hp) (w : World) (o_s : ownScrR s L_s) (h_s : Hh w L_s) (hd_ : ((L_s).map (·.1)).Nodup) :
    Calls Tryz.prog 134 #[.agg (cScr s).toArray] w fun e w' => ∃ r L1, e = .returned (.agg (cScr r).toArray) ∧ St w ((L_s).map (·.1)) L1 w' ∧ ownScrR r L1 ∧ r.dat = saveD s.dat := by
 refine enter 13 Tryz.func134 rfl Tryz.ntmps134 rfl rfl ?_
 have hs1 := St.takes1 w L_s h_s hd_
 refine WC.sr (WL.bx hs1 rfl (fun b2 _ hs3 => WL.al hs3 Tryz.zeroValue34 rfl rfl (fun b4 _ hs5 => WL.nil (WC.sr (WL.r 3 hs5 [1] rfl (WL.st tbk hs5 1 rfl rfl (fun _ hs6 => WL.nil ?_)))))))
 refine WC.sr (WL.r 3 hs6 [1] rfl (WL.st tbk hs6 1 rfl rfl (fun _ hs7 => WL.nil (WC.sr (WL.r 3 hs7 [1] rfl (WL.st tbk hs7 1 rfl rfl (fun _ hs8 => WL.nil ?_)))))))
 refine WC.sr (WL.r 1 hs8 [1] rfl (WL.st tbk hs8 0 rfl rfl (fun _ hs9 => WL.nil (WC.ret (retV1 rfl (resV.cellA tbk hs9 0 rfl rfl rfl rfl) ?_)))))
 obtain ⟨L10, L11, L12, L13, hs18, ho14, ho15, ho16, ho17⟩ := ownScrR.op hs9 o_s
 have hs19 := ((hs18.fb b2).fb b4)
 obtain ⟨L21, hs20, ho22⟩ := ownScrR.fl hs19 ho14 ho15 ho16 ho17
 have hs23 := ((hs20.fb b2).fb b4)
 refine ownScrR.ret rfl (St.keep1 (hs23.fr L21)) ho22 ?_
 · rfl
theorem k61_ (s : ScrR) (L_s : Hp) (w : World) (o_s : ownScrR s L_s) (h_s : Hh w L_s) (hd_ : ((L_s).map (·.1)).Nodup) :
    Calls Tryz.prog 135 #[.agg (cScr s).toArray] w fun e w' => ∃ r L1, e = .returned (.agg (cScr r).toArray) ∧ St w ((L_s).map (·.1)) L1 w' ∧ ownScrR r L1 ∧ r.dat = backD s.dat := by
 refine enter 14 Tryz.func135 rfl Tryz.ntmps135 rfl rfl ?_
 have hs1 := St.takes1 w L_s h_s hd_
 refine WC.sr (WL.bx hs1 rfl (fun b2 _ hs3 => WL.al hs3 Tryz.zeroValue34 rfl rfl (fun b4 _ hs5 => WL.nil (WC.sr (WL.r 3 hs5 [1] rfl (WL.st tbk hs5 1 rfl rfl (fun _ hs6 => WL.nil ?_)))))))
 refine WC.sr (WL.r 3 hs6 [1] rfl (WL.st tbk hs6 1 rfl rfl (fun _ hs7 => WL.nil (WC.sr (WL.r 3 hs7 [1] rfl (WL.st tbk hs7 1 rfl rfl (fun _ hs8 => WL.nil ?_)))))))
 refine WC.sr (WL.r 1 hs8 [] rfl (WL.st tbk hs8 1 rfl rfl (fun _ hs9 => WL.nil (WC.sr (WL.r 1 hs9 [1] rfl (WL.st tbk hs9 0 rfl rfl (fun _ hs10 => WL.nil ?_)))))))
 refine WC.ret (retV1 rfl (resV.cellA tbk hs10 0 rfl rfl rfl rfl) ?_)
 obtain ⟨L11, L12, L13, L14, hs19, ho15, ho16, ho17, ho18⟩ := ownScrR.op hs10 o_s
 have hs20 := ((hs19.fb b2).fb b4)
 obtain ⟨L22, hs21, ho23⟩ := ownScrR.fl hs20 ho15 ho16 ho17 ho18
 have hs24 := ((hs21.fb b2).fb b4)
 refine ownScrR.ret rfl (St.keep1 (hs24.fr L22)) ho23 ?_
 · rfl
theorem k62_ (A_l : Option Addr) (n_l c_l : Nat) (l : List Int) (d : Int) (w : World) (f_l : SlF encI w A_l n_l l) (hn : n_l ≤ 549755813888) :
    Calls Tryz.prog 157 #[.slice A_l n_l c_l, i64 0, i64 d] w fun e w' => e = .returned (i64 (argI l 0 d)) ∧ St w [] [] w' := by
 have hl := f_l.len
 refine enter 22 Tryz.func157 rfl Tryz.ntmps157 rfl rfl ?_
 have hs1 := St.init w
 refine WC.r1 hs1 [] rfl (WC.seq (fun K2 hK2 => WC.r1 hs1 [] rfl ?_))
 refine WC.cq rfl (fun h3 qh3 => ?_) (fun h3 qh3 => ?_)
 ·have hp : ¬ 0 < l.length := by have h9 := h3; simp at h9; omega
  refine WC.r1 hs1 [] rfl (WC.ret (tkR ?_))
  clear hK2
  refine rtv rfl rfl hs1 ?_
  rw [show argI l 0 d = d from by unfold argI; rw [if_neg (by exact fun h => hp h.1)]]
 have hp : 0 < l.length := by have h9 := h3; simp at h9; omega
 refine WC.skip (hK2 _ _ (WC.seq (fun K4 hK4 => WC.sr (WL.r 2 hs1 [] rfl ?_))))
 refine WL.val rfl rfl rfl (Run.idx Tryz.runUnderlying26 Tryz.sizeOf3 rfl rfl rfl ?_ ?_ ?_) ?_
 · exact SlF.some_ (SlF.st0 f_l hs1)
 · omega
 · omega
 refine WL.val rfl rfl rfl (Run.load Tryz.isAgg3 rfl rfl (SlF.one1 (SlF.st0 f_l hs1) ?_ rfl)) ?_
 · omega
 refine WL.r 1 hs1 [] rfl (WL.nil (WC.cq rfl (fun h5 qh5 => ?_) (fun h5 qh5 => ?_)))
 ·have hz : iat l 0 = 0 := by have h9 := h5; simpa using h9
  refine WC.r1 hs1 [] rfl (WC.ret (tkR ?_))
  clear hK4
  refine rtv rfl rfl hs1 ?_
  rw [show argI l 0 d = d from by unfold argI; rw [if_neg (by exact fun h => h.2 hz)]]
 have hz : ¬ iat l 0 = 0 := by have h9 := h5; simpa using h9
 refine WC.skip (hK4 _ _ (WC.sr (WL.r 2 hs1 [] rfl ?_)))
 refine WL.val rfl rfl rfl (Run.idx Tryz.runUnderlying26 Tryz.sizeOf3 rfl rfl rfl ?_ ?_ ?_) ?_
 · exact SlF.some_ (SlF.st0 f_l hs1)
 · omega
 · omega
 refine WL.val rfl rfl rfl (Run.load Tryz.isAgg3 rfl rfl (SlF.one1 (SlF.st0 f_l hs1) ?_ rfl)) ?_
 · omega
 refine WL.r 1 hs1 [] rfl (WL.nil (WC.ret (rtv rfl rfl hs1 ?_)))
 rw [show argI l 0 d = iat l 0 from by unfold argI; rw [if_pos ⟨hp, hz⟩]]; rfl
theorem k63_ (A_l : Option Addr) (n_l c_l : Nat) (l : List Int) (d : Int) (w : World) (f_l : SlF encI w A_l n_l l) (hn : n_l ≤ 549755813888) :
    Calls Tryz.prog 157 #[.slice A_l n_l c_l, i64 1, i64 d] w fun e w' => e = .returned (i64 (argI l 1 d)) ∧ St w [] [] w' := by
 have hl := f_l.len
 refine enter 22 Tryz.func157 rfl Tryz.ntmps157 rfl rfl ?_
 have hs1 := St.init w
 refine WC.r1 hs1 [] rfl (WC.seq (fun K2 hK2 => WC.r1 hs1 [] rfl ?_))
 refine WC.cq rfl (fun h3 qh3 => ?_) (fun h3 qh3 => ?_)
 ·have hp : ¬ 1 < l.length := by have h9 := h3; simp at h9; omega
  refine WC.r1 hs1 [] rfl (WC.ret (tkR ?_))
  clear hK2
  refine rtv rfl rfl hs1 ?_
  rw [show argI l 1 d = d from by unfold argI; rw [if_neg (by exact fun h => hp h.1)]]
 have hp : 1 < l.length := by have h9 := h3; simp at h9; omega
 refine WC.skip (hK2 _ _ (WC.seq (fun K4 hK4 => WC.sr (WL.r 2 hs1 [] rfl ?_))))
 refine WL.val rfl rfl rfl (Run.idx Tryz.runUnderlying26 Tryz.sizeOf3 rfl rfl rfl ?_ ?_ ?_) ?_
 · exact SlF.some_ (SlF.st0 f_l hs1)
 · omega
 · omega
 refine WL.val rfl rfl rfl (Run.load Tryz.isAgg3 rfl rfl (SlF.one1 (SlF.st0 f_l hs1) ?_ rfl)) ?_
 · omega
 refine WL.r 1 hs1 [] rfl (WL.nil (WC.cq rfl (fun h5 qh5 => ?_) (fun h5 qh5 => ?_)))
 ·have hz : iat l 1 = 0 := by have h9 := h5; simpa using h9
  refine WC.r1 hs1 [] rfl (WC.ret (tkR ?_))
  clear hK4
  refine rtv rfl rfl hs1 ?_
  rw [show argI l 1 d = d from by unfold argI; rw [if_neg (by exact fun h => h.2 hz)]]
 have hz : ¬ iat l 1 = 0 := by have h9 := h5; simpa using h9
 refine WC.skip (hK4 _ _ (WC.sr (WL.r 2 hs1 [] rfl ?_)))
 refine WL.val rfl rfl rfl (Run.idx Tryz.runUnderlying26 Tryz.sizeOf3 rfl rfl rfl ?_ ?_ ?_) ?_
 · exact SlF.some_ (SlF.st0 f_l hs1)
 · omega
 · omega
 refine WL.val rfl rfl rfl (Run.load Tryz.isAgg3 rfl rfl (SlF.one1 (SlF.st0 f_l hs1) ?_ rfl)) ?_
 · omega
 refine WL.r 1 hs1 [] rfl (WL.nil (WC.ret (rtv rfl rfl hs1 ?_)))
 rw [show argI l 1 d = iat l 1 from by unfold argI; rw [if_pos ⟨hp, hz⟩]]; rfl
theorem k64_ (s : ScrR) (x : Int) (y : Int) (w : World) (f_s : okScrR 549755813888 w s) (hsm : smScr 1048576 s.dat) :
    Calls Tryz.prog 47 #[.agg (cScr s).toArray, i64 x, i64 y] w fun e w' => ∃ r L1, e = .returned (.agg (cScr r).toArray) ∧ St w [] L1 w' ∧ ownScrR r L1 ∧ r.dat = scrGoRes s.dat x y := by
 have nb_s_Main_Cells := f_s.Main.Cells_n
 have nl_s_Main_Cells := f_s.Main.Cells.len
 have nb_s_Alt_Cells := f_s.Alt.Cells_n
 have nl_s_Alt_Cells := f_s.Alt.Cells.len
 have nb_s_Tabs := f_s.Tabs_n
 have nl_s_Tabs := f_s.Tabs.len
 have nb_s_Back := f_s.Back_n
 have nl_s_Back := f_s.Back.sl.len
 have hsmB : smScr 549755813888 s.dat := by first | assumption | exact smScr_mono hsm (by decide)
 refine enter 28 Tryz.func47 rfl Tryz.ntmps47 rfl rfl ?_
 have hs1 := St.init w
 refine WC.sr (WL.bx hs1 rfl (fun b2 _ hs3 => WL.al hs3 Tryz.zeroValue34 rfl rfl (fun b4 _ hs5 => WL.nil (WC.seq (fun K6 hK6 => WC.sr (WL.r 1 hs5 [1] rfl (WL.cl Tryz.call30 rfl (k43_ s _ (okScrR.st0 f_s hs5)) ?_)))))))
 rintro _ whs7 ⟨rfl, hs7⟩
 replace hs7 := hs5.call0 hs7
 refine ⟨_, rfl, WL.r 1 hs7 [] rfl (WL.nil (WC.cq rfl (fun h8 qh8 => ?_) (fun h8 qh8 => ?_)))⟩
 ·have hk : scrOk s.dat = false := by have h9 := h8; simpa using h9
  refine WC.sr ?_
  refine WL.val rfl rfl rfl (Run.build rfl rfl rfl rfl (built_34)) (WL.st tbk hs7 0 rfl rfl (fun _ hs9 => WL.nil (WC.ret (tkR ?_))))
  clear hK6
  refine retV1 rfl (resV.cellA tbk hs9 0 rfl rfl rfl rfl) ?_
  obtain ⟨L15, hs14, ho16⟩ := ownScrR.fl hs9 (OwnF.nil _ _) (OwnF.nil _ _) (OwnF.nil _ _) (OwnN.nil _ _ _)
  have hs17 := ((hs14.fb b2).fb b4)
  refine ownScrR.ret rfl (St.keep1 (hs17.fr L15)) ho16 ?_
  · unfold scrGoRes; rw [hk]; rfl
 have hk : scrOk s.dat = true := by have h9 := h8; simpa using h9
 have hf := ScrFine.of hk
 have hwh : (1 ≤ s.W ∧ s.W ≤ 120) ∧ 1 ≤ s.H ∧ s.H ≤ 120 := ⟨(isSize_bnd hf.size).1, (isSize_bnd hf.size).2.1⟩
 refine WC.skip (hK6 _ _ (WC.sr (WL.r 1 hs7 [1] rfl ?_)))
 refine WL.cl Tryz.call50 rfl (k47_ s _ (okScrR.st0 f_s hs7) ?_) ?_
 · first | assumption | rfl | omega
 rintro _ whs18 ⟨r19, L1_20, rfl, hs18, ho21, hd22⟩
 replace hs18 := hs7.callF hs18
 refine ⟨_, rfl, ?_⟩
 replace hs18 := St.back [_, _] hs18
 have hcp := hd22
 refine WL.al hs18 Tryz.zeroValue34 rfl rfl (fun b23 _ hs24 => WL.st tbk hs24 0 rfl rfl (fun _ hs25 => WL.nil (WC.sr (WL.r 4 hs25 [2] rfl (WL.cl Tryz.call93 rfl (k50_ _ _ _) ?_)))))
 rintro _ whs26 ⟨rfl, hs26⟩
 replace hs26 := hs25.call0 hs26
 refine ⟨_, rfl, WL.r 1 hs26 [] rfl (WL.st tbk hs26 0 rfl rfl (fun _ hs27 => WL.nil (WC.sr (WL.r 4 hs27 [2] rfl (WL.cl Tryz.call93 rfl (k50_ _ _ _) ?_)))))⟩
 rintro _ whs28 ⟨rfl, hs28⟩
 replace hs28 := hs27.call0 hs28
 refine ⟨_, rfl, WL.r 1 hs28 [] rfl (WL.st tbk hs28 0 rfl rfl (fun _ hs29 => WL.nil (WC.sr (WL.r 1 hs29 [] rfl (WL.st tbk hs29 0 rfl rfl (fun _ hs30 => WL.nil ?_))))))⟩
 refine WC.sr (WL.r 1 hs30 [0] rfl (WL.st tbk hs30 1 rfl rfl (fun _ hs31 => WL.nil (WC.ret (retV1 rfl (resV.cellA tbk hs31 1 rfl rfl rfl rfl) ?_)))))
 obtain ⟨L32, L33, L34, L35, hs40, ho36, ho37, ho38, ho39⟩ := ownScrR.op hs31 ho21
 have hs41 := (((hs40.fb b2).fb b4).fb b23)
 obtain ⟨L43, hs42, ho44⟩ := ownScrR.fl hs41 ho36 ho37 ho38 ho39
 have hs45 := (((hs42.fb b2).fb b4).fb b23)
 refine ownScrR.ret rfl (St.keep1 (hs45.fr L43)) ho44 ?_
 · unfold scrGoRes; rw [if_pos hk, show moveD s.dat x y = { s.dat with X := if x < 0 then 0 else min x (s.W - 1), Y := if y < 0 then 0 else min y (s.H - 1), Wrap := false } from by unfold moveD; rw [clamp_eq (by show 0 ≤ s.W - 1; omega), clamp_eq (by show 0 ≤ s.H - 1; omega)]; rfl, ← hcp]; rfl
theorem k65_ (s : ScrR) (L_s : Hp) (a : Int) (b : Int) (w : World) (o_s : ownScrR s L_s) (h_s : Hh w L_s) (hd_ : ((L_s).map (·.1)).Nodup) (hf : ScrFine s.dat) (hsmB : smScr 549755813888 s.dat) :
    Calls Tryz.prog 173 #[.agg (cScr s).toArray, i64 a, i64 b] w fun e w' => ∃ r L1, e = .returned (.agg (cScr r).toArray) ∧ St w ((L_s).map (·.1)) L1 w' ∧ ownScrR r L1 ∧ r.dat = clearD s.dat a b := by
 have hgs := hf.shown.1
 have hgb := gridOk_bnd hgs
 have hgl := grid_len hgs
 have hsS : smGrid 1099511627 (shownR s).dat := by rw [shownR_dat]; show (shownD s.dat).Cells.length ≤ _; omega
 have hsS2 : smGrid 549755813888 (shownR s).dat := Nat.le_trans hsS (by decide)
 refine enter 35 Tryz.func173 rfl Tryz.ntmps173 rfl rfl ?_
 have hs1 := St.takes1 w L_s h_s hd_
 refine WC.sr (WL.bx hs1 rfl (fun b2 _ hs3 => WL.al hs3 Tryz.zeroValue34 rfl rfl (fun b4 _ hs5 => WL.nil (WC.sr (WL.r 1 hs5 [1] rfl (WL.cl Tryz.call92 rfl (k52_ s _ (ownScrR.ok (B := 549755813888) o_s (hs5.ow L_s) (by assumption))) ?_))))))
 rintro _ whs6 ⟨rfl, hs6⟩
 replace hs6 := hs5.call0 hs6
 refine ⟨_, rfl, WL.cl Tryz.call59 rfl (k29_ (shownR s) _ (okScrR.shown (ownScrR.ok (B := 549755813888) o_s (hs6.ow L_s) (by assumption))) ?_) ?_⟩
 · first | assumption | rfl | omega
 rintro _ whs7 ⟨r8, L1_9, rfl, hs7, ho10, hd11⟩
 replace hs7 := hs6.callF hs7
 refine ⟨_, rfl, ?_⟩
 replace hs7 := St.back [_, _] hs7
 have hd0 := hd11.trans shownR_dat
 have hn0 := ownGridR.len ‹ownGridR r8 _›
 have hl0 : r8.Cells.xs.length = (shownD s.dat).Cells.length := congrArg (fun d : GridD => d.Cells.length) hd0
 refine WL.al hs7 Tryz.zeroValue31 rfl rfl (fun b12 _ hs13 => WL.st tbk hs13 0 rfl rfl (fun _ hs14 => WL.nil (WC.seq (fun K15 hK15 => WC.r1 hs14 [0] rfl (WC.block ?_)))))
 have hM20 := (St.grp1 (L1 := L1_9) [_] (((((hs14.fr L_s).fb b2).fb b4).fr L1_9).fb b12))
 refine WC.lV [1, 2, 3, 6, 7, 14] rfl hM20 (fun k_ (a_ : Hp) f => ∃ (i : Nat) (r : GridR) (L18 : Hp), k_ = r8.Cells.n - i ∧ a_ = [(b12, .cells (List.toArray [i64 r.W, i64 r.H, .slice r.Cells.A r.Cells.n r.Cells.c]) 31 (0, 0))] ++ L18 ∧ (i ≤ r8.Cells.n) ∧ (r.W = (shownD s.dat).W ∧ r.H = (shownD s.dat).H ∧ r.Cells.xs.length = (shownD s.dat).Cells.length) ∧ (∀ k, k < (shownD s.dat).Cells.length → cat r.Cells.xs k = partF (shownD s.dat) (clearF (shownD s.dat) a b) 0 i k) ∧ ownGridR r L18 ∧ Sub [(15, .int .i64 i)] f) (((fun (i : Nat) => r8.Cells.n - i) (0))) ?_ ?_
 ·refine ⟨0, r8, L1_9, rfl, rfl, ?_, ?_, ?_, ho10, ⟨rfl, trivial⟩⟩
  · omega
  · exact ⟨congrArg GridD.W hd0, congrArg GridD.H hd0, hl0⟩
  · intro k hk; rw [partF_zero]; exact congrArg (fun d : GridD => cat d.Cells k) hd0
 rintro _ _ f w ⟨i, r, L18, rfl, rfl, p0, p1, p2, ho19, hG⟩ hF hs21
 refine WC.sub _ (hG.app hF) ?_
 clear hG hF
 replace hs21 := St.ungrp1 [_] hs21
 have hs22 := (((hs21.fb b2).fb b4).fb b12)
 have hsmr : smGrid 549755813888 r.dat := by show r.Cells.xs.length ≤ 549755813888; rw [p1.2.2]; omega
 have hnr := ownGridR.len ‹ownGridR r _›
 refine WC.r1 hs22 [] rfl (WC.seq (fun K23 hK23 => ?_))
 refine WC.cq rfl (fun h24 qh24 => ?_) (fun h24 qh24 => ?_)
 ·refine WC.skip (hK23 _ _ (WC.seq (fun K25 hK25 => WC.block (WC.r1 hs22 [] rfl (WC.sr (WL.r 4 hs22 [] rfl (WL.pA tbk 3 Acts.nil hs22 [] rfl rfl rfl rfl (fun g_ => trivial) ?_)))))))
  refine WL.nil (WC.cq rfl (fun h26 qh26 => ?_) (fun h26 qh26 => ?_))
  ·have hin : a ≤ (i : Int) ∧ (i : Int) < b := by have h9 := h26; simp at h9; exact h9
   refine WC.rG 5 ((hs22.rm L18).rm L_s) hs22 hs22 (fun _ hs27 => ?_)
   refine WG.rn [0, 1, 2] hs27 [0] rfl rfl (WG.o1 3 rfl rfl (WL.cl Tryz.call100 rfl (k22_ _) ?_))
   rintro _ whs28 ⟨rfl, hs28⟩
   replace hs28 := hs27.call0 hs28
   refine ⟨_, rfl, WL.nil ⟨hs28, ?_⟩⟩
   refine WG.tk 4 rfl (by kernel_rfl) rfl rfl rfl hs28 (fun w_ hs_ => (Run.idxN Tryz.runUnderlying29 Tryz.sizeOf108 rfl rfl rfl ?_ ?_ ?_)) ?_
   · exact SlF.some_ (ownGridR.ok (B := 549755813888) ho19 ((hs_ : St _ _ _ _).ow L18) hsmr).Cells
   · first | omega | (rw [p1.2.2] at *; omega)
   · first | omega | (rw [p1.2.2] at *; omega)
   refine WG.oK rfl (WL.storeF1 (x' := blankC) (hs28.fr L18) ho19 Tryz.sizeOf108 rfl rfl rfl rfl rfl rfl rfl rfl rfl ?_ rfl (fun L29 whs30 hs30 ho31 _ => ?_))
   · first | omega | (rw [p1.2.2] at *; omega)
   replace hs30 := St.back [_, _, _] hs30
   refine WL.nil ⟨((hs30.rm L29).rm L_s), WH.dn (hK25 _ _ (WC.region (WL.r 2 hs30 [] rfl (WL.nil (tkN ?_)))))⟩
   have hF32 := (St.grp1 (L1 := L29) [_] (((((hs30.fr L_s).fb b2).fb b4).fr L29).fb b12))
   refine ⟨sbF rfl, _, hF32, _, ?_, i + 1, ⟨r.W, r.H, SlD.of ho31⟩, L29, rfl, rfl, ?_, ?_, ?_, ho31, ⟨rfl, trivial⟩⟩
   · omega
   · omega
   · first | exact p1 | exact ⟨p1.1, p1.2.1, by simp only [List.length_set]; exact p1.2.2⟩
   · intro k hk; show cat _ k = _; first | exact part_next (g := (shownD s.dat)) (by omega) (by rw [p1.2.2]; omega) (clearF_in ⟨by omega, by omega⟩).symm (p2 k hk) | exact part_skip (g := (shownD s.dat)) (clearF_out hout) (p2 k hk)
  have hout : ¬ (a ≤ (i : Int) ∧ (i : Int) < b) := by rintro ⟨z1, z2⟩; have h9 := h26; simp at h9; have := h9 z1; omega
  refine WC.skip (hK25 _ _ (WC.region (WL.r 2 hs22 [] rfl (WL.nil (tkN ?_)))))
  have hF33 := (St.grp1 (L1 := L18) [_] (((((hs22.fr L_s).fb b2).fb b4).fr L18).fb b12))
  refine ⟨sbF rfl, _, hF33, _, ?_, i + 1, r, L18, rfl, rfl, ?_, ?_, ?_, ho19, ⟨rfl, trivial⟩⟩
  · omega
  · omega
  · first | exact p1 | exact ⟨p1.1, p1.2.1, by simp only [List.length_set]; exact p1.2.2⟩
  · intro k hk; show cat _ k = _; first | exact part_next (g := (shownD s.dat)) (by omega) (by rw [p1.2.2]; omega) (clearF_in ⟨by omega, by omega⟩).symm (p2 k hk) | exact part_skip (g := (shownD s.dat)) (clearF_out hout) (p2 k hk)
 refine WC.exit (hK15 _ _ (WC.sr (WL.r 2 hs22 [2, 0] rfl (WL.cl Tryz.call90 rfl (k53_ s _ r _ _ o_s (hs22.ow L_s) ho19 (hs22.ow L18) (St.nodupL (St.grp2 (L1 := L_s) (L2 := L18) [] ((hs22.fr L18).fr L_s)))) ?_))))
 rintro _ whs34 ⟨r35, L1_36, rfl, hs34, ho37, hd38⟩
 replace hs34 := St.lend (St.grp2 (L1 := L_s) (L2 := L18) [] ((hs22.fr L18).fr L_s)) hs34
 refine ⟨_, rfl, ?_⟩
 replace hs34 := St.back [_, _, _] hs34
 refine WL.st tbk hs34 1 rfl rfl (fun _ hs39 => WL.nil (WC.ret (retV1 rfl (resV.cellA tbk hs39 1 rfl rfl rfl rfl) ?_)))
 refine ⟨r35, _, rfl, (St.keep1 (hs39.fr L1_36)), ?_, ?_⟩
 · exact ho37
 · refine hd38.trans ?_; unfold clearD; congr 1; exact part_done (g := (shownD s.dat)) (lo := 0) (a := i) p1.1 p1.2.1 p1.2.2 (fun k hk h9 => absurd (show 0 ≤ k ∧ k < 0 + i by omega) h9) p2
theorem k66_ (s : ScrR) (L_s : Hp) (a : Int) (b : Int) (k : Int) (w : World) (o_s : ownScrR s L_s) (h_s : Hh w L_s) (hd_ : ((L_s).map (·.1)).Nodup) (hf : ScrFine s.dat) (hsmB : smScr 549755813888 s.dat) :
    Calls Tryz.prog 158 #[.agg (cScr s).toArray, i64 a, i64 b, i64 k] w fun e w' => ∃ r L1, e = .returned (.agg (cScr r).toArray) ∧ St w ((L_s).map (·.1)) L1 w' ∧ ownScrR r L1 ∧ r.dat = eraseD s.dat a b k := by
 have hwh : (1 ≤ s.W ∧ s.W ≤ 120) ∧ 1 ≤ s.H ∧ s.H ≤ 120 := ⟨(isSize_bnd hf.size).1, (isSize_bnd hf.size).2.1⟩
 have hxy := hf.pos
 simp only [ScrR.dat, GridR.dat] at hxy
 have hz := isSize_bnd hf.size
 simp only [ScrR.dat] at hz
 have hv0 : 0 ≤ s.Y * s.W := Int.mul_nonneg (by omega) (by omega)
 have hv1 : (s.Y + 1) * s.W = s.Y * s.W + s.W := by rw [Int.add_mul, Int.one_mul]
 have hv2 : (s.Y + 1) * s.W ≤ s.H * s.W := Int.mul_le_mul_of_nonneg_right (by omega) (by omega)
 rw [Int.mul_comm s.H s.W] at hv2
 refine enter 39 Tryz.func158 rfl Tryz.ntmps158 rfl rfl ?_
 have hs1 := St.takes1 w L_s h_s hd_
 refine WC.sr (WL.bx hs1 rfl (fun b2 _ hs3 => WL.al hs3 Tryz.zeroValue34 rfl rfl (fun b4 _ hs5 => WL.nil (WC.r1 hs5 [1, 1, 1] rfl (WC.seq (fun K6 hK6 => WC.r1 hs5 [] rfl (WC.block ?_)))))))
 refine WC.r1 hs5 [] rfl (WC.cq rfl (fun h7 qh7 => ?_) (fun h7 qh7 => ?_))
 ·have e0 : k = 0 := by have h9 := h7; simpa using h9
  refine WC.sr (WL.r 3 hs5 [1] rfl (WL.cl Tryz.call173 rfl (k65_ s _ _ _ _ o_s (hs5.ow L_s) (St.nodupL (hs5.fr L_s)) ?_ ?_) ?_))
  iterate 2 first | assumption | rfl | omega
  rintro _ whs8 ⟨r9, L1_10, rfl, hs8, ho11, hd12⟩
  replace hs8 := St.lend (hs5.fr L_s) hs8
  refine ⟨_, rfl, ?_⟩
  replace hs8 := St.back [_, _] hs8
  refine WL.st tbk hs8 0 rfl rfl (fun _ hs13 => WL.nil (WC.ret (ibR (tkR ?_))))
  clear hK6
  refine retV1 rfl (resV.cellA tbk hs13 0 rfl rfl rfl rfl) (⟨r9, _, rfl, (St.keep1 (hs13.fr L1_10)), ?_, ?_⟩)
  · exact ho11
  · unfold eraseD; rw [if_pos e0]; exact hd12
 have e0 : ¬ k = 0 := by have h9 := h7; simpa using h9
 refine WC.r1 hs5 [] rfl (WC.cq rfl (fun h14 qh14 => ?_) (fun h14 qh14 => ?_))
 ·have e1 : k = 1 := by have h9 := h14; simpa using h9
  refine WC.sr (WL.r 4 hs5 [1] rfl (WL.cl Tryz.call173 rfl (k65_ s _ _ _ _ o_s (hs5.ow L_s) (St.nodupL (hs5.fr L_s)) ?_ ?_) ?_))
  iterate 2 first | assumption | rfl | omega
  rintro _ whs15 ⟨r16, L1_17, rfl, hs15, ho18, hd19⟩
  replace hs15 := St.lend (hs5.fr L_s) hs15
  refine ⟨_, rfl, ?_⟩
  replace hs15 := St.back [_, _] hs15
  refine WL.st tbk hs15 0 rfl rfl (fun _ hs20 => WL.nil (WC.ret (ibR (tkR ?_))))
  clear hK6
  refine retV1 rfl (resV.cellA tbk hs20 0 rfl rfl rfl rfl) (⟨r16, _, rfl, (St.keep1 (hs20.fr L1_17)), ?_, ?_⟩)
  · exact ho18
  · unfold eraseD; rw [if_neg e0, if_pos e1]; exact hd19
 have e1 : ¬ k = 1 := by have h9 := h14; simpa using h9
 refine WC.r1 hs5 [] rfl (WC.cq rfl (fun h21 qh21 => ?_) (fun h21 qh21 => ?_))
 ·have e2 : k = 2 := by have h9 := h21; simpa using h9
  refine WC.sr (WL.r 3 hs5 [1] rfl (WL.cl Tryz.call173 rfl (k65_ s _ _ _ _ o_s (hs5.ow L_s) (St.nodupL (hs5.fr L_s)) ?_ ?_) ?_))
  iterate 2 first | assumption | rfl | omega
  rintro _ whs22 ⟨r23, L1_24, rfl, hs22, ho25, hd26⟩
  replace hs22 := St.lend (hs5.fr L_s) hs22
  refine ⟨_, rfl, ?_⟩
  replace hs22 := St.back [_, _] hs22
  refine WL.st tbk hs22 0 rfl rfl (fun _ hs27 => WL.nil (WC.ret (ibR (tkR ?_))))
  clear hK6
  refine retV1 rfl (resV.cellA tbk hs27 0 rfl rfl rfl rfl) (⟨r23, _, rfl, (St.keep1 (hs27.fr L1_24)), ?_, ?_⟩)
  · exact ho25
  · unfold eraseD; rw [if_neg e0, if_neg e1, if_pos e2]; exact hd26
 have e2 : ¬ k = 2 := by have h9 := h21; simpa using h9
 refine WC.skip (hK6 _ _ (WC.sr (WL.r 1 hs5 [1] rfl (WL.st tbk hs5 0 rfl rfl (fun _ hs28 => WL.nil (WC.ret (retV1 rfl (resV.cellA tbk hs28 0 rfl rfl rfl rfl) ?_)))))))
 refine ⟨s, _, rfl, (St.keep1 (hs28.fr L_s)), ?_, ?_⟩
 · exact o_s
 · unfold eraseD; rw [if_neg e0, if_neg e1, if_neg e2]
theorem k67_ (s : ScrR) (L_s : Hp) (A_l : Option Addr) (n_l c_l : Nat) (l : List Int) (w : World) (o_s : ownScrR s L_s) (h_s : Hh w L_s) (f_l : SlF encI w A_l n_l l) (hd_ : ((L_s).map (·.1)).Nodup) (s_l : 0 < n_l → (adr A_l).block ∉ ((L_s).map (·.1))) (hf : ScrFine s.dat) (hsmB : smScr 549755813888 s.dat) (hl : areArgs l = true) (hll : n_l ≤ 549755813888) :
    Calls Tryz.prog 162 #[.agg (cScr s).toArray, .slice A_l n_l c_l] w fun e w' => ∃ r L1, e = .returned (.agg (cScr r).toArray) ∧ St w ((L_s).map (·.1)) L1 w' ∧ ownScrR r L1 ∧ r.dat = regionD s.dat l := by
 have hwh : (1 ≤ s.W ∧ s.W ≤ 120) ∧ 1 ≤ s.H ∧ s.H ≤ 120 := ⟨(isSize_bnd hf.size).1, (isSize_bnd hf.size).2.1⟩
 have hxy := hf.pos
 simp only [ScrR.dat, GridR.dat] at hxy
 have ha0 := argI_bnd (k := 0) (d := 1) hl (by omega)
 have ha1 : 0 ≤ argI l 1 s.H ∧ argI l 1 s.H ≤ 9999 := argI_bnd hl (by omega)
 refine enter 31 Tryz.func162 rfl Tryz.ntmps162 rfl rfl ?_
 have hs1 := St.takes1 w L_s h_s hd_
 refine WC.sr (WL.bx hs1 rfl (fun b2 _ hs3 => WL.al hs3 Tryz.zeroValue34 rfl rfl (fun b4 _ hs5 => WL.nil (WC.sr (WL.r 1 hs5 [] rfl ?_)))))
 refine WL.cl Tryz.call157 rfl (k62_ _ _ _ _ _ _ (SlF.st f_l hs5 s_l) ?_) ?_
 · first | assumption | rfl | omega | exact hsm2 | exact hsB2
 rintro _ whs6 ⟨rfl, hs6⟩
 replace hs6 := hs5.call0 hs6
 refine ⟨_, rfl, WL.r 2 hs6 [] rfl (WL.nil (WC.sr (WL.r 3 hs6 [1] rfl (WL.cl Tryz.call157 rfl (k63_ _ _ _ _ _ _ (SlF.st f_l hs6 s_l) ?_) ?_))))⟩
 · first | assumption | rfl | omega | exact hsm2 | exact hsB2
 rintro _ whs7 ⟨rfl, hs7⟩
 replace hs7 := hs6.call0 hs7
 refine ⟨_, rfl, WL.r 2 hs7 [] rfl (WL.nil (WC.seq (fun K8 hK8 => WC.sr (WL.r 4 hs7 [] rfl (WL.pO tbk 4 Acts.nil hs7 [1] rfl rfl rfl rfl (fun g_ => ⟨rfl, trivial⟩) (WL.nil ?_))))))⟩
 refine WC.cq rfl (fun h9 qh9 => ?_) (fun h9 qh9 => ?_)
 ·have hr : ¬ (argI l 0 1 - 1 < argI l 1 s.H - 1 ∧ argI l 1 s.H - 1 < s.H) := by rintro ⟨z1, z2⟩; have h9 := h9; simp at h9; omega
  refine WC.sr (WL.r 1 hs7 [1] rfl (WL.st tbk hs7 0 rfl rfl (fun _ hs10 => WL.nil (WC.ret (tkR ?_)))))
  clear hK8
  refine retV1 rfl (resV.cellA tbk hs10 0 rfl rfl rfl rfl) (⟨s, _, rfl, (St.keep1 (hs10.fr L_s)), ?_, ?_⟩)
  · exact o_s
  · unfold regionD; rw [if_neg (show ¬ (argI l 0 1 - 1 < argI l 1 s.dat.H - 1 ∧ argI l 1 s.dat.H - 1 < s.dat.H) from hr)]
 have hr : argI l 0 1 - 1 < argI l 1 s.H - 1 ∧ argI l 1 s.H - 1 < s.H := by have h9 := h9; simp at h9; omega
 have hf2 := hf.reg2 hl hr
 have hsm2 := fine_smB (B := 1048576) hf2 (by decide)
 have hsB2 := fine_smB (B := 549755813888) hf2 (by decide)
 refine WC.skip (hK8 _ _ (WC.sr (WL.r 2 hs7 [] rfl (WL.st tbk hs7 1 rfl rfl (fun _ hs11 => WL.nil (WC.sr (WL.r 2 hs11 [] rfl ?_)))))))
 refine WL.st tbk hs11 1 rfl rfl (fun _ hs12 => WL.nil (WC.sr (WL.r 1 hs12 [1] rfl ?_)))
 have hk14 := (ownScrR.ok (B := 549755813888) o_s (hs12.ow L_s) (by assumption))
 have hk15 := (ownScrR.ok (B := 549755813888) o_s (hs12.ow L_s) (by assumption))
 refine WL.cl Tryz.call47 rfl (k64_ (⟨s.W, s.H, ⟨s.Main.W, s.Main.H, s.Main.Cells⟩, ⟨s.Alt.W, s.Alt.H, s.Alt.Cells⟩, s.OnAlt, s.X, s.Y, s.Wrap, ⟨s.A.Fg, s.A.Bg, s.A.Bold, s.A.Under, s.A.Turn⟩, ((argI l 0 (1)) - (1)), ((argI l 1 s.H) - (1)), s.NoWrap, s.Hide, s.SaveX, s.SaveY, ⟨s.SaveA.Fg, s.SaveA.Bg, s.SaveA.Bold, s.SaveA.Under, s.SaveA.Turn⟩, s.Tabs, s.Limit, s.Back⟩ : ScrR) _ _ _ ⟨⟨hk14.Main.Cells, hk14.Main.Cells_c, hk14.Main.Cells_n⟩, ⟨hk14.Alt.Cells, hk14.Alt.Cells_c, hk14.Alt.Cells_n⟩, hk14.Tabs, hk14.Tabs_c, hk14.Tabs_n, hk14.Back, hk14.Back_c, hk14.Back_n⟩ ?_) ?_
 · first | assumption | rfl | omega | exact hsm2 | exact hsB2
 rintro _ whs13 ⟨r16, L1_17, rfl, hs13, ho18, hd19⟩
 replace hs13 := hs12.callF hs13
 refine ⟨_, rfl, ?_⟩
 replace hs13 := St.back [_, _] hs13
 refine WL.st tbk hs13 0 rfl rfl (fun _ hs20 => WL.nil (WC.ret (retV1 rfl (resV.cellA tbk hs20 0 rfl rfl rfl rfl) ?_)))
 refine ⟨r16, _, rfl, (St.keep1 (hs20.fr L1_17)), ?_, ?_⟩
 · exact ho18
 · unfold regionD; rw [if_pos (show argI l 0 1 - 1 < argI l 1 s.dat.H - 1 ∧ argI l 1 s.dat.H - 1 < s.dat.H from hr)]; exact hd19.trans (scrGo_eq hf2)
theorem k68_ (s : ScrR) (L_s : Hp) (k : Int) (w : World) (o_s : ownScrR s L_s) (h_s : Hh w L_s) (hd_ : ((L_s).map (·.1)).Nodup) (hf : ScrFine s.dat) (hsmB : smScr 549755813888 s.dat) :
    Calls Tryz.prog 163 #[.agg (cScr s).toArray, i64 k] w fun e w' => ∃ r L1, e = .returned (.agg (cScr r).toArray) ∧ St w ((L_s).map (·.1)) L1 w' ∧ ownScrR r L1 ∧ r.dat = tabsD s.dat k := by
 obtain ⟨_, _, hTl, _⟩ := ownScrR.len o_s
 have hTs : s.Tabs.xs.length ≤ 1048576 := (fine_smB (B := 1048576) hf (by decide)).2.2.1
 refine enter 40 Tryz.func163 rfl Tryz.ntmps163 rfl rfl ?_
 have hs1 := St.takes1 w L_s h_s hd_
 refine WC.sr (WL.bx hs1 rfl (fun b2 _ hs3 => WL.al hs3 Tryz.zeroValue34 rfl rfl (fun b4 _ hs5 => WL.nil (WC.sr (WL.buildF (F := encI) hs5 ([]) Tryz.runUnderlying26 Tryz.sizeOf3 Tryz.zeroValue3 rfl rfl rfl rfl rfl rfl rfl rfl rfl rfl rfl rfl (fun A9 c10 L6 whs7 hs7 ho8 => ?_))))))
 replace hs7 := St.back [_, _] hs7
 refine WL.r 1 hs7 [] rfl (WL.nil (WC.seq (fun K11 hK11 => WC.r1 hs7 [1] rfl (WC.block ?_))))
 have hM16 := (St.grp1 (L1 := L6) [] ((((hs7.fr L_s).fb b2).fb b4).fr L6))
 refine WC.lV [1, 2, 4, 10, 11] rfl hM16 (fun k_ (a_ : Hp) f => ∃ (i : Nat) (zs : List Int) (A12 : Option Addr) (c13 : Nat) (L14 : Hp), k_ = s.Tabs.n - i ∧ a_ = L14 ∧ (i ≤ s.Tabs.n) ∧ (zs = (s.Tabs.xs.take i).filter (tabP s.dat k)) ∧ (zs.length ≤ i) ∧ OwnF encI 3 (.slice A12 (zs).length c13) (zs) L14 ∧ Sub [(5, .slice A12 (zs).length c13), (12, .int .i64 i)] f) (((fun (i : Nat) (zs : List Int) => s.Tabs.n - i) (0) ([]))) ?_ ?_
 ·refine ⟨0, [], A9, c10, L6, rfl, rfl, ?_, ?_, ?_, ho8, ⟨rfl, rfl, trivial⟩⟩
  · omega
  · rfl
  · exact Nat.le_refl _
 rintro _ L14 f w ⟨i, zs, A12, c13, _, rfl, rfl, p0, p1, p2, ho15, hG⟩ hF hs17
 refine WC.sub _ (hG.app hF) ?_
 clear hG hF
 replace hs17 := St.ungrp1 [] hs17
 have hs18 := ((hs17.fb b2).fb b4)
 refine WC.r1 hs18 [] rfl (WC.seq (fun K19 hK19 => ?_))
 refine WC.cq rfl (fun h20 qh20 => ?_) (fun h20 qh20 => ?_)
 ·refine WC.skip (hK19 _ _ (WC.seq (fun K21 hK21 => WC.block (WC.sr ?_))))
  refine WL.val rfl rfl rfl (Run.idxN Tryz.runUnderlying26 Tryz.sizeOf3 rfl rfl rfl ?_ ?_ ?_) ?_
  · exact SlF.some_ (ownScrR.ok (B := 549755813888) o_s (hs18.ow L_s) (by assumption)).Tabs
  · omega
  · omega
  refine WL.val rfl rfl rfl (Run.load Tryz.isAgg3 rfl rfl (SlF.one1 (ownScrR.ok (B := 549755813888) o_s (hs18.ow L_s) (by assumption)).Tabs ?_ rfl)) ?_
  · omega
  refine WL.r 1 hs18 [] rfl (WL.nil (WC.sr (WL.r 3 hs18 [] rfl (WL.pA tbk 4 Acts.nil hs18 [1] rfl rfl rfl rfl (fun g_ => ⟨rfl, trivial⟩) (WL.r 1 hs18 [] rfl ?_)))))
  apply WL.gO 6 Acts.nil hs18 rfl
  ·intro g22 J23
   have qg22 := g22
   try simp only [bf, within_iff, within_not] at qg22
   refine WL.runA tbk 3 (Acts.nil.cons (j := 8) rfl g22) hs18 [] rfl trivial (WL.pA tbk 2 (Acts.nil.cons (j := 8) rfl g22) hs18 [] rfl rfl rfl rfl (fun g_ => trivial) (WL.eO 4 Acts.nil J23 hs18 g22 rfl rfl))
  intro _ hs24
  refine WL.nil (WC.cq rfl (fun h25 qh25 => ?_) (fun h25 qh25 => ?_))
  ·have hin : tabP s.dat k (iat s.Tabs.xs i) = true := by rw [tabP_iff]; show (k = 0 ∧ ¬ iat s.Tabs.xs i = s.X) ∨ (¬ k = 0 ∧ ¬ k = 3); have h9 := h25; simp at h9; first | exact h9 | omega
   refine WC.region (WL.r 2 hs24 [] rfl (WL.buildSlice hs24 Tryz.runUnderlying26 Tryz.sizeOf3 Tryz.zeroValue3 rfl rfl rfl rfl rfl rfl rfl rfl rfl rfl (fun b26 whs27 hs27 => ?_)))
   refine WL.appendG (hs27.fr L14) ho15 (srcI1 Tryz.underlying26 (hs27.own _ (nthL_mem (i := 0) rfl)).1) Tryz.underlying26 inf3 rfl rfl rfl rfl rfl rfl rfl rfl rfl rfl ?_ (fun A31 c32 L28 whs29 hs29 ho30 => ?_)
   · simp; omega
   replace hs29 := St.back [_, _, _] hs29
   refine WL.r 1 hs29 [] rfl (WL.nil (hK21 _ _ (WC.region (WL.r 2 hs29 [] rfl (WL.nil (tkN ?_))))))
   replace hs29 := hs29.d1
   have hF33 := (St.grp1 (L1 := L28) [] ((((hs29.fr L_s).fb b2).fb b4).fr L28))
   refine ⟨sbF rfl, _, hF33, _, ?_, i + 1, _, A31, c32, L28, rfl, rfl, ?_, ?_, ?_, ho30, ⟨rfl, rfl, trivial⟩⟩
   · omega
   · omega
   · rw [p1]; first | exact (filt_in (by omega) hin).symm | exact (filt_out (by omega) hout).symm
   · (try simp only [List.length_append, List.length_singleton]); omega
  have hout : ¬ tabP s.dat k (iat s.Tabs.xs i) = true := by rw [tabP_iff]; show ¬ ((k = 0 ∧ ¬ iat s.Tabs.xs i = s.X) ∨ (¬ k = 0 ∧ ¬ k = 3)); intro z9; have h9 := h25; simp at h9; rcases z9 with z9 | z9; exact z9.2 (h9.1 z9.1); exact z9.2 (h9.2 z9.1)
  refine WC.skip (hK21 _ _ (WC.region (WL.r 2 hs24 [] rfl (WL.nil (tkN ?_)))))
  have hF34 := (St.grp1 (L1 := L14) [] ((((hs24.fr L_s).fb b2).fb b4).fr L14))
  refine ⟨sbF rfl, _, hF34, _, ?_, i + 1, _, A12, c13, L14, rfl, rfl, ?_, ?_, ?_, ho15, ⟨rfl, rfl, trivial⟩⟩
  · omega
  · omega
  · rw [p1]; first | exact (filt_in (by omega) hin).symm | exact (filt_out (by omega) hout).symm
  · (try simp only [List.length_append, List.length_singleton]); omega
 refine WC.exit (hK11 _ _ (WC.sr (WL.r 2 hs18 [] rfl (WL.st tbk hs18 1 rfl rfl (fun _ hs35 => WL.nil (WC.sr (WL.r 1 hs35 [1] rfl ?_)))))))
 refine WL.st tbk hs35 0 rfl rfl (fun _ hs36 => WL.nil (WC.ret (retV1 rfl (resV.cellA tbk hs36 0 rfl rfl rfl rfl) ?_)))
 obtain ⟨L37, L38, L39, L40, hs45, ho41, ho42, ho43, ho44⟩ := ownScrR.op hs36 o_s
 have hs46 := ((hs45.fb b2).fb b4)
 obtain ⟨L48, hs47, ho49⟩ := ownScrR.fl hs46 ho41 ho42 ho15 ho44
 have hs50 := ((hs47.fb b2).fb b4)
 refine ownScrR.ret rfl (St.keep1 (hs50.fr L48)) ho49 ?_
 · rw [tabsD_P]; refine Eq.trans ?_ (show ({ s.dat with Tabs := zs } : ScrD) = { s.dat with Tabs := s.dat.Tabs.filter (tabP s.dat k) } from by rw [p1, List.take_of_length_le (by omega)]; rfl); rfl
theorem k69_ (s : ScrR) (L_s : Hp) (n : Int) (w : World) (o_s : ownScrR s L_s) (h_s : Hh w L_s) (hd_ : ((L_s).map (·.1)).Nodup) (hf : ScrFine s.dat) (hsmB : smScr 549755813888 s.dat) (hn : -100000 ≤ n ∧ n ≤ 100000) :
    Calls Tryz.prog 160 #[.agg (cScr s).toArray, i64 n] w fun e w' => ∃ r L1, e = .returned (.agg (cScr r).toArray) ∧ St w ((L_s).map (·.1)) L1 w' ∧ ownScrR r L1 ∧ r.dat = linesD s.dat n := by
 have hwh : (1 ≤ s.W ∧ s.W ≤ 120) ∧ 1 ≤ s.H ∧ s.H ≤ 120 := ⟨(isSize_bnd hf.size).1, (isSize_bnd hf.size).2.1⟩
 have hxy := hf.pos
 simp only [ScrR.dat, GridR.dat] at hxy
 have hrg : (0 ≤ s.Top ∧ s.Top ≤ s.Bot) ∧ s.Bot < s.H := ⟨hf.reg.1, hf.reg.2.1⟩
 have hgs : gridOk (shownR s).dat = true := by rw [shownR_dat]; exact hf.shown.1
 have hHs : (shownR s).H = s.H := by have h9 : (shownR s).H = (shownD s.dat).H := congrArg GridD.H shownR_dat; rw [h9]; exact hf.shown.2.2
 refine enter 31 Tryz.func160 rfl Tryz.ntmps160 rfl rfl ?_
 have hs1 := St.takes1 w L_s h_s hd_
 refine WC.sr (WL.bx hs1 rfl (fun b2 _ hs3 => WL.al hs3 Tryz.zeroValue34 rfl rfl (fun b4 _ hs5 => WL.nil (WC.seq (fun K6 hK6 => WC.sr (WL.r 6 hs5 [1, 1] rfl (WL.pO tbk 5 Acts.nil hs5 [1, 1] rfl rfl rfl rfl (fun g_ => ⟨rfl, rfl, trivial⟩) ?_)))))))
 refine WL.nil (WC.cq rfl (fun h7 qh7 => ?_) (fun h7 qh7 => ?_))
 ·have hwi : ¬ within s.dat.Y s.dat.Top s.dat.Bot = true := by rw [within_iff]; show ¬ (s.Top ≤ s.Y ∧ s.Y ≤ s.Bot); have h9 := h7; simp at h9; omega
  refine WC.sr (WL.r 1 hs5 [1] rfl (WL.st tbk hs5 0 rfl rfl (fun _ hs8 => WL.nil (WC.ret (tkR ?_)))))
  clear hK6
  refine retV1 rfl (resV.cellA tbk hs8 0 rfl rfl rfl rfl) (⟨s, _, rfl, (St.keep1 (hs8.fr L_s)), ?_, ?_⟩)
  · exact o_s
  · unfold linesD; rw [if_neg hwi]
 have hwi : within s.dat.Y s.dat.Top s.dat.Bot = true := by rw [within_iff]; show s.Top ≤ s.Y ∧ s.Y ≤ s.Bot; have h9 := h7; simp at h9; omega
 have hwj : s.Top ≤ s.Y ∧ s.Y ≤ s.Bot := within_iff.1 hwi
 refine WC.skip (hK6 _ _ (WC.seq (fun K9 hK9 => WC.rG 10 ((hs5.fb b2).d1.rm L_s) (hs5.rm L_s) hs5 (fun _ hs10 => ?_))))
 refine WG.rn [0, 1, 3, 4, 5, 6, 7] (hs10.rm L_s) [1, 1, 1, 1] rfl rfl (WG.o1 2 rfl rfl (WL.cl Tryz.call92 rfl (k52_ s _ (ownScrR.ok (B := 549755813888) o_s (hs10.ow L_s) (by assumption))) ?_))
 rintro _ whs11 ⟨rfl, hs11⟩
 replace hs11 := hs10.call0 hs11
 refine ⟨_, rfl, WL.nil ⟨(hs11.rm L_s), WG.o1 8 rfl rfl (WL.cl Tryz.call156 rfl (k51_ (shownR s) _ _ _ _ (okScrR.shown (ownScrR.ok (B := 549755813888) o_s (hs11.ow L_s) (by assumption))) ?_ ?_ ?_) ?_)⟩⟩
 iterate 3 first | assumption | rfl | omega
 rintro _ whs12 ⟨r13, L1_14, rfl, hs12, ho15, hd16⟩
 replace hs12 := hs11.callF hs12
 refine ⟨_, rfl, ?_⟩
 replace hs12 := St.back [_, _] hs12
 have hgr := hd16
 refine WL.nil ⟨((hs12.rm L1_14).rm L_s), WG.o1 9 rfl rfl (WL.cl Tryz.call90 rfl (k53_ s _ r13 _ _ o_s (hs12.ow L_s) ho15 (hs12.ow L1_14) (St.nodupL (St.grp2 (L1 := L_s) (L2 := L1_14) [] ((hs12.fr L1_14).fr L_s)))) ?_)⟩
 rintro _ whs17 ⟨r18, L1_19, rfl, hs17, ho20, hd21⟩
 replace hs17 := St.lend (St.grp2 (L1 := L_s) (L2 := L1_14) [] ((hs12.fr L1_14).fr L_s)) hs17
 refine ⟨_, rfl, ?_⟩
 replace hs17 := St.back [_, _] hs17
 have hpt := hd21
 refine WL.nil ⟨(hs17.rm L1_19), WG.oK rfl (WL.st tbk hs17 1 rfl rfl (fun _ hs22 => WL.nil ⟨((hs22.fb b2).d1.rm L1_19), WH.dn (hK9 _ _ (WC.sr (WL.r 1 hs22 [] rfl ?_)))⟩))⟩
 refine WL.st tbk hs22 1 rfl rfl (fun _ hs23 => WL.nil (WC.sr (WL.r 1 hs23 [] rfl (WL.st tbk hs23 1 rfl rfl (fun _ hs24 => WL.nil (WC.sr (WL.r 1 hs24 [1] rfl ?_)))))))
 refine WL.st tbk hs24 0 rfl rfl (fun _ hs25 => WL.nil (WC.ret (retV1 rfl (resV.cellA tbk hs25 0 rfl rfl rfl rfl) ?_)))
 obtain ⟨L26, L27, L28, L29, hs34, ho30, ho31, ho32, ho33⟩ := ownScrR.op hs25 ho20
 have hs35 := ((hs34.fb b2).fb b4)
 obtain ⟨L37, hs36, ho38⟩ := ownScrR.fl hs35 ho30 ho31 ho32 ho33
 have hs39 := ((hs36.fb b2).fb b4)
 refine ownScrR.ret rfl (St.keep1 (hs39.fr L37)) ho38 ?_
 · unfold linesD; rw [if_pos hwi]; show _ = ({ rollD s.dat s.Y s.Bot n with X := 0, Wrap := false } : ScrD); rw [show rollD s.dat s.Y s.Bot n = putD s.dat (gRoll (shownD s.dat) s.Y s.Bot n) from rfl, ← shownR_dat, ← hgr, ← hpt]; rfl
theorem k70_ (s : ScrR) (L_s : Hp) (n : Int) (on : Bool) (w : World) (o_s : ownScrR s L_s) (h_s : Hh w L_s) (hd_ : ((L_s).map (·.1)).Nodup) (hf : ScrFine s.dat) (hsmB : smScr 549755813888 s.dat) :
    Calls Tryz.prog 138 #[.agg (cScr s).toArray, i64 n, .bool on] w fun e w' => ∃ r L1, e = .returned (.agg (cScr r).toArray) ∧ St w ((L_s).map (·.1)) L1 w' ∧ ownScrR r L1 ∧ r.dat = modeD s.dat n on := by
 have hwh : (1 ≤ s.W ∧ s.W ≤ 120) ∧ 1 ≤ s.H ∧ s.H ≤ 120 := ⟨(isSize_bnd hf.size).1, (isSize_bnd hf.size).2.1⟩
 have hxy := hf.pos
 simp only [ScrR.dat, GridR.dat] at hxy
 have hsz : isSize s.W s.H = true := hf.size
 have hf3 : ScrFine { s.dat with OnAlt := false } := ⟨hf.gM, hf.gA, hf.dim, hf.pos, hf.sav, hf.wrp, hf.aA, hf.aS, hf.reg, hf.lim, hf.tab, hf.row⟩
 have hsB3 := fine_smB (B := 549755813888) hf3 (by decide)
 refine enter 54 Tryz.func138 rfl Tryz.ntmps138 rfl rfl ?_
 have hs1 := St.takes1 w L_s h_s hd_
 refine WC.sr (WL.bx hs1 rfl (fun b2 _ hs3 => WL.al hs3 Tryz.zeroValue34 rfl rfl (fun b4 _ hs5 => WL.nil (WC.seq (fun K6 hK6 => WC.r1 hs5 [] rfl (WC.block (WC.r1 hs5 [] rfl ?_)))))))
 refine WC.cq rfl (fun h7 qh7 => ?_) (fun h7 qh7 => ?_)
 ·have e7 : n = 7 := by have h9 := h7; simpa using h9
  refine WC.sr (WL.r 3 hs5 [] rfl (WL.st tbk hs5 1 rfl rfl (fun _ hs8 => WL.nil (WC.region (WL.r 3 hs8 [1] rfl (WL.pA tbk 1 Acts.nil hs8 [] rfl rfl rfl rfl (fun g_ => trivial) (WL.r 1 hs8 [] rfl ?_)))))))
  refine WL.st tbk hs8 1 rfl rfl (fun _ hs9 => WL.nil (hK6 _ _ (WC.sr (WL.r 1 hs9 [1] rfl (WL.st tbk hs9 0 rfl rfl (fun _ hs10 => WL.nil (WC.ret ?_)))))))
  refine retV1 rfl (resV.cellA tbk hs10 0 rfl rfl rfl rfl) ?_
  obtain ⟨L11, L12, L13, L14, hs19, ho15, ho16, ho17, ho18⟩ := ownScrR.op hs10 o_s
  have hs20 := ((hs19.fb b2).fb b4)
  obtain ⟨L22, hs21, ho23⟩ := ownScrR.fl hs20 ho15 ho16 ho17 ho18
  have hs24 := ((hs21.fb b2).fb b4)
  refine ownScrR.ret rfl (St.keep1 (hs24.fr L22)) ho23 ?_
  · unfold modeD; rw [if_pos e7]; rfl
 have e7 : ¬ n = 7 := by have h9 := h7; simpa using h9
 refine WC.r1 hs5 [] rfl (WC.cq rfl (fun h25 qh25 => ?_) (fun h25 qh25 => ?_))
 ·have e25 : n = 25 := by have h9 := h25; simpa using h9
  refine WC.region (WL.r 3 hs5 [] rfl (WL.st tbk hs5 1 rfl rfl (fun _ hs26 => WL.nil (hK6 _ _ (WC.sr (WL.r 1 hs26 [1] rfl (WL.st tbk hs26 0 rfl rfl (fun _ hs27 => ?_))))))))
  refine WL.nil (WC.ret (retV1 rfl (resV.cellA tbk hs27 0 rfl rfl rfl rfl) ?_))
  obtain ⟨L28, L29, L30, L31, hs36, ho32, ho33, ho34, ho35⟩ := ownScrR.op hs27 o_s
  have hs37 := ((hs36.fb b2).fb b4)
  obtain ⟨L39, hs38, ho40⟩ := ownScrR.fl hs37 ho32 ho33 ho34 ho35
  have hs41 := ((hs38.fb b2).fb b4)
  refine ownScrR.ret rfl (St.keep1 (hs41.fr L39)) ho40 ?_
  · unfold modeD; rw [if_neg e7, if_pos e25]; rfl
 have e25 : ¬ n = 25 := by have h9 := h25; simpa using h9
 refine WC.r1 hs5 [] rfl (WC.cq rfl (fun h42 qh42 => ?_) (fun h42 qh42 => ?_))
 ·have e1049 : n = 1049 := by have h9 := h42; simpa using h9
  refine WC.sr (WL.r 2 hs5 [] rfl (WL.pA tbk 3 Acts.nil hs5 [1] rfl rfl rfl rfl (fun g_ => ⟨rfl, trivial⟩) (WL.nil (WC.cq rfl (fun h43 qh43 => ?_) (fun h43 qh43 => ?_)))))
  ·have a1 : (n = 1049 ∧ on = true) ∧ s.dat.OnAlt = false := by show (n = 1049 ∧ on = true) ∧ s.OnAlt = false; have h9 := h43; simp at h9; exact ⟨⟨e1049, h9.1⟩, h9.2⟩
   refine WC.sr (WL.r 1 hs5 [1] rfl (WL.cl Tryz.call134 rfl (k60_ s _ _ o_s (hs5.ow L_s) (St.nodupL (hs5.fr L_s))) ?_))
   rintro _ whs44 ⟨r45, L1_46, rfl, hs44, ho47, hd48⟩
   replace hs44 := St.lend (hs5.fr L_s) hs44
   refine ⟨_, rfl, ?_⟩
   replace hs44 := St.back [_, _] hs44
   have hsv := hd48
   have hrW : r45.W = s.W := congrArg ScrD.W hsv
   have hrH : r45.H = s.H := congrArg ScrD.H hsv
   refine WL.st tbk hs44 1 rfl rfl (fun _ hs49 => WL.nil (WC.sr (WL.r 4 hs49 [1, 1] rfl (WL.cl Tryz.call58 rfl (k30_ _ _ _) ?_))))
   rintro _ whs50 ⟨r0_51, L0_52, rfl, hs50, ho53, hd0_54⟩
   replace hs50 := hs49.callF hs50
   refine ⟨_, rfl, ?_⟩
   replace hs50 := St.back [_, _] hs50
   refine WL.r 4 hs50 [] rfl (WL.st tbk hs50 1 rfl rfl (fun _ hs55 => WL.nil (WC.region (WL.r 1 hs55 [] rfl (WL.st tbk hs55 1 rfl rfl (fun _ hs56 => WL.nil (hK6 _ _ ?_)))))))
   refine WC.sr (WL.r 1 hs56 [1] rfl (WL.st tbk hs56 0 rfl rfl (fun _ hs57 => WL.nil (WC.ret (retV1 rfl (resV.cellA tbk hs57 0 rfl rfl rfl rfl) ?_)))))
   obtain ⟨L58, L59, L60, L61, hs66, ho62, ho63, ho64, ho65⟩ := ownScrR.op hs57 ho47
   have hs67 := ((hs66.fb b2).fb b4)
   obtain ⟨L69, hs68, ho70⟩ := ownScrR.fl hs67 ho62 ho53 ho64 ho65
   have hs71 := ((hs68.fb b2).fb b4)
   refine ownScrR.ret rfl (St.keep1 (hs71.fr L69)) ho70 ?_
   · unfold modeD; rw [if_neg e7, if_neg e25, if_pos a1]; show _ = ({ saveD s.dat with Alt := gridNew s.W s.H, OnAlt := true } : ScrD); rw [← gridRes_eq hsz, ← hrW, ← hrH, ← hd0_54, ← hsv]; rfl
  have a1 : ¬ ((n = 1049 ∧ on = true) ∧ s.dat.OnAlt = false) := by show ¬ ((n = 1049 ∧ on = true) ∧ s.OnAlt = false); rintro ⟨⟨z1, z2⟩, z3⟩; have h9 := h43; simp [z2, z3] at h9
  refine WC.sr (WL.r 3 hs5 [] rfl (WL.pA tbk 2 Acts.nil hs5 [1] rfl rfl rfl rfl (fun g_ => ⟨rfl, trivial⟩) (WL.nil (WC.cq rfl (fun h72 qh72 => ?_) (fun h72 qh72 => ?_)))))
  ·have a2 : (n = 1049 ∧ on = false) ∧ s.dat.OnAlt = true := by show (n = 1049 ∧ on = false) ∧ s.OnAlt = true; have h9 := h72; simp at h9; exact ⟨⟨e1049, h9.1⟩, h9.2⟩
   refine WC.sr (WL.r 1 hs5 [] rfl (WL.st tbk hs5 1 rfl rfl (fun _ hs73 => WL.nil (WC.region (WL.r 1 hs73 [1] rfl ?_)))))
   obtain ⟨L74, L75, L76, L77, hs82, ho78, ho79, ho80, ho81⟩ := ownScrR.op hs73 o_s
   have hs83 := ((hs82.fb b2).fb b4)
   obtain ⟨L85, hs84, ho86⟩ := ownScrR.fl hs83 ho78 ho79 ho80 ho81
   have hs87 := ((hs84.fb b2).fb b4)
   refine WL.cl Tryz.call135 rfl (k61_ ⟨s.W, s.H, ⟨s.Main.W, s.Main.H, SlD.of ho78⟩, ⟨s.Alt.W, s.Alt.H, SlD.of ho79⟩, false, s.X, s.Y, s.Wrap, ⟨s.A.Fg, s.A.Bg, s.A.Bold, s.A.Under, s.A.Turn⟩, s.Top, s.Bot, s.NoWrap, s.Hide, s.SaveX, s.SaveY, ⟨s.SaveA.Fg, s.SaveA.Bg, s.SaveA.Bold, s.SaveA.Under, s.SaveA.Turn⟩, SlD.of ho80, s.Limit, SlD.ofN ho81⟩ _ _ (by exact ho86) (hs87.ow L85) (St.nodupL (hs87.fr L85))) ?_
   rintro _ whs88 ⟨r89, L1_90, rfl, hs88, ho91, hd92⟩
   replace hs88 := St.lend (hs87.fr L85) hs88
   refine ⟨_, rfl, ?_⟩
   replace hs88 := St.back [_, _] hs88
   refine WL.st tbk hs88 1 rfl rfl (fun _ hs93 => WL.nil (hK6 _ _ (WC.sr (WL.r 1 hs93 [1] rfl (WL.st tbk hs93 0 rfl rfl (fun _ hs94 => WL.nil (WC.ret ?_)))))))
   refine retV1 rfl (resV.cellA tbk hs94 0 rfl rfl rfl rfl) (⟨r89, _, rfl, (St.keep1 (hs94.fr L1_90)), ?_, ?_⟩)
   · exact ho91
   · unfold modeD; rw [if_neg e7, if_neg e25, if_neg a1, if_pos a2]; exact hd92
  have a2 : ¬ ((n = 1049 ∧ on = false) ∧ s.dat.OnAlt = true) := by show ¬ ((n = 1049 ∧ on = false) ∧ s.OnAlt = true); rintro ⟨⟨z1, z2⟩, z3⟩; have h9 := h72; simp [z2, z3] at h9
  refine WC.skip (hK6 _ _ (WC.sr (WL.r 1 hs5 [1] rfl (WL.st tbk hs5 0 rfl rfl (fun _ hs95 => WL.nil (WC.ret (retV1 rfl (resV.cellA tbk hs95 0 rfl rfl rfl rfl) ?_)))))))
  refine ⟨s, _, rfl, (St.keep1 (hs95.fr L_s)), ?_, ?_⟩
  · exact o_s
  · unfold modeD; rw [if_neg e7, if_neg e25, if_neg a1, if_neg a2]
 have e1049 : ¬ n = 1049 := by have h9 := h42; simpa using h9
 refine WC.skip (hK6 _ _ (WC.sr (WL.r 1 hs5 [1] rfl (WL.st tbk hs5 0 rfl rfl (fun _ hs96 => WL.nil (WC.ret (retV1 rfl (resV.cellA tbk hs96 0 rfl rfl rfl rfl) ?_)))))))
 refine ⟨s, _, rfl, (St.keep1 (hs96.fr L_s)), ?_, ?_⟩
 · exact o_s
 · unfold modeD; rw [if_neg e7, if_neg e25, if_neg (fun h9 => e1049 h9.1.1), if_neg (fun h9 => e1049 h9.1.1)]
theorem k71_ (g : GridR) (top : Int) (bot : Int) (n : Int) (w : World) (f_g : okGridR 549755813888 w g) (hg : gridOk g.dat = true) (ht : 0 ≤ top ∧ top ≤ bot ∧ bot < g.H) (hn : -100000 ≤ n ∧ n ≤ 100000) :
    Calls Tryz.prog 146 #[.agg #[i64 g.W, i64 g.H, .slice g.Cells.A g.Cells.n g.Cells.c], i64 top, i64 bot, i64 n] w fun e w' => ∃ r L1, e = .returned (.agg #[i64 r.W, i64 r.H, .slice r.Cells.A r.Cells.n r.Cells.c]) ∧ St w [] L1 w' ∧ ownGridR r L1 ∧ r.dat = gRoll g.dat top bot n := by
 have nb_g_Cells := f_g.Cells_n
 have nl_g_Cells := f_g.Cells.len
 have hgb : (1 ≤ g.W ∧ g.W ≤ 120) ∧ (1 ≤ g.H ∧ g.H ≤ 120) ∧ 1 ≤ g.W * g.H ∧ g.W * g.H ≤ 4000 := gridOk_bnd hg
 have hgl : (g.Cells.xs.length : Int) = g.W * g.H := grid_len hg
 have hsmg : smGrid 1048576 g.dat := by show g.Cells.xs.length ≤ 1048576; omega
 refine enter 48 Tryz.func146 rfl Tryz.ntmps146 rfl rfl ?_
 have hs1 := St.init w
 refine WC.sr (WL.bx hs1 rfl (fun b2 _ hs3 => WL.al hs3 Tryz.zeroValue31 rfl rfl (fun b4 _ hs5 => WL.nil (WC.sr (WL.r 1 hs5 [1] rfl ?_)))))
 refine WL.cl Tryz.call69 rfl (k45_ g _ (okGridR.st0 f_g hs5) ?_) ?_
 · first | assumption | rfl | omega
 rintro _ whs6 ⟨r7, L1_8, rfl, hs6, ho9, hd10⟩
 replace hs6 := hs5.callF hs6
 refine ⟨_, rfl, ?_⟩
 replace hs6 := St.back [_, _] hs6
 skip
 refine WL.al hs6 Tryz.zeroValue31 rfl rfl (fun b11 _ hs12 => WL.st tbk hs12 0 rfl rfl (fun _ hs13 => WL.nil (WC.seq (fun K14 hK14 => WC.r1 hs13 [] rfl (WC.block ?_)))))
 have hM19 := (St.grp1 (L1 := L1_8) [_] ((((hs13.fb b2).fb b4).fr L1_8).fb b11))
 refine WC.lV [1, 2, 3, 4, 8, 9] rfl hM19 (fun k_ (a_ : Hp) f => ∃ (a : Nat) (r : GridR) (L17 : Hp), k_ = (bot - top + 1).toNat - a ∧ a_ = [(b11, .cells (List.toArray [i64 r.W, i64 r.H, .slice r.Cells.A r.Cells.n r.Cells.c]) 31 (0, 0))] ++ L17 ∧ (top + (a : Int) ≤ bot + 1) ∧ (r.W = g.W ∧ r.H = g.H ∧ r.Cells.xs.length = g.Cells.xs.length) ∧ (∀ k, k < g.Cells.xs.length → cat r.Cells.xs k = partF g.dat (rollF g.dat top bot n) (top.toNat * g.W.toNat) (a * g.W.toNat) k) ∧ ownGridR r L17 ∧ Sub [(10, .int .i64 (top + a))] f) (((fun (a : Nat) => (bot - top + 1).toNat - a) (0))) ?_ ?_
 ·refine ⟨0, r7, L1_8, rfl, rfl, ?_, ?_, ?_, ho9, ⟨?_, trivial⟩⟩
  · omega
  · exact ⟨congrArg GridD.W hd10, congrArg GridD.H hd10, congrArg (fun d : GridD => d.Cells.length) hd10⟩
  · intro k hk; rw [Nat.zero_mul, partF_zero]; exact congrArg (fun d : GridD => cat d.Cells k) hd10
  · (refine congrArg some (congrArg (Value.int _) ?_); omega)
 rintro _ _ f w ⟨a, r, L17, rfl, rfl, p0, p1, p2, ho18, hG⟩ hF hs20
 refine WC.sub _ (hG.app hF) ?_
 clear hG hF
 replace hs20 := St.ungrp1 [_] hs20
 have hs21 := (((hs20.fb b2).fb b4).fb b11)
 have hsmr : smGrid 549755813888 r.dat := by show r.Cells.xs.length ≤ 549755813888; omega
 refine WC.seq (fun K22 hK22 => WC.r1 hs21 [] rfl ?_)
 refine WC.cq rfl (fun h23 qh23 => ?_) (fun h23 qh23 => ?_)
 ·have hab : top + (a : Int) ≤ bot := by omega
  have hv0 : 0 ≤ (top + (a : Int)) * g.W := Int.mul_nonneg (by omega) (by omega)
  have hv1 : (top + (a : Int) + 1) * g.W = (top + (a : Int)) * g.W + g.W := by rw [Int.add_mul, Int.one_mul]
  have hv2 : (top + (a : Int) + 1) * g.W ≤ g.H * g.W := Int.mul_le_mul_of_nonneg_right (by omega) (by omega)
  rw [Int.mul_comm g.H g.W] at hv2
  have hrw : r.W = g.W := p1.1
  have hz0 : (top + (a : Int)) * r.W = (top + (a : Int)) * g.W := by rw [hrw]
  have hz1 : (top + (a : Int) + 1) * r.W = (top + (a : Int) + 1) * g.W := by rw [hrw]
  have hnr := ownGridR.len ‹ownGridR r _›
  have hcr := OwnF.cap ‹ownGridR r _›
  have hlr := f_g.Cells.len
  have hcg := f_g.Cells_c
  have hlo0 : ((top + (a : Int)) * r.W).toNat = (top.toNat + a) * g.W.toNat := by rw [hrw, Int.toNat_mul (by omega) (by omega)]; congr 1; omega
  have hmm1 : ((top + (a : Int) + 1) * r.W).toNat - ((top + (a : Int)) * r.W).toNat = g.W.toNat := by rw [hz0, hz1]; omega
  refine WC.skip (hK22 _ _ (WC.seq (fun K24 hK24 => WC.block (WC.r1 hs21 [] rfl (WC.sr (WL.r 1 hs21 [] rfl (WL.cl Tryz.call23 rfl (k1_ _ _ _ _) ?_)))))))
  rintro _ whs25 ⟨rfl, hs25⟩
  replace hs25 := hs21.call0 hs25
  refine ⟨_, rfl, WL.r 1 hs25 [] rfl ?_⟩
  apply WL.gA 4 Acts.nil hs25 rfl
  ·intro g26 J27
   have qg26 := g26
   try simp only [bf, within_iff, within_not] at qg26
   refine WL.runA tbk 3 (Acts.nil.cons (j := 2) rfl g26) hs25 [] rfl trivial (WL.call (wantT rfl g26) rfl rfl (Run.call Tryz.call23 rfl rfl rfl) (k1_ _ _ _ _) ?_)
   rintro _ whs28 ⟨rfl, hs28⟩
   replace hs28 := hs25.call0 hs28
   refine ⟨_, rfl, WL.eA 4 Acts.nil J27 hs28 g26 rfl rfl⟩
  intro _ hs29
  refine WL.nil (WC.cq rfl (fun h30 qh30 => ?_) (fun h30 qh30 => ?_))
  ·have hin : top ≤ top + (a : Int) + n ∧ top + (a : Int) + n ≤ bot := by have h9 := h30; simp only [Bool.and_eq_true, within_iff] at h9; omega
   have hu0 : 0 ≤ (top + (a : Int) + n) * g.W := Int.mul_nonneg (by omega) (by omega)
   have hu1 : (top + (a : Int) + n + 1) * g.W = (top + (a : Int) + n) * g.W + g.W := by rw [Int.add_mul, Int.one_mul]
   have hu2 : (top + (a : Int) + n + 1) * g.W ≤ g.H * g.W := Int.mul_le_mul_of_nonneg_right (by omega) (by omega)
   rw [Int.mul_comm g.H g.W] at hu2
   have hsrc : ((top + (a : Int) + n + 1) * g.W).toNat - ((top + (a : Int) + n) * g.W).toNat = g.W.toNat := by omega
   refine WC.rH (hs29.rm L17) hs29 (fun _ hs31 => ?_)
   refine WH.rn [0, 1, 3, 4] (hs31.rm L17) [0, 2] rfl rfl (WH.o1 2 rfl (WL.cl Tryz.call75 rfl (k48_ r _ _ (ownGridR.ok (B := 549755813888) ho18 (hs31.ow L17) hsmr) ?_ ?_ ?_ ?_) ?_))
   iterate 4 first | assumption | rfl | omega
   rintro _ whs32 ⟨rfl, hs32⟩
   replace hs32 := hs31.call0 hs32
   refine ⟨_, rfl, WL.nil ⟨(hs32.rm L17), WH.o1 5 rfl (WL.cl Tryz.call75 rfl (k48_ g _ _ (okGridR.st0 f_g hs32) ?_ ?_ ?_ ?_) ?_)⟩⟩
   iterate 4 first | assumption | rfl | omega
   rintro _ whs33 ⟨rfl, hs33⟩
   replace hs33 := hs32.call0 hs33
   refine ⟨_, rfl, WL.nil ⟨(hs33.rm L17), WH.o1 6 rfl ?_⟩⟩
   refine WL.copyF (lo := ((top + (a : Int)) * r.W).toNat) (hs33.fr L17) ho18 (SlF.cutC (lo := (((top + (a : Int)) + n) * g.W).toNat) (hi := ((((top + (a : Int)) + n) + 1) * g.W).toNat) (SlF.st0 f_g.Cells hs33) (by refine ⟨?_, ?_, ?_⟩ <;> (omega))) Tryz.underlying29 Tryz.underlying29 inf108 rfl rfl rfl rfl rfl rfl rfl (.inl rfl) ?_ ?_ (fun L34 _ hs35 ho36 => ?_)
   · omega
   · omega
   replace hs35 := St.back [_, _, _] hs35
   refine WL.nil ⟨(hs35.rm L34), WH.dn (hK24 _ _ (WC.region (WL.r 3 hs35 [] rfl (WL.nil (tkN ?_)))))⟩
   have hF37 := (St.grp1 (L1 := L34) [_] ((((hs35.fb b2).fb b4).fr L34).fb b11))
   refine ⟨sbF rfl, _, hF37, _, ?_, a + 1, ⟨r.W, r.H, SlD.of ho36⟩, L34, rfl, rfl, ?_, ?_, ?_, ho36, ⟨?_, trivial⟩⟩
   · omega
   · omega
   · exact ⟨p1.1, p1.2.1, by simp only [List.length_append, List.length_take, List.length_drop]; omega⟩
   · intro k hk; show cat _ k = partF g.dat (rollF g.dat top bot n) (top.toNat * g.dat.W.toNat) ((a + 1) * g.dat.W.toNat) k; first | exact roll_row ht.1 hlo0 (by show _ = g.W.toNat; (try simp only [List.length_replicate]); omega) (by first | (simp only [List.length_take, List.length_drop]; omega) | (simp only [List.length_replicate]; omega)) (by (try simp only [List.length_replicate]); omega) (by omega) hab (fun j hj => by have _ := hin; rw [if_pos hin]; exact roll_src (by omega) (by show 0 ≤ g.W; omega) rfl hsrc hj) (p2 k hk) | exact roll_row ht.1 hlo0 (by show _ = g.W.toNat; (try simp only [List.length_replicate]); omega) (by first | (simp only [List.length_take, List.length_drop]; omega) | (simp only [List.length_replicate]; omega)) (by (try simp only [List.length_replicate]); omega) (by omega) hab (fun j hj => by rw [if_neg hout]; exact cat_rep hj) (p2 k hk)
   · (refine congrArg some (congrArg (Value.int _) ?_); omega)
  have hout : ¬ (top ≤ top + (a : Int) + n ∧ top + (a : Int) + n ≤ bot) := by intro h8; have h9 := h30; simp [within] at h9; omega
  refine WC.rH (hs29.rm L17) hs29 (fun _ hs38 => ?_)
  refine WH.rn [0, 1, 5, 6] (hs38.rm L17) [0, 2] rfl rfl (WH.o1 2 rfl (WL.cl Tryz.call75 rfl (k48_ r _ _ (ownGridR.ok (B := 549755813888) ho18 (hs38.ow L17) hsmr) ?_ ?_ ?_ ?_) ?_))
  iterate 4 first | assumption | rfl | omega
  rintro _ whs39 ⟨rfl, hs39⟩
  replace hs39 := hs38.call0 hs39
  refine ⟨_, rfl, WL.nil ⟨(hs39.rm L17), WH.o1 3 rfl (WL.cl Tryz.call150 rfl (k21_ _) ?_)⟩⟩
  rintro _ whs40 ⟨rfl, hs40⟩
  replace hs40 := hs39.call0 hs40
  refine ⟨_, rfl, WL.nil ⟨(hs40.rm L17), WH.o1 4 rfl (WL.buildF (F := encCell) hs40 ([blankC]) Tryz.runUnderlying29 Tryz.sizeOf108 Tryz.zeroValue108 rfl rfl rfl rfl rfl rfl rfl rfl rfl rfl rfl rfl (fun A44 c45 L41 whs42 hs42 ho43 => ?_))⟩⟩
  replace hs42 := St.back [_, _, _] hs42
  refine WL.nil ⟨((hs42.rm L41).rm L17), WH.o1 7 rfl (WL.cl Tryz.call149 rfl (k25_ _ _ _ _ _ _ (SlF.ofOwn ho43 (hs42.ow L41)) ?_ ?_) ?_)⟩
  iterate 2 first | assumption | rfl | omega
  rintro _ whs46 ⟨A47, c48, L1_49, rfl, hs46, ho50⟩
  replace hs46 := hs42.callF hs46
  refine ⟨_, rfl, ?_⟩
  replace hs46 := St.back [_, _, _] hs46
  refine WL.nil ⟨(((hs46.rm L1_49).rm L41).rm L17), WH.o1 8 rfl (WL.copyF (lo := ((top + (a : Int)) * r.W).toNat) (hs46.fr L17) ho18 (SlF.ofOwn ho50 (hs46.ow L1_49)) Tryz.underlying29 Tryz.underlying29 inf108 rfl rfl rfl rfl rfl rfl rfl (.inl rfl) ?_ ?_ (fun L51 _ hs52 ho53 => ?_))⟩
  · omega
  · omega
  replace hs52 := St.back [_, _, _] hs52
  refine WL.nil ⟨(((hs52.rm L51).rm L1_49).rm L41), WH.dn (hK24 _ _ (WC.region (WL.r 3 hs52 [] rfl (WL.nil (tkN ?_)))))⟩
  replace hs52 := ((hs52.rm L1_49).rm L41)
  have hF54 := (St.grp1 (L1 := L51) [_] ((((hs52.fb b2).fb b4).fr L51).fb b11))
  refine ⟨sbF rfl, _, hF54, _, ?_, a + 1, ⟨r.W, r.H, SlD.of ho53⟩, L51, rfl, rfl, ?_, ?_, ?_, ho53, ⟨?_, trivial⟩⟩
  · omega
  · omega
  · exact ⟨p1.1, p1.2.1, by simp only [List.length_append, List.length_take, List.length_drop]; omega⟩
  · intro k hk; show cat _ k = partF g.dat (rollF g.dat top bot n) (top.toNat * g.dat.W.toNat) ((a + 1) * g.dat.W.toNat) k; first | exact roll_row ht.1 hlo0 (by show _ = g.W.toNat; (try simp only [List.length_replicate]); omega) (by first | (simp only [List.length_take, List.length_drop]; omega) | (simp only [List.length_replicate]; omega)) (by (try simp only [List.length_replicate]); omega) (by omega) hab (fun j hj => by have _ := hin; rw [if_pos hin]; exact roll_src (by omega) (by show 0 ≤ g.W; omega) rfl hsrc hj) (p2 k hk) | exact roll_row ht.1 hlo0 (by show _ = g.W.toNat; (try simp only [List.length_replicate]); omega) (by first | (simp only [List.length_take, List.length_drop]; omega) | (simp only [List.length_replicate]; omega)) (by (try simp only [List.length_replicate]); omega) (by omega) hab (fun j hj => by rw [if_neg hout]; exact cat_rep hj) (p2 k hk)
  · (refine congrArg some (congrArg (Value.int _) ?_); omega)
 refine WC.exit (hK14 _ _ (WC.sr (WL.r 1 hs21 [0] rfl (WL.st tbk hs21 1 rfl rfl (fun _ hs55 => WL.nil (WC.ret (retV1 rfl (resV.cellA tbk hs55 1 rfl rfl rfl rfl) ?_)))))))
 refine ⟨r, _, rfl, (St.keep1 (hs55.fr L17)), ?_, ?_⟩
 · exact ho18
 · exact roll_done hg ht.1 ht.2.1 ht.2.2 (m := n) (by omega) p1.1 p1.2.1 p1.2.2 (.inl rfl) p2
open Go Go.RowKit Go.Shelf
theorem frozen_of_heap {w : World} {b k : Nat} {cl : List Value} {e : TypeId} {lo hi : Nat} (h : w.heap[b]? = some (.cells cl.toArray e (lo, hi))) (hf : hi ≤ lo ∨ hi ≤ k ∨ k < lo) : w.frozen? ⟨b, k, none⟩ = false := by
 simp only [World.frozen?, h, Bool.and_eq_false_iff, decide_eq_false_iff_not]
 omega
theorem some_of_heap {w : World} {b k : Nat} {cl : List Value} {e : TypeId} {fz : Nat × Nat} (h : w.heap[b]? = some (.cells cl.toArray e fz)) (hk : k < cl.length) : (w.cell? ⟨b, k, none⟩).isSome = true := by
 rw [cell_of_heap (v := cl[k]) h (by simp [hk])]; rfl
theorem St.setCells (P : Program) {w0 w : World} {T : List Nat} {L : Hp} (hst : St w0 T L w) (i : Nat) {b off : Nat} {cl vs : List Value} {e : TypeId} {lo hi : Nat} (hi' : nthL L i = some (b, .cells cl.toArray e (lo, hi))) (h1 : ∀ v, v ∈ vs → v.oneCell' = true) (hlt : off + vs.length ≤ cl.length) (hfz : hi ≤ lo ∨ hi ≤ off ∨ off + vs.length ≤ lo) :
  St w0 T (setL L i (.cells (cl.take off ++ vs ++ cl.drop (off + vs.length)).toArray e (lo, hi))) (w.setCells b off vs) := by
 obtain ⟨w', hr, hs⟩ := hst.stored (P := P) i (off := off) hi' h1 hlt hfz
 have hh := (hst.own _ (nthL_mem hi')).1
 have h2 := run_storeCells_cells (P := P) b off vs 0 w (fun j hj => by rw [Nat.add_zero]; exact some_of_heap hh (by omega)) (fun j hj => by rw [Nat.add_zero]; exact frozen_of_heap hh (by omega)) h1
 rw [hr] at h2
 injection h2 with _ h3
 rw [Nat.add_zero] at h3
 exact h3 ▸ hs
section
variable {α : Type} {P Q R : List α} {x : α}
theorem ins_shift (hR : 1 ≤ R.length) :
  ((P ++ Q ++ R).take (P.length + 1) ++ Q ++ (P ++ Q ++ R).drop (P.length + 1 + Q.length)).take P.length ++ [x] ++ ((P ++ Q ++ R).take (P.length + 1) ++ Q ++ (P ++ Q ++ R).drop (P.length + 1 + Q.length)).drop (P.length + 1) = P ++ [x] ++ Q ++ R.drop 1 := by
 have hQR : ((Q ++ R).take 1).length = 1 := by rw [List.length_take, List.length_append]; omega
 have e1 : (P ++ Q ++ R).take (P.length + 1) = P ++ (Q ++ R).take 1 := by rw [List.append_assoc, List.take_length_add_append]
 have e2 : (P ++ Q ++ R).drop (P.length + 1 + Q.length) = R.drop 1 := by rw [show P.length + 1 + Q.length = (P ++ Q).length + 1 by rw [List.length_append]; omega, List.drop_length_add_append]
 rw [e1, e2]
 have e3 : (P ++ (Q ++ R).take 1 ++ Q ++ R.drop 1).take P.length = P := by rw [List.append_assoc, List.append_assoc]; exact List.take_left
 have e4 : (P ++ (Q ++ R).take 1 ++ Q ++ R.drop 1).drop (P.length + 1) = Q ++ R.drop 1 := by
  rw [List.append_assoc (P ++ _), List.drop_left' (by rw [List.length_append]; omega)]
 rw [e3, e4]
 simp only [List.append_assoc]
theorem ins_new (Z : List α) (hZ : Q.length + 1 ≤ Z.length) :
  (((P ++ Z).take P.length ++ [x] ++ (P ++ Z).drop (P.length + 1)).take (P.length + 1) ++ Q ++ ((P ++ Z).take P.length ++ [x] ++ (P ++ Z).drop (P.length + 1)).drop (P.length + 1 + Q.length)) = P ++ [x] ++ Q ++ Z.drop (Q.length + 1) := by
 have e0 : (P ++ Z).take P.length ++ [x] ++ (P ++ Z).drop (P.length + 1) = (P ++ [x]) ++ Z.drop 1 := by
  rw [List.take_left, List.drop_length_add_append]
 have hp : (P ++ [x]).length = P.length + 1 := by simp
 rw [e0, ← hp, List.take_left, List.drop_length_add_append, List.drop_drop, Nat.add_comm 1]
end
theorem rowsI : ∀ l : List Int, rows encI l = l.map (Value.int .i64)
 | [] => rfl
 | x :: l => by rw [rows_cons, rowsI l]; rfl
section
variable {P : Program} {ρ : Ren} {w : World}
theorem search_rd (L : Lays2.n25 P ρ) {A : Option Addr} {n c : Nat} {s : List Int} {x : Int} (f_s : SlF encI w A n s) (hasc : s.Pairwise (· ≤ ·)) (hn : n ≤ 1048576) :
  Calls P (ρ.f 25) #[.slice A n c, .int .i64 x] w fun e w' => e = .returned (.tuple #[.int .i64 (s.countP (· < x) : Nat), .bool (s.contains x)]) ∧ St w [] [] w' := by
 have hl := f_s.len
 by_cases h0 : n = 0
 ·subst h0
  obtain rfl : s = [] := List.eq_nil_of_length_eq_zero hl
  refine (Any.slices_BinarySearch_int_empty L A c x w).mono ?_
  rintro e w' ⟨rfl, rfl⟩
  exact ⟨rfl, St.init _⟩
 ·have hr := f_s.rd
  have hat : ∀ j, (hj : j < s.length) → (rows encI s)[j]? = some (.int .i64 (s.getD j 0)) := fun j hj => by
   rw [rowsI, List.getElem?_map, List.getElem?_eq_getElem hj, List.getD_eq_getElem?_getD, List.getElem?_eq_getElem hj]
   rfl
  cases A with
  | none => have := hr.some_ (by omega); cases this
  | some a =>
   obtain ⟨b, off, sp⟩ := a
   cases sp with
   | some q =>
    have h1 := hr.cell 0 _ (hat 0 (by omega))
    have e1 : (adr (some ⟨b, off, some q⟩)).add 0 = ⟨b, off, some q⟩ := by unfold adr Addr.add; split <;> simp_all
    rw [e1] at h1
    unfold World.cell? at h1
    split at h1 <;> simp at h1
   | none =>
    refine (Any.slices_BinarySearch_int L b off n c s x w (by omega) (by omega) (fun j hj => ?_) (by rw [List.take_of_length_le (by omega)]; exact hasc)).mono ?_
    ·have h1 := hr.cell j _ (hat j hj)
     rwa [show (adr (some ⟨b, off, none⟩)).add j = ⟨b, off + j, none⟩ from addr_at b off j] at h1
    ·rintro e w' ⟨rfl, q, rfl⟩
     rw [List.take_of_length_le (by omega)]
     exact ⟨rfl, ⟨rfl, rfl, rfl, Nat.le_refl _, fun _ _ _ => rfl, fun _ h => (by cases h), List.nodup_nil⟩⟩
theorem insert_own (L : Lays2.n21 P ρ) {v : Value} {s : List Int} {Ls : Hp} {i b c0 : Nat} {x : Int} (o_s : OwnF encI (ρ.t 3) v s Ls) (h_s : ∀ p, p ∈ Ls → w.heap[p.1]? = some p.2) (hi : i ≤ s.length) (hn : s.length ≤ 1048576) (hb : w.heap[b]? = some (.cells [Value.int .i64 x].toArray (ρ.t 3) (0, 0))) (hne : b ∉ Ls.map (·.1)) :
  Calls P (ρ.f 21) #[v, .int .i64 i, .slice (some ⟨b, 0, none⟩) 1 c0] w fun e w' => ∃ A c L1, e = .returned (.slice A (s.length + 1) c) ∧ St w (Ls.map (·.1)) L1 w' ∧ OwnF encI (ρ.t 3) (.slice A (s.length + 1) c) (s.take i ++ [x] ++ s.drop i) L1 := by
 have hst : St w (Ls.map (·.1)) Ls w := St.take w Ls h_s o_s.keys
 have hl : (s.take i ++ [x] ++ s.drop i).length = s.length + 1 := by simp; omega
 have hvs : ∀ j u, [Value.int .i64 x][j]? = some u → w.cell? ⟨b, 0 + j, none⟩ = some u := fun j u hj => by rw [Nat.zero_add]; exact cell_of_heap hb hj
 have h1v : ∀ u ∈ [Value.int .i64 x], u.oneCell' = true := by intro u hu; rw [List.mem_singleton] at hu; subst hu; rfl
 have hsa : w.shape? b = some (ρ.t 3, 1) := by simp [World.shape?, hb]
 have hfa : w.frozen? ⟨b, 0, none⟩ = false := frozen_of_heap hb (by omega)
 have hfe : w.frozen? ⟨b, 1, none⟩ = false := frozen_of_heap hb (by omega)
 have hml : maxLen = 9223372036854775807 := rfl
 -- the parts
 generalize hP : s.take i = p at hl ⊢
 generalize hQ : s.drop i = q at hl ⊢
 have hpq : s = p ++ q := by rw [← hP, ← hQ, List.take_append_drop]
 have hpl : p.length = i := by rw [← hP, List.length_take]; omega
 have hql : q.length = s.length - i := by rw [← hQ, List.length_drop]
 have rl : ∀ l : List Int, (rows encI l).length = l.length := fun l => by rw [rows_len]; exact Nat.mul_one _
 have hrow : rows encI (p ++ [x] ++ q) = rows encI p ++ [Value.int .i64 x] ++ rows encI q := by rw [rows_append, rows_append]; rfl
 have hrl := rl (p ++ [x] ++ q)
 have hrs : rows encI s = rows encI p ++ rows encI q := by rw [hpq, rows_append]
 have htp : (rows encI p ++ rows encI q).take i = rows encI p := List.take_left' (by rw [rl]; exact hpl)
 have hdp : (rows encI p ++ rows encI q).drop i = rows encI q := List.drop_left' (by rw [rl]; exact hpl)
 have rp := rl p
 have rq := rl q
 have hz : ∀ n, (Builtin.zeroCells (Value.int .i64 0).cells n).toList.length = n := fun n => by rw [Array.length_toList, size_zeroCells]; exact Nat.mul_one _
 -- a block that is ours
 have fin : ∀ (w' : World) (g cap lo hi' : Nat) (pre cl : List Value), St w (Ls.map (·.1)) ([(g, .cells (pre ++ cl).toArray (ρ.t 3) (lo, hi'))]) w' → cl.length = cap → s.length + 1 ≤ cap → cap ≤ maxLen → cl.take (s.length + 1) = rows encI (p ++ [x] ++ q) → (hi' ≤ lo ∨ (pre ++ cl).length ≤ lo) →
   ∃ A c L1, (Ending.returned (.slice (some ⟨g, pre.length, none⟩) (s.length + 1) cap)) = .returned (.slice A (s.length + 1) c) ∧ St w (Ls.map (·.1)) L1 w' ∧ OwnF encI (ρ.t 3) (.slice A (s.length + 1) c) (p ++ [x] ++ q) L1 := by
  intro w' g cap lo hi' pre cl hs h1 h2 h3 h4 h5
  refine ⟨_, _, _, rfl, hs, by rw [rows_len], .inr ⟨g, cap, pre.length, pre, cl, (lo, hi'), by rw [hl], rfl, by rw [hl]; exact h2, h3, by rw [h1]; exact (Nat.mul_one _).symm, ?_, h5, rfl⟩⟩
  rw [hl, ← h4]; exact congrArg (fun k => cl.take k) (Nat.mul_one _)
 have growEnd : ∀ (A : Option Addr) (cap : Nat), i = s.length → s.length ≤ cap → cap < s.length + 1 → (A = none → s.length = 0) → (∀ a, A = some a → ∀ j u, (rows encI p ++ rows encI q)[j]? = some u → w.cell? (a.add j) = some u) →
   Calls P (ρ.f 21) #[.slice A s.length cap, .int .i64 i, .slice (some ⟨b, 0, none⟩) 1 c0] w fun e w' => ∃ A c L1, e = .returned (.slice A (s.length + 1) c) ∧ St w (Ls.map (·.1)) L1 w' ∧ OwnF encI (ρ.t 3) (.slice A (s.length + 1) c) (p ++ [x] ++ q) L1 := by
  intro A cap e1 h1 h2 h3 h4
  rw [show ((i : Nat) : Int) = ((s.length : Nat) : Int) by rw [e1]]
  refine (Any2.slices_Insert_int_end_grow L A s.length cap b 0 1 c0 (rows encI p ++ rows encI q) [.int .i64 x] w (by omega) h1 h2 (by omega) (by rw [List.length_append]; omega) rfl h3 h4 hvs h1v).mono ?_
  rintro e w' ⟨rfl, rfl⟩
  have hq0 : q = [] := List.eq_nil_of_length_eq_zero (by omega)
  have hge := grownCap_ge w (s.length + 1) cap (ρ.t 3)
  have hcm : grownCap w (s.length + 1) cap (ρ.t 3) ≤ maxLen := grownCap_le_maxLen w (s.length + 1) cap (ρ.t 3) (by omega)
  have ec : ((rows encI p ++ rows encI q ++ [Value.int .i64 x]).toArray ++ Builtin.zeroCells (Value.int .i64 0).cells (grownCap w (s.length + 1) cap (ρ.t 3) - (s.length + 1))) = ([] ++ (rows encI (p ++ [x] ++ q) ++ (Builtin.zeroCells (Value.int .i64 0).cells (grownCap w (s.length + 1) cap (ρ.t 3) - (s.length + 1))).toList)).toArray := by
   rw [hrow, hq0]; apply Array.toList_inj.1; simp [rows_nil]
  rw [ec]
  refine fin _ w.heap.size _ 0 0 [] (rows encI (p ++ [x] ++ q) ++ (Builtin.zeroCells (Value.int .i64 0).cells (grownCap w (s.length + 1) cap (ρ.t 3) - (s.length + 1))).toList) ?_ ?_ hge hcm (List.take_left' (by omega)) (.inl (Nat.le_refl _))
  ·exact (hst.drew.alloc _).drop (List.Sublist.cons_cons _ (List.nil_sublist _))
  ·rw [List.length_append, hrl, hl, hz]
   omega
 rcases o_s.2 with ⟨⟨A, rfl⟩, h0, rfl⟩ | ⟨g, cap, o, pre, cl, ⟨lo, hi'⟩, rfl, rfl, hnc, hcm, hcl, htk, hfz, rfl⟩
 ·have h2 := growEnd A 0 (by omega) (by omega) (by omega) (fun _ => h0) (fun a _ j u hj => by
   rw [List.getElem?_eq_none (by rw [List.length_append]; omega)] at hj; cases hj)
  rwa [h0] at h2 ⊢
 ·have hh := h_s _ List.mem_cons_self
  simp only at hh hfz
  have hcl' : cl.length = cap := by rw [hcl]; exact Nat.mul_one _
  have htk' : cl.take s.length = rows encI p ++ rows encI q := by rw [← hrs, ← htk]; exact congrArg (fun k => cl.take k) (Nat.mul_one _).symm
  have hpc : (pre ++ cl).length = pre.length + cl.length := List.length_append
  have hcs : ∀ j u, (rows encI p ++ rows encI q)[j]? = some u → w.cell? ⟨g, pre.length + j, none⟩ = some u := fun j u hj => by
   refine cell_of_heap hh ?_
   rw [List.getElem?_append_right (by omega), show pre.length + j - pre.length = j by omega, ← hj, ← htk', List.getElem?_take]
   have hj2 := (List.getElem?_eq_some_iff.1 hj).1
   rw [List.length_append] at hj2
   rw [if_pos (by omega)]
  have hgb : b ≠ g := fun h9 => hne (by rw [h9]; exact List.mem_cons_self)
  by_cases hroom : s.length + 1 ≤ cap
  ·obtain ⟨r, hr⟩ : ∃ r, cl = rows encI p ++ rows encI q ++ r := ⟨cl.drop s.length, by rw [← htk', List.take_append_drop]⟩
   have hrlen : r.length = cap - s.length := by
    have h9 := congrArg List.length hr
    rw [List.length_append, List.length_append] at h9
    omega
   by_cases he : i = s.length
   ·rw [show ((i : Nat) : Int) = ((s.length : Nat) : Int) by rw [he]]
    refine (Any2.slices_Insert_int_end_room L g pre.length s.length cap b 0 1 c0 [.int .i64 x] w (by omega) hroom (by omega) rfl (fun j hj => some_of_heap hh (by omega)) (fun j hj => frozen_of_heap hh (by omega)) hvs h1v).mono ?_
    rintro e w' ⟨rfl, rfl⟩
    have h2 := St.setCells P hst 0 (off := pre.length + s.length) (vs := [.int .i64 x]) rfl h1v (by simp only [List.length_singleton]; omega) (by simp only [List.length_singleton]; omega)
    rw [splice_pre] at h2
    have hq0 : q = [] := List.eq_nil_of_length_eq_zero (by omega)
    refine fin _ g cap lo hi' pre _ h2 ?_ hroom hcm ?_ ?_
    ·simp only [List.length_append, List.length_take, List.length_drop, List.length_singleton]; omega
    ·rw [htk', hrow, hq0, rows_nil, List.append_nil, List.append_nil]
     exact List.take_left' (by rw [List.length_append, rl, List.length_singleton, hpl, he])
    ·simp only [List.length_append, List.length_take, List.length_drop, List.length_singleton]; omega
   ·refine (Any2.slices_Insert_int_shift L g pre.length s.length cap i b 0 1 c0 (rows encI p ++ rows encI q) [.int .i64 x] w (by omega) (by omega) hroom (by omega) hgb (by rw [List.length_append]; omega) rfl hcs (fun j hj => some_of_heap hh (by omega)) (fun j hj => frozen_of_heap hh (by omega)) hvs (fun u hu => by rw [← rows_append] at hu; exact rows_one u hu) h1v (ρ.t 3) (ρ.t 3) 1 (pre ++ cl).length hsa (by simp [World.shape?, hh]) (by omega) hfa hfe).mono ?_
    rintro e w' ⟨rfl, rfl⟩
    rw [hdp]
    have h2 := St.setCells P hst.drew 0 (off := pre.length + (i + 1)) (vs := rows encI q) rfl rows_one (by omega) (by omega)
    rw [splice_pre] at h2
    have h3 := St.setCells P h2 0 (off := pre.length + i) (vs := [.int .i64 x]) rfl h1v (by simp only [List.length_append, List.length_take, List.length_drop, List.length_singleton]; omega) (by simp only [List.length_append, List.length_take, List.length_drop, List.length_singleton]; omega)
    rw [splice_pre] at h3
    have e9 := ins_shift (P := rows encI p) (Q := rows encI q) (R := r) (x := Value.int .i64 x) (by omega)
    rw [← hr, rp, hpl] at e9
    have e8 : cl.take i ++ [Value.int .i64 x] ++ cl.drop (i + 1) = cl.take i ++ [Value.int .i64 x] ++ cl.drop (i + 1) := rfl
    refine fin _ g cap lo hi' pre _ h3 ?_ hroom hcm ?_ ?_
    ·simp only [List.length_append, List.length_take, List.length_drop, List.length_singleton]; omega
    ·rw [show [Value.int .i64 x].length = 1 from rfl, e9, hrow]
     exact List.take_left' (by simp only [List.length_append, List.length_singleton]; omega)
    ·simp only [List.length_append, List.length_take, List.length_drop, List.length_singleton]; omega
  ·by_cases he : i = s.length
   ·exact growEnd _ cap he hnc (by omega) (fun h9 => by cases h9) (fun a ha j u hj => by cases ha; rw [addr_at]; exact hcs j u hj)
   ·refine (Any2.slices_Insert_int_grow L g pre.length s.length cap i b 0 1 c0 (rows encI p ++ rows encI q) [.int .i64 x] w (by omega) (by omega) hnc (by omega) (by omega) (by rw [List.length_append]; omega) rfl hcs hvs (fun u hu => by rw [← rows_append] at hu; exact rows_one u hu) h1v).mono ?_
    rintro e w' ⟨rfl, rfl⟩
    rw [hdp, htp]
    have hge := grownCap_ge w (s.length + 1) cap (ρ.t 3)
    have hcm : grownCap w (s.length + 1) cap (ρ.t 3) ≤ maxLen := grownCap_le_maxLen w (s.length + 1) cap (ρ.t 3) (by omega)
    obtain ⟨Z, hZ⟩ : ∃ Z : List Value, Z = (Builtin.zeroCells (Value.int .i64 0).cells (s.length + 1 - i)).toList ++ (Builtin.zeroCells (Value.int .i64 0).cells (grownCap w (s.length + 1) cap (ρ.t 3) - (s.length + 1))).toList := ⟨_, rfl⟩
    have hZl : Z.length = grownCap w (s.length + 1) cap (ρ.t 3) - i := by
     rw [hZ, List.length_append, hz, hz]
     omega
    have ec : ((rows encI p).toArray ++ Builtin.zeroCells (Value.int .i64 0).cells (s.length + 1 - i) ++ Builtin.zeroCells (Value.int .i64 0).cells (grownCap w (s.length + 1) cap (ρ.t 3) - (s.length + 1))) = (rows encI p ++ Z).toArray := by
     rw [hZ]; apply Array.toList_inj.1; simp
    rw [ec]
    have h1 := hst.alloc (.cells (rows encI p ++ Z).toArray (ρ.t 3) (0, 0))
    have h2 := St.setCells P h1.drew 0 (off := i) (vs := [.int .i64 x]) rfl h1v (by simp only [List.length_append, List.length_singleton]; omega) (.inl (Nat.le_refl _))
    have h3 := St.setCells P h2.drew 0 (off := i + 1) (vs := rows encI q) rfl rows_one (by simp only [List.length_append, List.length_take, List.length_drop, List.length_singleton]; omega) (.inl (Nat.le_refl _))
    have e9 := ins_new (P := rows encI p) (Q := rows encI q) (x := Value.int .i64 x) Z (by omega)
    rw [rp, hpl] at e9
    rw [show [Value.int .i64 x].length = 1 from rfl, e9] at h3
    refine fin _ w.heap.size _ 0 0 [] (rows encI p ++ [Value.int .i64 x] ++ rows encI q ++ Z.drop ((rows encI q).length + 1)) (h3.drop (List.Sublist.cons_cons _ (List.nil_sublist _))) ?_ hge hcm ?_ (.inl (Nat.le_refl _))
    ·simp only [List.length_append, List.length_singleton, List.length_drop]; omega
    ·rw [hrow]
     exact List.take_left' (by simp only [List.length_append, List.length_singleton]; omega)
end
def lays25_ren : Go.Shelf.Ren := ⟨fun | 25 => 82 | 31 => 113 | 32 => 114 | 37 => 147 | n => n, fun | 0 => 0 | 3 => 3 | 4 => 4 | 22 => 26 | 40 => 83 | n => n, fun n => n⟩
theorem lays25 : Go.Proofs.Lays2.n25 Tryz.prog lays25_ren := {
  mixed := by kernel_rfl
  f25 := Tryz.func82.trans (congrArg some (by kernel_rfl))
  f31 := Tryz.func113.trans (congrArg some (by kernel_rfl))
  f32 := Tryz.func114.trans (congrArg some (by kernel_rfl))
  f37 := Tryz.func147.trans (congrArg some (by kernel_rfl))
  t0 := Tryz.underlying0
  a0 := Tryz.isAgg0
  z0 := Tryz.sizeOf0
  v0 := Tryz.zeroValue0
  t3 := Tryz.underlying3
  a3 := Tryz.isAgg3
  z3 := Tryz.sizeOf3
  v3 := Tryz.zeroValue3
  t4 := Tryz.underlying4
  a4 := Tryz.isAgg4
  z4 := Tryz.sizeOf4
  v4 := Tryz.zeroValue4
  t22 := Tryz.underlying26
  a22 := Tryz.isAgg26
  z22 := Tryz.sizeOf26
  v22 := Tryz.zeroValue26
  t40 := Tryz.underlying83
  a40 := Tryz.isAgg83
  z40 := Tryz.sizeOf83
  v40 := Tryz.zeroValue83 }
def lays21_ren : Go.Shelf.Ren := ⟨fun | 21 => 83 | 27 => 115 | 28 => 116 | 35 => 148 | 39 => 166 | n => n, fun | 0 => 0 | 3 => 3 | 4 => 4 | 22 => 26 | n => n, fun n => n⟩
theorem lays21 : Go.Proofs.Lays2.n21 Tryz.prog lays21_ren := {
  mixed := by kernel_rfl
  f21 := Tryz.func83.trans (congrArg some (by kernel_rfl))
  f27 := Tryz.func115.trans (congrArg some (by kernel_rfl))
  f28 := Tryz.func116.trans (congrArg some (by kernel_rfl))
  f35 := Tryz.func148.trans (congrArg some (by kernel_rfl))
  f39 := Tryz.func166.trans (congrArg some (by kernel_rfl))
  t0 := Tryz.underlying0
  a0 := Tryz.isAgg0
  z0 := Tryz.sizeOf0
  v0 := Tryz.zeroValue0
  t3 := Tryz.underlying3
  a3 := Tryz.isAgg3
  z3 := Tryz.sizeOf3
  v3 := Tryz.zeroValue3
  t4 := Tryz.underlying4
  a4 := Tryz.isAgg4
  z4 := Tryz.sizeOf4
  v4 := Tryz.zeroValue4
  t22 := Tryz.underlying26
  a22 := Tryz.isAgg26
  z22 := Tryz.sizeOf26
  v22 := Tryz.zeroValue26
  i3 := by kernel_rfl }
theorem k72_ (A_s : Option Addr) (n_s c_s : Nat) (s : List Int) (x : Int) (w : World) (f_s : SlF encI w A_s n_s s) (hp : s.Pairwise (· ≤ ·)) (hn : n_s ≤ 1048576) :
    Calls Tryz.prog 82 #[.slice A_s n_s c_s, i64 x] w fun e w' => e = .returned (.tuple #[i64 (lowb s x), .bool (decide (x ∈ s))]) ∧ St w [] [] w' := by
 refine (search_rd lays25 f_s hp hn).mono ?_
 rintro e w' ⟨rfl, h1⟩
 refine ⟨?_, h1⟩
 rw [countP_lowb, List.contains_eq_mem]
theorem k73_ (v_s : Value) (s : List Int) (L_s : Hp) (i : Nat) (b_v : Nat) (x : Int) (w : World) (o_s : OwnF encI 3 v_s s L_s) (h_s : Hh w L_s) (hv : w.heap[b_v]? = some (.cells [Value.int .i64 x].toArray 3 (0, 0))) (hvn : b_v ∉ L_s.map (·.1)) (hi : i ≤ s.length) (hn : s.length ≤ 1048576) :
    Calls Tryz.prog 83 #[v_s, .int .i64 i, .slice (some ⟨b_v, 0, none⟩) 1 1] w fun e w' => ∃ A c L1, e = .returned (.slice A (s.length + 1) c) ∧ St w (L_s.map (·.1)) L1 w' ∧ OwnF encI 3 (.slice A (s.length + 1) c) (insL s i x) L1 := by
 exact (insert_own lays21 o_s h_s hi hn hv hvn).mono fun e w' h => h
theorem k74_ (A_l : Option Addr) (n_l c_l : Nat) (l : List Int) (x : Int) (w : World) (f_l : SlF encI w A_l n_l l) (hn : n_l ≤ 549755813888) :
    Calls Tryz.prog 136 #[.slice A_l n_l c_l, i64 x] w fun e w' => e = .returned (.bool (l.contains x)) ∧ St w [] [] w' := by
 have hl := f_l.len
 refine enter 17 Tryz.func136 rfl Tryz.ntmps136 rfl rfl ?_
 have hs1 := St.init w
 refine WC.r1 hs1 [] rfl (WC.seq (fun K2 hK2 => WC.r1 hs1 [] rfl (WC.block ?_)))
 refine WC.lS [1, 7, 8] rfl hs1 (fun k_ f w' => ∃ (i : Nat), k_ = n_l - i ∧ (i ≤ n_l) ∧ (∀ j, j < i → iat l j ≠ x) ∧ Sub [(9, .int .i64 i)] f) ((fun (i : Nat) => n_l - i) (0)) ?_ ?_
 ·refine ⟨0, rfl, ?_, ?_, ⟨rfl, trivial⟩⟩
  · exact Nat.zero_le _
  · exact fun j hj => absurd hj (by omega)
 clear hs1
 rintro _ f w ⟨i, rfl, p0, p1, hG⟩ hF hs3
 refine WC.sub _ (hG.app hF) ?_
 clear hG hF
 refine WC.r1 hs3 [] rfl (WC.seq (fun K4 hK4 => ?_))
 refine WC.cD rfl (fun qh5 => ?_) (fun qh5 => ?_)
 ·refine WC.skip (hK4 _ _ (WC.seq (fun K6 hK6 => WC.block (WC.sr ?_))))
  refine WL.val rfl rfl rfl (Run.idxN Tryz.runUnderlying26 Tryz.sizeOf3 rfl rfl rfl ?_ ?_ ?_) ?_
  · exact SlF.some_ (SlF.st0 f_l hs3)
  · omega
  · omega
  refine WL.val rfl rfl rfl (Run.load Tryz.isAgg3 rfl rfl (SlF.one1 (SlF.st0 f_l hs3) ?_ rfl)) ?_
  · omega
  refine WL.r 1 hs3 [] rfl (WL.nil (WC.r1 hs3 [] rfl (WC.cD rfl (fun qh7 => ?_) (fun qh7 => ?_))))
  ·refine WC.r1 hs3 [] rfl (WC.ret (ibR (tkR (tkR (ibR (tkR ?_))))))
   clear hK6 hK2
   refine rtv rfl rfl hs3 ?_
   congr 1; symm; rw [List.contains_iff_mem]; rw [← qh7]; exact gat_mem (F := encI) (by omega)
  refine WC.skip (hK6 _ _ (WC.region (WL.r 2 hs3 [] rfl (WL.nil (tkN ?_)))))
  refine ⟨sbF rfl, hs3, _, ?_, i + 1, rfl, ?_, ?_, ⟨rfl, trivial⟩⟩
  · omega
  · omega
  · intro j hj; rcases Nat.lt_or_ge j i with h_ | h_
    · exact p1 j h_
    · obtain rfl : j = i := by omega
      exact qh7
 refine WC.exit (hK2 _ _ (WC.r1 hs3 [] rfl (WC.ret (rtv rfl rfl hs3 ?_))))
 congr 1; symm; rw [← Bool.not_eq_true, List.contains_iff_mem]; exact int_not (fun j hj => p1 j (by omega))
theorem built_24 : Tryz.prog.built 24 [] = some (List.toArray [.int .i64 0, .int .i64 0, .bool false, .bool false, .bool false]) := by kernel_rfl
theorem k75_ (b_a : Nat) (a : AttrD) (n : Int) (w : World) (hb : w.heap[b_a]? = some (Obj.cells (List.toArray [i64 a.Fg, i64 a.Bg, .bool a.Bold, .bool a.Under, .bool a.Turn]) 24 (0, 0))) (hn : 0 ≤ n ∧ n ≤ 9999) :
    Calls Tryz.prog 24 #[.pointer (some ⟨b_a, 0, none⟩), i64 n] w fun e w' => e = .returned (.tuple #[]) ∧ St w [b_a] [(b_a, Obj.cells (List.toArray [i64 (sgrOne a n).Fg, i64 (sgrOne a n).Bg, .bool (sgrOne a n).Bold, .bool (sgrOne a n).Under, .bool (sgrOne a n).Turn]) 24 (0, 0))] w' := by
 refine enter 74 Tryz.func24 rfl Tryz.ntmps24 rfl rfl ?_
 have hs1 := St.take1 w b_a _ hb
 refine WC.block (WC.r1 hs1 [] rfl (WC.cq rfl (fun h2 qh2 => ?_) (fun h2 qh2 => ?_)))
 ·have e0 : n = 0 := by have h9 := h2; (try simp only [within_iff] at h9); first | exact h9 | (simp at h9; omega)
  refine WC.region (WL.r 1 hs1 [] rfl ?_)
  refine WL.val rfl rfl rfl (Run.build rfl rfl rfl rfl (built_24)) (WL.r 1 hs1 [] rfl (WL.st tbk hs1 0 rfl rfl (fun _ hs3 => WL.nil (ibN (retK0 rfl (⟨rfl, ?_⟩))))))
  unfold sgrOne
  rw [if_pos e0]
  exact hs3
 have e0 : ¬ (n = 0) := by have h9 := h2; (try simp only [within_not] at h9); first | exact h9 | (simp at h9; omega)
 refine WC.sr (WL.r 3 hs1 [] rfl (WL.pO tbk 2 Acts.nil hs1 [] rfl rfl rfl rfl (fun g_ => trivial) (WL.r 1 hs1 [] rfl (WL.nil (WC.cq rfl (fun h4 qh4 => ?_) (fun h4 qh4 => ?_))))))
 ·have e1 : n = 1 ∨ n = 22 := by have h9 := h4; (try simp only [within_iff] at h9); first | exact h9 | (simp at h9; omega)
  refine WC.region (WL.r 5 hs1 [] rfl (WL.st tbk hs1 0 rfl rfl (fun _ hs5 => WL.nil (ibN (retK0 rfl (⟨rfl, ?_⟩))))))
  unfold sgrOne
  rw [if_neg e0, if_pos e1]
  exact hs5
 have e1 : ¬ (n = 1 ∨ n = 22) := by have h9 := h4; (try simp only [within_not] at h9); first | exact h9 | (simp at h9; omega)
 refine WC.sr (WL.r 3 hs1 [] rfl (WL.pO tbk 2 Acts.nil hs1 [] rfl rfl rfl rfl (fun g_ => trivial) (WL.r 1 hs1 [] rfl (WL.nil (WC.cq rfl (fun h6 qh6 => ?_) (fun h6 qh6 => ?_))))))
 ·have e4 : n = 4 ∨ n = 24 := by have h9 := h6; (try simp only [within_iff] at h9); first | exact h9 | (simp at h9; omega)
  refine WC.region (WL.r 5 hs1 [] rfl (WL.st tbk hs1 0 rfl rfl (fun _ hs7 => WL.nil (ibN (retK0 rfl (⟨rfl, ?_⟩))))))
  unfold sgrOne
  rw [if_neg e0, if_neg e1, if_pos e4]
  exact hs7
 have e4 : ¬ (n = 4 ∨ n = 24) := by have h9 := h6; (try simp only [within_not] at h9); first | exact h9 | (simp at h9; omega)
 refine WC.sr (WL.r 3 hs1 [] rfl (WL.pO tbk 2 Acts.nil hs1 [] rfl rfl rfl rfl (fun g_ => trivial) (WL.r 1 hs1 [] rfl (WL.nil (WC.cq rfl (fun h8 qh8 => ?_) (fun h8 qh8 => ?_))))))
 ·have e7 : n = 7 ∨ n = 27 := by have h9 := h8; (try simp only [within_iff] at h9); first | exact h9 | (simp at h9; omega)
  refine WC.region (WL.r 5 hs1 [] rfl (WL.st tbk hs1 0 rfl rfl (fun _ hs9 => WL.nil (ibN (retK0 rfl (⟨rfl, ?_⟩))))))
  unfold sgrOne
  rw [if_neg e0, if_neg e1, if_neg e4, if_pos e7]
  exact hs9
 have e7 : ¬ (n = 7 ∨ n = 27) := by have h9 := h8; (try simp only [within_not] at h9); first | exact h9 | (simp at h9; omega)
 refine WC.sr (WL.r 1 hs1 [] rfl (WL.cl Tryz.call23 rfl (k1_ _ _ _ _) ?_))
 rintro _ whs10 ⟨rfl, hs10⟩
 replace hs10 := hs1.call0 hs10
 refine ⟨_, rfl, WL.r 1 hs10 [] rfl (WL.nil (WC.cq rfl (fun h11 qh11 => ?_) (fun h11 qh11 => ?_)))⟩
 ·have e30 : 30 ≤ n ∧ n ≤ 37 := by have h9 := h11; (try simp only [within_iff] at h9); first | exact h9 | (simp at h9; omega)
  refine WC.region (WL.r 5 hs10 [] rfl (WL.st tbk hs10 0 rfl rfl (fun _ hs12 => WL.nil (ibN (retK0 rfl (⟨rfl, ?_⟩))))))
  unfold sgrOne
  rw [if_neg e0, if_neg e1, if_neg e4, if_neg e7, if_pos e30]
  exact hs12
 have e30 : ¬ (30 ≤ n ∧ n ≤ 37) := by have h9 := h11; (try simp only [within_not] at h9); first | exact h9 | (simp at h9; omega)
 refine WC.r1 hs10 [] rfl (WC.cq rfl (fun h13 qh13 => ?_) (fun h13 qh13 => ?_))
 ·have e39 : n = 39 := by have h9 := h13; (try simp only [within_iff] at h9); first | exact h9 | (simp at h9; omega)
  refine WC.region (WL.r 3 hs10 [] rfl (WL.st tbk hs10 0 rfl rfl (fun _ hs14 => WL.nil (ibN (retK0 rfl (⟨rfl, ?_⟩))))))
  unfold sgrOne
  rw [if_neg e0, if_neg e1, if_neg e4, if_neg e7, if_neg e30, if_pos e39]
  exact hs14
 have e39 : ¬ (n = 39) := by have h9 := h13; (try simp only [within_not] at h9); first | exact h9 | (simp at h9; omega)
 refine WC.sr (WL.r 1 hs10 [] rfl (WL.cl Tryz.call23 rfl (k1_ _ _ _ _) ?_))
 rintro _ whs15 ⟨rfl, hs15⟩
 replace hs15 := hs10.call0 hs15
 refine ⟨_, rfl, WL.r 1 hs15 [] rfl (WL.nil (WC.cq rfl (fun h16 qh16 => ?_) (fun h16 qh16 => ?_)))⟩
 ·have e40 : 40 ≤ n ∧ n ≤ 47 := by have h9 := h16; (try simp only [within_iff] at h9); first | exact h9 | (simp at h9; omega)
  refine WC.region (WL.r 5 hs15 [] rfl (WL.st tbk hs15 0 rfl rfl (fun _ hs17 => WL.nil (ibN (retK0 rfl (⟨rfl, ?_⟩))))))
  unfold sgrOne
  rw [if_neg e0, if_neg e1, if_neg e4, if_neg e7, if_neg e30, if_neg e39, if_pos e40]
  exact hs17
 have e40 : ¬ (40 ≤ n ∧ n ≤ 47) := by have h9 := h16; (try simp only [within_not] at h9); first | exact h9 | (simp at h9; omega)
 refine WC.r1 hs15 [] rfl (WC.cq rfl (fun h18 qh18 => ?_) (fun h18 qh18 => ?_))
 ·have e49 : n = 49 := by have h9 := h18; (try simp only [within_iff] at h9); first | exact h9 | (simp at h9; omega)
  refine WC.region (WL.r 3 hs15 [] rfl (WL.st tbk hs15 0 rfl rfl (fun _ hs19 => WL.nil (ibN (retK0 rfl (⟨rfl, ?_⟩))))))
  unfold sgrOne
  rw [if_neg e0, if_neg e1, if_neg e4, if_neg e7, if_neg e30, if_neg e39, if_neg e40, if_pos e49]
  exact hs19
 have e49 : ¬ (n = 49) := by have h9 := h18; (try simp only [within_not] at h9); first | exact h9 | (simp at h9; omega)
 refine WC.skip (ibN (retK0 rfl (⟨rfl, ?_⟩)))
 unfold sgrOne
 rw [if_neg e0, if_neg e1, if_neg e4, if_neg e7, if_neg e30, if_neg e39, if_neg e40, if_neg e49]
 exact hs15
theorem k76_ (a_Fg : Int) (a_Bg : Int) (a_Bold : Bool) (a_Under : Bool) (a_Turn : Bool) (A_l : Option Addr) (n_l c_l : Nat) (l : List Int) (w : World) (f_l : SlF encI w A_l n_l l) (hl : areArgs l = true) (hn : n_l ≤ 549755813888) :
    Calls Tryz.prog 11 #[.agg #[i64 a_Fg, i64 a_Bg, .bool a_Bold, .bool a_Under, .bool a_Turn], .slice A_l n_l c_l] w fun e w' => ∃ r : AttrD, e = .returned (.agg #[i64 r.Fg, i64 r.Bg, .bool r.Bold, .bool r.Under, .bool r.Turn]) ∧ St w [] [] w' ∧ r = sgrRes (⟨a_Fg, a_Bg, a_Bold, a_Under, a_Turn⟩ : AttrD) l := by
 have hll := f_l.len
 refine enter 25 Tryz.func11 rfl Tryz.ntmps11 rfl rfl ?_
 have hs1 := St.init w
 refine WC.sr (WL.bx hs1 rfl (fun b2 _ hs3 => WL.al hs3 Tryz.zeroValue24 rfl rfl (fun b4 _ hs5 => WL.nil (WC.seq (fun K6 hK6 => WC.sr (WL.r 1 hs5 [1] rfl (WL.cl Tryz.call10 rfl (k4_ _ _ _ _ _ _) ?_)))))))
 rintro _ whs7 ⟨rfl, hs7⟩
 replace hs7 := hs5.call0 hs7
 refine ⟨_, rfl, WL.r 1 hs7 [] rfl (WL.nil (WC.cq rfl (fun h8 qh8 => ?_) (fun h8 qh8 => ?_)))⟩
 ·have hk : ¬ (attrOk a_Fg a_Bg = true ∧ 0 < l.length) := by rintro ⟨z7, z8⟩; have h9 := h8; first | (simp [z7] at h9; omega) | (simp [z7] at h9)
  refine WC.sr ?_
  refine WL.val rfl rfl rfl (Run.build rfl rfl rfl rfl (built_24)) (WL.st tbk hs7 0 rfl rfl (fun _ hs9 => WL.nil (WC.ret (tkR ?_))))
  clear hK6
  refine retV1 rfl (resV.cellA tbk hs9 0 rfl rfl rfl rfl) ?_
  exact ⟨⟨0, 0, false, false, false⟩, rfl, hs9.nil, by unfold sgrRes; rw [if_neg hk]⟩
 have hc0 := h8
 refine WC.skip (hK6 _ _ (WC.seq (fun K10 hK10 => WC.r1 hs7 [] rfl ?_)))
 refine WC.cq rfl (fun h11 qh11 => ?_) (fun h11 qh11 => ?_)
 ·have hk : ¬ (attrOk a_Fg a_Bg = true ∧ 0 < l.length) := by rintro ⟨z7, z8⟩; have h9 := h11; first | (simp [z7] at h9; omega) | (simp [z7] at h9)
  refine WC.sr ?_
  refine WL.val rfl rfl rfl (Run.build rfl rfl rfl rfl (built_24)) (WL.st tbk hs7 0 rfl rfl (fun _ hs12 => WL.nil (WC.ret (tkR ?_))))
  clear hK10
  refine retV1 rfl (resV.cellA tbk hs12 0 rfl rfl rfl rfl) ?_
  exact ⟨⟨0, 0, false, false, false⟩, rfl, hs12.nil, by unfold sgrRes; rw [if_neg hk]⟩
 have hc1 := h11
 have hk2 : attrOk a_Fg a_Bg = true ∧ 0 < l.length := by (try simp at hc0); (try simp at hc1); first | exact ⟨hc0, by omega⟩ | exact ⟨hc0.1, by omega⟩
 refine WC.skip (hK10 _ _ (WC.seq (fun K13 hK13 => WC.r1 hs7 [] rfl (WC.block ?_))))
 have hM14 := (St.grp0 [_] (hs7.fb b2))
 refine WC.lV [2, 4, 9, 13, 15, 16] rfl hM14 (fun k_ (a_ : Hp) f => ∃ (i : Nat) (q : AttrD), k_ = n_l - i ∧ a_ = [(b2, .cells (List.toArray [i64 q.Fg, i64 q.Bg, .bool q.Bold, .bool q.Under, .bool q.Turn]) 24 (0, 0))] ∧ (i ≤ n_l) ∧ (q = sgrAll (⟨a_Fg, a_Bg, a_Bold, a_Under, a_Turn⟩ : AttrD) (l.take i)) ∧ Sub [(17, .int .i64 i)] f) (((fun (i : Nat) (q : AttrD) => n_l - i) (0) ((⟨a_Fg, a_Bg, a_Bold, a_Under, a_Turn⟩ : AttrD)))) ?_ ?_
 ·refine ⟨0, (⟨a_Fg, a_Bg, a_Bold, a_Under, a_Turn⟩ : AttrD), rfl, rfl, ?_, ?_, ⟨rfl, trivial⟩⟩
  · exact Nat.zero_le _
  · rfl
 rintro _ _ f w ⟨i, q, rfl, rfl, p0, p1, hG⟩ hF hs15
 refine WC.sub _ (hG.app hF) ?_
 clear hG hF
 replace hs15 := St.ungrp0 [_] hs15
 have hs16 := ((hs15.fb b4).fb b2)
 refine WC.r1 hs16 [] rfl (WC.seq (fun K17 hK17 => ?_))
 refine WC.cq rfl (fun h18 qh18 => ?_) (fun h18 qh18 => ?_)
 ·have hnn := (areArgs_iff.1 hl).2 _ (gat_mem (F := encI) (show i < l.length by omega))
  refine WC.skip (hK17 _ _ (WC.seq (fun K19 hK19 => WC.block (WC.sr ?_))))
  refine WL.val rfl rfl rfl (Run.idxN Tryz.runUnderlying26 Tryz.sizeOf3 rfl rfl rfl ?_ ?_ ?_) ?_
  · exact SlF.some_ (SlF.st0 f_l hs16)
  · omega
  · omega
  refine WL.val rfl rfl rfl (Run.load Tryz.isAgg3 rfl rfl (SlF.one1 (SlF.st0 f_l hs16) ?_ rfl)) ?_
  · omega
  refine WL.r 1 hs16 [] rfl (WL.nil (WC.region (WL.r 1 hs16 [] rfl ?_)))
  have hF20 : St _ _ ([(b2, _)] ++ _) _ := hs16
  refine WL.call rfl rfl rfl (Run.call Tryz.call24 rfl rfl rfl) (k75_ _ q _ _ (hF20.own _ List.mem_cons_self).1 ?_) ?_
  · omega
  rintro _ whs21 ⟨rfl, hs21⟩
  replace hs21 := St.lend hF20 hs21
  refine ⟨_, rfl, WL.nil (hK19 _ _ (WC.region (WL.r 2 hs21 [] rfl (WL.nil (tkN ?_)))))⟩
  have hF22 := (St.grp0 [_] ((hs21.fb b4).fb b2))
  refine ⟨sbF rfl, _, hF22, _, ?_, i + 1, (sgrOne q (gat encI l i)), rfl, rfl, ?_, ?_, ⟨rfl, trivial⟩⟩
  · omega
  · omega
  · rw [sgrAll_take (by omega), ← p1]
 refine WC.exit (hK13 _ _ (WC.sr (WL.r 1 hs16 [0] rfl (WL.st tbk hs16 1 rfl rfl (fun _ hs23 => WL.nil (WC.ret (retV1 rfl (resV.cellA tbk hs23 1 rfl rfl rfl rfl) ?_)))))))
 exact ⟨q, rfl, hs23.nil, by unfold sgrRes; rw [if_pos hk2, p1, List.take_of_length_le (by omega)]⟩
theorem k77_ (a_Fg : Int) (a_Bg : Int) (a_Bold : Bool) (a_Under : Bool) (a_Turn : Bool) (n : Int) (w : World) (hn : 0 ≤ n ∧ n ≤ 9999) :
    Calls Tryz.prog 174 #[.agg #[i64 a_Fg, i64 a_Bg, .bool a_Bold, .bool a_Under, .bool a_Turn], i64 n] w fun e w' => ∃ r : AttrD, e = .returned (.agg #[i64 r.Fg, i64 r.Bg, .bool r.Bold, .bool r.Under, .bool r.Turn]) ∧ St w [] [] w' ∧ r = sgrOne (⟨a_Fg, a_Bg, a_Bold, a_Under, a_Turn⟩ : AttrD) n := by
 refine enter 68 Tryz.func174 rfl Tryz.ntmps174 rfl rfl ?_
 have hs1 := St.init w
 refine WC.sr (WL.bx hs1 rfl (fun b2 _ hs3 => WL.al hs3 Tryz.zeroValue24 rfl rfl (fun b4 _ hs5 => WL.nil (WC.seq (fun K6 hK6 => WC.block (WC.r1 hs5 [] rfl ?_))))))
 refine WC.cq rfl (fun h7 qh7 => ?_) (fun h7 qh7 => ?_)
 ·have e0 : n = 0 := by have h9 := h7; simp at h9; first | exact h9 | omega
  refine WC.sr ?_
  refine WL.val rfl rfl rfl (Run.build rfl rfl rfl rfl (built_24)) (WL.st tbk hs5 0 rfl rfl (fun _ hs8 => WL.nil (WC.ret (ibR (tkR ?_)))))
  clear hK6
  refine retV1 rfl (resV.cellA tbk hs8 0 rfl rfl rfl rfl) (⟨sgrOne (⟨a_Fg, a_Bg, a_Bold, a_Under, a_Turn⟩ : AttrD) n, congrArg Ending.returned ?_, hs8.nil, rfl⟩)
  unfold sgrOne
  rw [if_pos e0]
  try rfl
 have e0 : ¬ (n = 0) := by intro h8; have h9 := h7; simp at h9; omega
 refine WC.sr (WL.r 3 hs5 [] rfl (WL.pO tbk 2 Acts.nil hs5 [] rfl rfl rfl rfl (fun g_ => trivial) (WL.r 1 hs5 [] rfl (WL.nil (WC.cq rfl (fun h9 qh9 => ?_) (fun h9 qh9 => ?_))))))
 ·have e1 : n = 1 ∨ n = 22 := by have h9 := h9; simp at h9; first | exact h9 | omega
  refine WC.region (WL.r 3 hs5 [] rfl (WL.st tbk hs5 1 rfl rfl (fun _ hs10 => WL.nil (hK6 _ _ (WC.sr (WL.r 1 hs10 [1] rfl (WL.st tbk hs10 0 rfl rfl (fun _ hs11 => ?_))))))))
  refine WL.nil (WC.ret (retV1 rfl (resV.cellA tbk hs11 0 rfl rfl rfl rfl) (⟨sgrOne (⟨a_Fg, a_Bg, a_Bold, a_Under, a_Turn⟩ : AttrD) n, congrArg Ending.returned ?_, hs11.nil, rfl⟩)))
  unfold sgrOne
  rw [if_neg e0, if_pos e1]
  try rfl
 have e1 : ¬ (n = 1 ∨ n = 22) := by intro h8; have h9 := h9; simp at h9; omega
 refine WC.sr (WL.r 3 hs5 [] rfl (WL.pO tbk 2 Acts.nil hs5 [] rfl rfl rfl rfl (fun g_ => trivial) (WL.r 1 hs5 [] rfl (WL.nil (WC.cq rfl (fun h12 qh12 => ?_) (fun h12 qh12 => ?_))))))
 ·have e4 : n = 4 ∨ n = 24 := by have h9 := h12; simp at h9; first | exact h9 | omega
  refine WC.region (WL.r 3 hs5 [] rfl (WL.st tbk hs5 1 rfl rfl (fun _ hs13 => WL.nil (hK6 _ _ (WC.sr (WL.r 1 hs13 [1] rfl (WL.st tbk hs13 0 rfl rfl (fun _ hs14 => ?_))))))))
  refine WL.nil (WC.ret (retV1 rfl (resV.cellA tbk hs14 0 rfl rfl rfl rfl) (⟨sgrOne (⟨a_Fg, a_Bg, a_Bold, a_Under, a_Turn⟩ : AttrD) n, congrArg Ending.returned ?_, hs14.nil, rfl⟩)))
  unfold sgrOne
  rw [if_neg e0, if_neg e1, if_pos e4]
  try rfl
 have e4 : ¬ (n = 4 ∨ n = 24) := by intro h8; have h9 := h12; simp at h9; omega
 refine WC.sr (WL.r 3 hs5 [] rfl (WL.pO tbk 2 Acts.nil hs5 [] rfl rfl rfl rfl (fun g_ => trivial) (WL.r 1 hs5 [] rfl (WL.nil (WC.cq rfl (fun h15 qh15 => ?_) (fun h15 qh15 => ?_))))))
 ·have e7 : n = 7 ∨ n = 27 := by have h9 := h15; simp at h9; first | exact h9 | omega
  refine WC.region (WL.r 3 hs5 [] rfl (WL.st tbk hs5 1 rfl rfl (fun _ hs16 => WL.nil (hK6 _ _ (WC.sr (WL.r 1 hs16 [1] rfl (WL.st tbk hs16 0 rfl rfl (fun _ hs17 => ?_))))))))
  refine WL.nil (WC.ret (retV1 rfl (resV.cellA tbk hs17 0 rfl rfl rfl rfl) (⟨sgrOne (⟨a_Fg, a_Bg, a_Bold, a_Under, a_Turn⟩ : AttrD) n, congrArg Ending.returned ?_, hs17.nil, rfl⟩)))
  unfold sgrOne
  rw [if_neg e0, if_neg e1, if_neg e4, if_pos e7]
  try rfl
 have e7 : ¬ (n = 7 ∨ n = 27) := by intro h8; have h9 := h15; simp at h9; omega
 refine WC.sr (WL.r 3 hs5 [] rfl (WL.pA tbk 2 Acts.nil hs5 [] rfl rfl rfl rfl (fun g_ => trivial) (WL.r 1 hs5 [] rfl (WL.nil (WC.cq rfl (fun h18 qh18 => ?_) (fun h18 qh18 => ?_))))))
 ·have e30 : 30 ≤ n ∧ n ≤ 37 := by have h9 := h18; simp at h9; first | exact h9 | omega
  refine WC.region (WL.r 3 hs5 [] rfl (WL.st tbk hs5 1 rfl rfl (fun _ hs19 => WL.nil (hK6 _ _ (WC.sr (WL.r 1 hs19 [1] rfl (WL.st tbk hs19 0 rfl rfl (fun _ hs20 => ?_))))))))
  refine WL.nil (WC.ret (retV1 rfl (resV.cellA tbk hs20 0 rfl rfl rfl rfl) (⟨sgrOne (⟨a_Fg, a_Bg, a_Bold, a_Under, a_Turn⟩ : AttrD) n, congrArg Ending.returned ?_, hs20.nil, rfl⟩)))
  unfold sgrOne
  rw [if_neg e0, if_neg e1, if_neg e4, if_neg e7, if_pos e30]
  try rfl
 have e30 : ¬ (30 ≤ n ∧ n ≤ 37) := by intro h8; have h9 := h18; simp at h9; omega
 refine WC.r1 hs5 [] rfl (WC.cq rfl (fun h21 qh21 => ?_) (fun h21 qh21 => ?_))
 ·have e39 : n = 39 := by have h9 := h21; simp at h9; first | exact h9 | omega
  refine WC.region (WL.r 1 hs5 [] rfl (WL.st tbk hs5 1 rfl rfl (fun _ hs22 => WL.nil (hK6 _ _ (WC.sr (WL.r 1 hs22 [1] rfl (WL.st tbk hs22 0 rfl rfl (fun _ hs23 => ?_))))))))
  refine WL.nil (WC.ret (retV1 rfl (resV.cellA tbk hs23 0 rfl rfl rfl rfl) (⟨sgrOne (⟨a_Fg, a_Bg, a_Bold, a_Under, a_Turn⟩ : AttrD) n, congrArg Ending.returned ?_, hs23.nil, rfl⟩)))
  unfold sgrOne
  rw [if_neg e0, if_neg e1, if_neg e4, if_neg e7, if_neg e30, if_pos e39]
  try rfl
 have e39 : ¬ (n = 39) := by intro h8; have h9 := h21; simp at h9; omega
 refine WC.sr (WL.r 3 hs5 [] rfl (WL.pA tbk 2 Acts.nil hs5 [] rfl rfl rfl rfl (fun g_ => trivial) (WL.r 1 hs5 [] rfl (WL.nil (WC.cq rfl (fun h24 qh24 => ?_) (fun h24 qh24 => ?_))))))
 ·have e40 : 40 ≤ n ∧ n ≤ 47 := by have h9 := h24; simp at h9; first | exact h9 | omega
  refine WC.region (WL.r 3 hs5 [] rfl (WL.st tbk hs5 1 rfl rfl (fun _ hs25 => WL.nil (hK6 _ _ (WC.sr (WL.r 1 hs25 [1] rfl (WL.st tbk hs25 0 rfl rfl (fun _ hs26 => ?_))))))))
  refine WL.nil (WC.ret (retV1 rfl (resV.cellA tbk hs26 0 rfl rfl rfl rfl) (⟨sgrOne (⟨a_Fg, a_Bg, a_Bold, a_Under, a_Turn⟩ : AttrD) n, congrArg Ending.returned ?_, hs26.nil, rfl⟩)))
  unfold sgrOne
  rw [if_neg e0, if_neg e1, if_neg e4, if_neg e7, if_neg e30, if_neg e39, if_pos e40]
  try rfl
 have e40 : ¬ (40 ≤ n ∧ n ≤ 47) := by intro h8; have h9 := h24; simp at h9; omega
 refine WC.r1 hs5 [] rfl (WC.cq rfl (fun h27 qh27 => ?_) (fun h27 qh27 => ?_))
 ·have e49 : n = 49 := by have h9 := h27; simp at h9; first | exact h9 | omega
  refine WC.region (WL.r 1 hs5 [] rfl (WL.st tbk hs5 1 rfl rfl (fun _ hs28 => WL.nil (hK6 _ _ (WC.sr (WL.r 1 hs28 [1] rfl (WL.st tbk hs28 0 rfl rfl (fun _ hs29 => ?_))))))))
  refine WL.nil (WC.ret (retV1 rfl (resV.cellA tbk hs29 0 rfl rfl rfl rfl) (⟨sgrOne (⟨a_Fg, a_Bg, a_Bold, a_Under, a_Turn⟩ : AttrD) n, congrArg Ending.returned ?_, hs29.nil, rfl⟩)))
  unfold sgrOne
  rw [if_neg e0, if_neg e1, if_neg e4, if_neg e7, if_neg e30, if_neg e39, if_neg e40, if_pos e49]
  try rfl
 have e49 : ¬ (n = 49) := by intro h8; have h9 := h27; simp at h9; omega
 refine WC.skip (hK6 _ _ (WC.sr (WL.r 1 hs5 [1] rfl (WL.st tbk hs5 0 rfl rfl (fun _ hs30 => WL.nil (WC.ret (retV1 rfl (resV.cellA tbk hs30 0 rfl rfl rfl rfl) ?_)))))))
 refine ⟨sgrOne (⟨a_Fg, a_Bg, a_Bold, a_Under, a_Turn⟩ : AttrD) n, congrArg Ending.returned ?_, hs30.nil, rfl⟩
 unfold sgrOne
 rw [if_neg e0, if_neg e1, if_neg e4, if_neg e7, if_neg e30, if_neg e39, if_neg e40, if_neg e49]
 try rfl
theorem k78_ (a_Fg : Int) (a_Bg : Int) (a_Bold : Bool) (a_Under : Bool) (a_Turn : Bool) (A_l : Option Addr) (n_l c_l : Nat) (l : List Int) (w : World) (f_l : SlF encI w A_l n_l l) (hl : areArgs l = true) (hn : n_l ≤ 549755813888) :
    Calls Tryz.prog 161 #[.agg #[i64 a_Fg, i64 a_Bg, .bool a_Bold, .bool a_Under, .bool a_Turn], .slice A_l n_l c_l] w fun e w' => ∃ r : AttrD, e = .returned (.agg #[i64 r.Fg, i64 r.Bg, .bool r.Bold, .bool r.Under, .bool r.Turn]) ∧ St w [] [] w' ∧ r = sgrRes (⟨a_Fg, a_Bg, a_Bold, a_Under, a_Turn⟩ : AttrD) l := by
 have hll := f_l.len
 refine enter 27 Tryz.func161 rfl Tryz.ntmps161 rfl rfl ?_
 have hs1 := St.init w
 refine WC.sr (WL.bx hs1 rfl (fun b2 _ hs3 => WL.al hs3 Tryz.zeroValue24 rfl rfl (fun b4 _ hs5 => WL.nil (WC.seq (fun K6 hK6 => WC.sr (WL.r 1 hs5 [1] rfl (WL.cl Tryz.call56 rfl (k5_ _ _ _ _ _ _) ?_)))))))
 rintro _ whs7 ⟨rfl, hs7⟩
 replace hs7 := hs5.call0 hs7
 refine ⟨_, rfl, WL.r 2 hs7 [] rfl (WL.pO tbk 3 Acts.nil hs7 [] rfl rfl rfl rfl (fun g_ => trivial) (WL.nil (WC.cq rfl (fun h8 qh8 => ?_) (fun h8 qh8 => ?_))))⟩
 ·have hk : ¬ (attrOk a_Fg a_Bg = true ∧ 0 < l.length) := by rintro ⟨z7, z8⟩; have h9 := h8; first | (simp [z7] at h9; omega) | (simp [z7] at h9)
  refine WC.sr ?_
  refine WL.val rfl rfl rfl (Run.build rfl rfl rfl rfl (built_24)) (WL.st tbk hs7 0 rfl rfl (fun _ hs9 => WL.nil (WC.ret (tkR ?_))))
  clear hK6
  refine retV1 rfl (resV.cellA tbk hs9 0 rfl rfl rfl rfl) ?_
  exact ⟨⟨0, 0, false, false, false⟩, rfl, hs9.nil, by unfold sgrRes; rw [if_neg hk]⟩
 have hc0 := h8
 have hk2 : attrOk a_Fg a_Bg = true ∧ 0 < l.length := by (try simp at hc0); (try simp at hc1); first | exact ⟨hc0, by omega⟩ | exact ⟨hc0.1, by omega⟩
 refine WC.skip (hK6 _ _ (WC.seq (fun K10 hK10 => WC.r1 hs7 [] rfl (WC.block ?_))))
 have hM11 := (St.grp0 [_] (hs7.fb b2))
 refine WC.lV [2, 4, 14, 16, 17] rfl hM11 (fun k_ (a_ : Hp) f => ∃ (i : Nat) (q : AttrD), k_ = n_l - i ∧ a_ = [(b2, .cells (List.toArray [i64 q.Fg, i64 q.Bg, .bool q.Bold, .bool q.Under, .bool q.Turn]) 24 (0, 0))] ∧ (i ≤ n_l) ∧ (q = sgrAll (⟨a_Fg, a_Bg, a_Bold, a_Under, a_Turn⟩ : AttrD) (l.take i)) ∧ Sub [(18, .int .i64 i)] f) (((fun (i : Nat) (q : AttrD) => n_l - i) (0) ((⟨a_Fg, a_Bg, a_Bold, a_Under, a_Turn⟩ : AttrD)))) ?_ ?_
 ·refine ⟨0, (⟨a_Fg, a_Bg, a_Bold, a_Under, a_Turn⟩ : AttrD), rfl, rfl, ?_, ?_, ⟨rfl, trivial⟩⟩
  · exact Nat.zero_le _
  · rfl
 rintro _ _ f w ⟨i, q, rfl, rfl, p0, p1, hG⟩ hF hs12
 refine WC.sub _ (hG.app hF) ?_
 clear hG hF
 replace hs12 := St.ungrp0 [_] hs12
 have hs13 := ((hs12.fb b4).fb b2)
 refine WC.r1 hs13 [] rfl (WC.seq (fun K14 hK14 => ?_))
 refine WC.cq rfl (fun h15 qh15 => ?_) (fun h15 qh15 => ?_)
 ·have hnn := (areArgs_iff.1 hl).2 _ (gat_mem (F := encI) (show i < l.length by omega))
  refine WC.skip (hK14 _ _ (WC.seq (fun K16 hK16 => WC.block (WC.sr ?_))))
  refine WL.val rfl rfl rfl (Run.idxN Tryz.runUnderlying26 Tryz.sizeOf3 rfl rfl rfl ?_ ?_ ?_) ?_
  · exact SlF.some_ (SlF.st0 f_l hs13)
  · omega
  · omega
  refine WL.val rfl rfl rfl (Run.load Tryz.isAgg3 rfl rfl (SlF.one1 (SlF.st0 f_l hs13) ?_ rfl)) ?_
  · omega
  refine WL.r 1 hs13 [] rfl (WL.nil (WC.region (WL.r 2 hs13 [0] rfl (WL.cl Tryz.call174 rfl (k77_ _ _ _ _ _ _ _ ?_) ?_))))
  · first | assumption | rfl | omega
  rintro _ whs17 ⟨r18, rfl, hs17, hr19⟩
  replace hs17 := hs13.callF hs17
  refine ⟨_, rfl, ?_⟩
  rw [List.nil_append] at hs17
  replace hs17 := St.perm hs17 (L' := [_, _] ++ _) pR
  refine WL.st tbk hs17 0 rfl rfl (fun _ hs20 => WL.nil (hK16 _ _ (WC.region (WL.r 2 hs20 [] rfl (WL.nil (tkN ?_))))))
  have hF21 := (St.grp0 [_] ((hs20.fb b4).fb b2))
  refine ⟨sbF rfl, _, hF21, _, ?_, i + 1, r18, rfl, rfl, ?_, ?_, ⟨rfl, trivial⟩⟩
  · omega
  · omega
  · rw [sgrAll_take (by omega), ← p1]; exact hr19
 refine WC.exit (hK10 _ _ (WC.sr (WL.r 1 hs13 [0] rfl (WL.st tbk hs13 1 rfl rfl (fun _ hs22 => WL.nil (WC.ret (retV1 rfl (resV.cellA tbk hs22 1 rfl rfl rfl rfl) ?_)))))))
 exact ⟨q, rfl, hs22.nil, by unfold sgrRes; rw [if_pos hk2, p1, List.take_of_length_le (by omega)]⟩
theorem k79_ (g : GridR) (x : Int) (y : Int) (n : Int) (w : World) (f_g : okGridR 549755813888 w g) (hg : gridOk g.dat = true) (hx : 0 ≤ x ∧ x < g.W) (hy : 0 ≤ y ∧ y < g.H) (hn : -100000 ≤ n ∧ n ≤ 100000) :
    Calls Tryz.prog 159 #[.agg #[i64 g.W, i64 g.H, .slice g.Cells.A g.Cells.n g.Cells.c], i64 x, i64 y, i64 n] w fun e w' => ∃ r L1, e = .returned (.agg #[i64 r.W, i64 r.H, .slice r.Cells.A r.Cells.n r.Cells.c]) ∧ St w [] L1 w' ∧ ownGridR r L1 ∧ r.dat = gShift g.dat x y n := by
 have nb_g_Cells := f_g.Cells_n
 have nl_g_Cells := f_g.Cells.len
 have hgb : (1 ≤ g.W ∧ g.W ≤ 120) ∧ (1 ≤ g.H ∧ g.H ≤ 120) ∧ 1 ≤ g.W * g.H ∧ g.W * g.H ≤ 4000 := gridOk_bnd hg
 have hgl : (g.Cells.xs.length : Int) = g.W * g.H := grid_len hg
 have hsmg : smGrid 1048576 g.dat := by show g.Cells.xs.length ≤ 1048576; omega
 have hsmgB : smGrid 549755813888 g.dat := Nat.le_trans hsmg (by decide)
 have hv0 : 0 ≤ y * g.W := Int.mul_nonneg (by omega) (by omega)
 have hv1 : (y + 1) * g.W = y * g.W + g.W := by rw [Int.add_mul, Int.one_mul]
 have hv2 : (y + 1) * g.W ≤ g.H * g.W := Int.mul_le_mul_of_nonneg_right (by omega) (by omega)
 rw [Int.mul_comm g.H g.W] at hv2
 have hlo2 : (y * g.W).toNat = y.toNat * g.W.toNat := Int.toNat_mul (by omega) (by omega)
 have hnz : ((y.toNat * g.W.toNat : Nat) : Int) = y * g.W := by rw [← hlo2]; omega
 refine enter 103 Tryz.func159 rfl Tryz.ntmps159 rfl rfl ?_
 have hs1 := St.init w
 refine WC.sr (WL.bx hs1 rfl (fun b2 _ hs3 => WL.al hs3 Tryz.zeroValue31 rfl rfl (fun b4 _ hs5 => WL.nil (WC.seq (fun K6 hK6 => WC.sr (WL.r 1 hs5 [1] rfl (WL.cl Tryz.call55 rfl (k41_ g _ (okGridR.st0 f_g hs5)) ?_)))))))
 rintro _ whs7 ⟨rfl, hs7⟩
 replace hs7 := hs5.call0 hs7
 refine ⟨_, rfl, WL.r 2 hs7 [] rfl (WL.pO tbk 2 Acts.nil hs7 [] rfl rfl rfl rfl (fun g_ => trivial) (WL.r 1 hs7 [] rfl (WL.pO tbk 4 Acts.nil hs7 [1] rfl rfl rfl rfl (fun g_ => ⟨rfl, trivial⟩) (WL.r 1 hs7 [] rfl (WL.pO tbk 2 Acts.nil hs7 [] rfl rfl rfl rfl (fun g_ => trivial) (WL.r 1 hs7 [] rfl ?_))))))⟩
 refine WL.pO tbk 4 Acts.nil hs7 [1] rfl rfl rfl rfl (fun g_ => ⟨rfl, trivial⟩) (WL.nil (WC.cq rfl (fun h8 qh8 => ?_) (fun h8 qh8 => ?_)))
 ·exfalso; have h9 := h8; simp [hg] at h9; omega
 refine WC.skip (hK6 _ _ (WC.seq (fun K9 hK9 => WC.r1 hs7 [1] rfl ?_)))
 refine WC.mergeK [(1, _), (2, _), (4, _), (8, _), (33, _), (38, _)] 3 (i64 (min n g.W)) hs7 ⟨rfl, rfl, rfl, rfl, rfl, rfl, trivial⟩ (fun f whs11 hF12 hs11 => ?_) (fun hJ10 => ?_)
 ·refine hK9 _ _ (WC.sub _ hF12 ?_)
  clear hF12
  refine WC.seq (fun K13 hK13 => WC.r1 hs11 [1] rfl ?_)
  refine WC.mergeK [(1, _), (2, _), (4, _), (8, _), (33, _), (38, _), (45, _)] 3 (i64 (max (min n g.W) (-g.W))) hs11 ⟨rfl, rfl, rfl, rfl, rfl, rfl, rfl, trivial⟩ (fun f whs15 hF16 hs15 => ?_) (fun hJ14 => ?_)
  ·refine hK13 _ _ (WC.sub _ hF16 ?_)
   clear hF16
   refine WC.sr (WL.r 1 hs15 [1] rfl (WL.cl Tryz.call59 rfl (k29_ g _ (okGridR.st0 f_g hs15) ?_) ?_))
   · first | assumption | rfl | omega | (exact Nat.le_trans hsmg (by decide))
   rintro _ whs17 ⟨r18, L1_19, rfl, hs17, ho20, hd21⟩
   replace hs17 := hs15.callF hs17
   refine ⟨_, rfl, ?_⟩
   replace hs17 := St.back [_, _] hs17
   have hd0 := hd21
   refine WL.al hs17 Tryz.zeroValue31 rfl rfl (fun b22 _ hs23 => WL.st tbk hs23 0 rfl rfl (fun _ hs24 => WL.nil (WC.seq (fun K25 hK25 => WC.r1 hs24 [] rfl (WC.block ?_)))))
   have hM30 := (St.grp1 (L1 := L1_19) [_] ((((hs24.fb b2).fb b4).fr L1_19).fb b22))
   refine WC.lV [1, 2, 3, 4, 8, 9, 33, 38, 45] rfl hM30 (fun k_ (a_ : Hp) f => ∃ (a : Nat) (r : GridR) (L28 : Hp), k_ = (g.W - x).toNat - a ∧ a_ = [(b22, .cells (List.toArray [i64 r.W, i64 r.H, .slice r.Cells.A r.Cells.n r.Cells.c]) 31 (0, 0))] ++ L28 ∧ ((a : Int) ≤ g.W - x) ∧ (r.W = g.W ∧ r.H = g.H ∧ r.Cells.xs.length = g.Cells.xs.length) ∧ (∀ k, k < g.Cells.xs.length → cat r.Cells.xs k = partF g.dat (shiftF g.dat x y ((max (min n g.W) (-g.W)))) (y.toNat * g.dat.W.toNat + x.toNat) a k) ∧ ownGridR r L28 ∧ Sub [(10, .int .i64 (x + a))] f) (((fun (a : Nat) => (g.W - x).toNat - a) (0))) ?_ ?_
   ·refine ⟨0, r18, L1_19, rfl, rfl, ?_, ?_, ?_, ho20, ⟨?_, trivial⟩⟩
    · omega
    · exact ⟨congrArg GridD.W hd0, congrArg GridD.H hd0, congrArg (fun d : GridD => d.Cells.length) hd0⟩
    · intro k hk; rw [partF_zero]; exact congrArg (fun d : GridD => cat d.Cells k) hd0
    · (refine congrArg some (congrArg (Value.int _) ?_); omega)
   rintro _ _ f w ⟨a, r, L28, rfl, rfl, p0, p1, p2, ho29, hG⟩ hF hs31
   refine WC.sub _ (hG.app hF) ?_
   clear hG hF
   replace hs31 := St.ungrp1 [_] hs31
   have hs32 := (((hs31.fb b2).fb b4).fb b22)
   have hsmr : smGrid 549755813888 r.dat := by show r.Cells.xs.length ≤ 549755813888; omega
   have hnr := ownGridR.len ‹ownGridR r _›
   refine WC.seq (fun K33 hK33 => WC.r1 hs32 [2] rfl ?_)
   refine WC.cq rfl (fun h34 qh34 => ?_) (fun h34 qh34 => ?_)
   ·refine WC.skip (hK33 _ _ (WC.seq (fun K35 hK35 => WC.block (WC.seq (fun K36 hK36 => WC.rG 10 (hs32.rm L28) hs32 hs32 (fun _ hs37 => ?_))))))
    refine WG.rn [0, 1, 2, 3, 4, 5, 6, 7] hs37 [0, 2] rfl rfl (WG.o1 8 rfl rfl (WL.cl Tryz.call100 rfl (k22_ _) ?_))
    rintro _ whs38 ⟨rfl, hs38⟩
    replace hs38 := hs37.call0 hs38
    refine ⟨_, rfl, WL.nil ⟨hs38, ?_⟩⟩
    refine WG.tk 9 rfl (by kernel_rfl) rfl rfl rfl hs38 (fun w_ hs_ => (Run.idx Tryz.runUnderlying29 Tryz.sizeOf108 rfl rfl rfl ?_ ?_ ?_)) ?_
    · exact SlF.some_ (ownGridR.ok (B := 549755813888) ho29 ((hs_ : St _ _ _ _).ow L28) hsmr).Cells
    · first | omega | (simp only [List.length_set]; omega)
    · first | omega | (simp only [List.length_set]; omega)
    refine WG.oK rfl (WL.storeF1 (x' := blankC) (hs38.fr L28) ho29 Tryz.sizeOf108 rfl rfl rfl rfl rfl rfl rfl rfl rfl ?_ rfl (fun L39 whs40 hs40 ho41 _ => ?_))
    · first | omega | (simp only [List.length_set]; omega)
    replace hs40 := St.back [_, _, _] hs40
    refine WL.nil ⟨(hs40.rm L39), WH.dn (hK36 _ _ (WC.sr (WL.r 6 hs40 [] rfl ?_)))⟩
    refine WL.pA tbk 6 Acts.nil hs40 [2] rfl rfl rfl rfl (fun g_ => by (try simp only [bf, within_iff, within_not] at g_); exact ⟨rfl, by omega, trivial⟩) (WL.nil (WC.cq rfl (fun h42 qh42 => ?_) (fun h42 qh42 => ?_)))
    ·refine WC.rG 21 (hs40.rm L39) hs40 hs40 (fun _ hs43 => ?_)
     refine WG.rn [0, 1, 2, 3, 4, 5, 6, 7, 8, 9, 10, 11, 12, 13, 14, 15, 16, 17] hs43 [0, 2, 2, 2] rfl rfl ?_
     refine WG.tk 18 rfl (by kernel_rfl) rfl rfl rfl hs43 (fun w_ hs_ => (Run.idx Tryz.runUnderlying29 Tryz.sizeOf108 rfl rfl rfl ?_ ?_ ?_)) ?_
     · exact SlF.some_ (SlF.st0 f_g.Cells (hs_ : St _ _ _ _))
     · first | omega | (simp only [List.length_set]; omega)
     · first | omega | (simp only [List.length_set]; omega)
     refine WG.tk 19 rfl (by kernel_rfl) rfl rfl rfl hs43 (fun w_ hs_ => (Run.loadA Tryz.isAgg108 Tryz.sizeOf108 rfl rfl (SlF.whole (SlF.st0 f_g.Cells (hs_ : St _ _ _ _)) ?_))) ?_
     · first | omega | (simp only [List.length_set]; omega)
     refine WG.tk 20 rfl (by kernel_rfl) rfl rfl rfl hs43 (fun w_ hs_ => (Run.idx Tryz.runUnderlying29 Tryz.sizeOf108 rfl rfl rfl ?_ ?_ ?_)) ?_
     · exact SlF.some_ (SlF.ofOwn ho41 ((hs_ : St _ _ _ _).ow L39))
     · first | omega | (simp only [List.length_set]; omega)
     · first | omega | (simp only [List.length_set]; omega)
     refine WG.oK rfl (WL.storeF1 (x' := _) (hs43.fr L39) ho41 Tryz.sizeOf108 rfl rfl rfl rfl rfl rfl rfl rfl rfl ?_ rfl (fun L44 whs45 hs45 ho46 _ => ?_))
     · first | omega | (simp only [List.length_set]; omega)
     replace hs45 := St.back [_, _, _] hs45
     refine WL.nil ⟨(hs45.rm L44), WH.dn (hK35 _ _ (WC.region (WL.r 3 hs45 [] rfl (WL.nil (tkN ?_)))))⟩
     have hF47 := (St.grp1 (L1 := L44) [_] ((((hs45.fb b2).fb b4).fr L44).fb b22))
     refine ⟨sbF rfl, _, hF47, _, ?_, a + 1, ⟨r.W, r.H, SlD.of ho46⟩, L44, rfl, rfl, ?_, ?_, ?_, ho46, ⟨?_, trivial⟩⟩
     · omega
     · omega
     · exact ⟨p1.1, p1.2.1, by simp only [List.length_set]; exact p1.2.2⟩
     · intro k hk; first | (show gat encCell ((r.Cells.xs.set _ _).set _ _) k = _; rw [List.set_set]; exact part_next (g := g.dat) (by rw [Int.toNat_add (by omega) (by omega), hlo2]; show _ = y.toNat * g.W.toNat + x.toNat + a; omega) (by rw [p1.2.2]; omega) (by rw [shiftF_at (g := g.dat) hx.1 hy.1 (by show x + (a : Int) < g.W; omega), if_pos (by have h9 := h42; simp at h9; show x ≤ x + (a : Int) - (max (min n g.W) (-g.W)) ∧ x + (a : Int) - (max (min n g.W) (-g.W)) < g.W; omega)]; show cat _ _ = cat _ _; congr 1; show _ = y.toNat * g.W.toNat + _; rw [← hlo2]; omega) (p2 k hk)) | (show gat encCell (r.Cells.xs.set _ _) k = _; exact part_next (g := g.dat) (by rw [Int.toNat_add (by omega) (by omega), hlo2]; show _ = y.toNat * g.W.toNat + x.toNat + a; omega) (by rw [p1.2.2]; omega) (by rw [shiftF_at (g := g.dat) hx.1 hy.1 (by show x + (a : Int) < g.W; omega), if_neg (by have h9 := h42; simp at h9; show ¬ (x ≤ x + (a : Int) - (max (min n g.W) (-g.W)) ∧ x + (a : Int) - (max (min n g.W) (-g.W)) < g.W); omega)]) (p2 k hk))
     · (refine congrArg some (congrArg (Value.int _) ?_); omega)
    refine WC.skip (hK35 _ _ (WC.region (WL.r 3 hs40 [] rfl (WL.nil (tkN ?_)))))
    have hF48 := (St.grp1 (L1 := L39) [_] ((((hs40.fb b2).fb b4).fr L39).fb b22))
    refine ⟨sbF rfl, _, hF48, _, ?_, a + 1, ⟨r.W, r.H, SlD.of ho41⟩, L39, rfl, rfl, ?_, ?_, ?_, ho41, ⟨?_, trivial⟩⟩
    · omega
    · omega
    · exact ⟨p1.1, p1.2.1, by simp only [List.length_set]; exact p1.2.2⟩
    · intro k hk; first | (show gat encCell ((r.Cells.xs.set _ _).set _ _) k = _; rw [List.set_set]; exact part_next (g := g.dat) (by rw [Int.toNat_add (by omega) (by omega), hlo2]; show _ = y.toNat * g.W.toNat + x.toNat + a; omega) (by rw [p1.2.2]; omega) (by rw [shiftF_at (g := g.dat) hx.1 hy.1 (by show x + (a : Int) < g.W; omega), if_pos (by have h9 := h42; simp at h9; show x ≤ x + (a : Int) - (max (min n g.W) (-g.W)) ∧ x + (a : Int) - (max (min n g.W) (-g.W)) < g.W; omega)]; show cat _ _ = cat _ _; congr 1; show _ = y.toNat * g.W.toNat + _; rw [← hlo2]; omega) (p2 k hk)) | (show gat encCell (r.Cells.xs.set _ _) k = _; exact part_next (g := g.dat) (by rw [Int.toNat_add (by omega) (by omega), hlo2]; show _ = y.toNat * g.W.toNat + x.toNat + a; omega) (by rw [p1.2.2]; omega) (by rw [shiftF_at (g := g.dat) hx.1 hy.1 (by show x + (a : Int) < g.W; omega), if_neg (by have h9 := h42; simp at h9; show ¬ (x ≤ x + (a : Int) - (max (min n g.W) (-g.W)) ∧ x + (a : Int) - (max (min n g.W) (-g.W)) < g.W); omega)]) (p2 k hk))
    · (refine congrArg some (congrArg (Value.int _) ?_); omega)
   refine WC.exit (hK25 _ _ (WC.sr (WL.r 1 hs32 [0] rfl (WL.st tbk hs32 1 rfl rfl (fun _ hs49 => WL.nil (WC.ret (retV1 rfl (resV.cellA tbk hs49 1 rfl rfl rfl rfl) ?_)))))))
   refine ⟨r, _, rfl, (St.keep1 (hs49.fr L28)), ?_, ?_⟩
   · exact ho29
   · exact shift_done (g := g.dat) (m := (max (min n g.W) (-g.W))) hx hy.1 (by show (a : Int) = g.W - x; omega) p1.1 p1.2.1 p1.2.2 (by show n = _ ∨ (g.W ≤ n ∧ g.W ≤ _ ∨ n ≤ -g.W ∧ _ ≤ -g.W); omega) p2
  refine WC.cq rfl (fun h50 qh50 => ?_) (fun h50 qh50 => ?_)
  ·refine WC.region (WL.r 4 hs11 [1] rfl (WL.nil ?_))
   exact hJ14 _ _ ⟨(congrArg some (congrArg (Value.int .i64) (by omega))), rfl, rfl, rfl, rfl, rfl, rfl, rfl, trivial⟩ hs11
  refine WC.skip ?_
  exact hJ14 _ _ ⟨(congrArg some (congrArg (Value.int .i64) (by omega))), rfl, rfl, rfl, rfl, rfl, rfl, rfl, trivial⟩ hs11
 refine WC.cq rfl (fun h51 qh51 => ?_) (fun h51 qh51 => ?_)
 ·refine WC.region (WL.r 3 hs7 [1] rfl (WL.nil ?_))
  exact hJ10 _ _ ⟨(congrArg some (congrArg (Value.int .i64) (by omega))), rfl, rfl, rfl, rfl, rfl, rfl, trivial⟩ hs7
 refine WC.skip ?_
 exact hJ10 _ _ ⟨(congrArg some (congrArg (Value.int .i64) (by omega))), rfl, rfl, rfl, rfl, rfl, rfl, trivial⟩ hs7
theorem k80_ (g : GridR) (x : Int) (y : Int) (w_ : Int) (h_ : Int) (c_R : Int) (c_A_Fg : Int) (c_A_Bg : Int) (c_A_Bold : Bool) (c_A_Under : Bool) (c_A_Turn : Bool) (w : World) (f_g : okGridR 549755813888 w g) (hg : gridOk g.dat = true) (hc : cellOk (⟨c_R, ⟨c_A_Fg, c_A_Bg, c_A_Bold, c_A_Under, c_A_Turn⟩⟩ : CellD) = true) (hx : -100000 ≤ x ∧ x ≤ 100000) (hy : -100000 ≤ y ∧ y ≤ 100000) (hw : -100000 ≤ w_ ∧ w_ ≤ 100000) (hh : -100000 ≤ h_ ∧ h_ ≤ 100000) :
    Calls Tryz.prog 91 #[.agg #[i64 g.W, i64 g.H, .slice g.Cells.A g.Cells.n g.Cells.c], i64 x, i64 y, i64 w_, i64 h_, .agg #[i64 c_R, i64 c_A_Fg, i64 c_A_Bg, .bool c_A_Bold, .bool c_A_Under, .bool c_A_Turn]] w fun e w' => ∃ r L1, e = .returned (.agg #[i64 r.W, i64 r.H, .slice r.Cells.A r.Cells.n r.Cells.c]) ∧ St w [] L1 w' ∧ ownGridR r L1 ∧ r.dat = gFill g.dat x y w_ h_ (⟨c_R, ⟨c_A_Fg, c_A_Bg, c_A_Bold, c_A_Under, c_A_Turn⟩⟩ : CellD) := by
 have nb_g_Cells := f_g.Cells_n
 have nl_g_Cells := f_g.Cells.len
 have hgb : (1 ≤ g.W ∧ g.W ≤ 120) ∧ (1 ≤ g.H ∧ g.H ≤ 120) ∧ 1 ≤ g.W * g.H ∧ g.W * g.H ≤ 4000 := gridOk_bnd hg
 have hgl : (g.Cells.xs.length : Int) = g.W * g.H := grid_len hg
 have hsmg : smGrid 1048576 g.dat := by show g.Cells.xs.length ≤ 1048576; omega
 have hng := f_g.Cells.len
 refine enter 91 Tryz.func91 rfl Tryz.ntmps91 rfl rfl ?_
 have hs1 := St.init w
 refine WC.sr (WL.bx hs1 rfl (fun b2 _ hs3 => WL.bx hs3 rfl (fun b4 _ hs5 => WL.al hs5 Tryz.zeroValue31 rfl rfl (fun b6 _ hs7 => WL.nil (WC.seq (fun K8 hK8 => WC.sr (WL.r 1 hs7 [2] rfl ?_)))))))
 refine WL.cl Tryz.call55 rfl (k41_ g _ (okGridR.st0 f_g hs7)) ?_
 rintro _ whs9 ⟨rfl, hs9⟩
 replace hs9 := hs7.call0 hs9
 refine ⟨_, rfl, WL.r 2 hs9 [] rfl ?_⟩
 apply WL.gO 3 Acts.nil hs9 rfl
 ·intro g10 J11
  have qg10 := g10
  try simp only [bf, within_iff, within_not] at qg10
  refine WL.runA tbk 1 (Acts.nil.cons (j := 3) rfl g10) hs9 [1] rfl ⟨rfl, trivial⟩ (WL.call (wantF rfl g10) rfl rfl (Run.call Tryz.call99 rfl rfl rfl) (k7_ _ _ _ _ _ _ _) ?_)
  rintro _ whs12 ⟨rfl, hs12⟩
  replace hs12 := hs9.call0 hs12
  refine ⟨_, rfl, WL.runA tbk 1 (Acts.nil.cons (j := 3) rfl g10) hs12 [] rfl trivial (WL.eO 3 Acts.nil J11 hs12 g10 rfl rfl)⟩
 intro _ hs13
 refine WL.r 1 hs13 [] rfl ?_
 apply WL.gO 3 Acts.nil hs13 rfl
 ·intro g14 J15
  have qg14 := g14
  try simp only [bf, within_iff, within_not] at qg14
  refine WL.runA tbk 1 (Acts.nil.cons (j := 8) rfl g14) hs13 [] rfl trivial (WL.call (wantF rfl g14) rfl rfl (Run.call Tryz.call129 rfl rfl rfl) (k49_ _ _) ?_)
  rintro _ whs16 ⟨rfl, hs16⟩
  replace hs16 := hs13.call0 hs16
  refine ⟨_, rfl, WL.runA tbk 1 (Acts.nil.cons (j := 8) rfl g14) hs16 [] rfl trivial (WL.eO 3 Acts.nil J15 hs16 g14 rfl rfl)⟩
 intro _ hs17
 refine WL.r 1 hs17 [] rfl ?_
 apply WL.gO 3 Acts.nil hs17 rfl
 ·intro g18 J19
  have qg18 := g18
  try simp only [bf, within_iff, within_not] at qg18
  refine WL.runA tbk 1 (Acts.nil.cons (j := 13) rfl g18) hs17 [] rfl trivial (WL.call (wantF rfl g18) rfl rfl (Run.call Tryz.call129 rfl rfl rfl) (k49_ _ _) ?_)
  rintro _ whs20 ⟨rfl, hs20⟩
  replace hs20 := hs17.call0 hs20
  refine ⟨_, rfl, WL.runA tbk 1 (Acts.nil.cons (j := 13) rfl g18) hs20 [] rfl trivial (WL.eO 3 Acts.nil J19 hs20 g18 rfl rfl)⟩
 intro _ hs21
 refine WL.r 1 hs21 [] rfl ?_
 apply WL.gO 3 Acts.nil hs21 rfl
 ·intro g22 J23
  have qg22 := g22
  try simp only [bf, within_iff, within_not] at qg22
  refine WL.runA tbk 1 (Acts.nil.cons (j := 18) rfl g22) hs21 [] rfl trivial (WL.call (wantF rfl g22) rfl rfl (Run.call Tryz.call129 rfl rfl rfl) (k49_ _ _) ?_)
  rintro _ whs24 ⟨rfl, hs24⟩
  replace hs24 := hs21.call0 hs24
  refine ⟨_, rfl, WL.runA tbk 1 (Acts.nil.cons (j := 18) rfl g22) hs24 [] rfl trivial (WL.eO 3 Acts.nil J23 hs24 g22 rfl rfl)⟩
 intro _ hs25
 refine WL.r 1 hs25 [] rfl ?_
 apply WL.gO 3 Acts.nil hs25 rfl
 ·intro g26 J27
  have qg26 := g26
  try simp only [bf, within_iff, within_not] at qg26
  refine WL.runA tbk 1 (Acts.nil.cons (j := 23) rfl g26) hs25 [] rfl trivial (WL.call (wantF rfl g26) rfl rfl (Run.call Tryz.call129 rfl rfl rfl) (k49_ _ _) ?_)
  rintro _ whs28 ⟨rfl, hs28⟩
  replace hs28 := hs25.call0 hs28
  refine ⟨_, rfl, WL.runA tbk 1 (Acts.nil.cons (j := 23) rfl g26) hs28 [] rfl trivial (WL.eO 3 Acts.nil J27 hs28 g26 rfl rfl)⟩
 intro _ hs29
 refine WL.nil (WC.cq rfl (fun h30 qh30 => ?_) (fun h30 qh30 => ?_))
 ·exfalso; have h9 := h30; simp [hg, hc, within] at h9; omega
 refine WC.skip (hK8 _ _ (WC.sr (WL.r 1 hs29 [2] rfl ?_)))
 refine WL.cl Tryz.call59 rfl (k29_ g _ (okGridR.st0 f_g hs29) ?_) ?_
 · first | assumption | rfl | omega | (exact Nat.le_trans hsmg (by decide))
 rintro _ whs31 ⟨r32, L1_33, rfl, hs31, ho34, hd35⟩
 replace hs31 := hs29.callF hs31
 refine ⟨_, rfl, ?_⟩
 replace hs31 := St.back [_, _, _] hs31
 have hd0 := hd35
 have hn0 := ownGridR.len ‹ownGridR r32 _›
 have hl0 : r32.Cells.xs.length = g.Cells.xs.length := congrArg (fun d : GridD => d.Cells.length) hd0
 refine WL.al hs31 Tryz.zeroValue31 rfl rfl (fun b36 _ hs37 => WL.st tbk hs37 0 rfl rfl (fun _ hs38 => WL.nil (WC.seq (fun K39 hK39 => WC.r1 hs38 [0] rfl (WC.block ?_)))))
 have hM44 := (St.grp1 (L1 := L1_33) [_] (((((hs38.fb b2).fb b4).fb b6).fr L1_33).fb b36))
 refine WC.lV [1, 2, 3, 4, 6, 11, 12, 13, 44, 50] rfl hM44 (fun k_ (a_ : Hp) f => ∃ (i : Nat) (r : GridR) (L42 : Hp), k_ = g.Cells.n - i ∧ a_ = [(b36, .cells (List.toArray [i64 r.W, i64 r.H, .slice r.Cells.A r.Cells.n r.Cells.c]) 31 (0, 0))] ++ L42 ∧ (i ≤ g.Cells.n) ∧ (r.W = g.W ∧ r.H = g.H ∧ r.Cells.xs.length = g.Cells.xs.length) ∧ (∀ k, k < g.Cells.xs.length → cat r.Cells.xs k = partF g.dat (fillFn g.dat x y w_ h_ (⟨c_R, ⟨c_A_Fg, c_A_Bg, c_A_Bold, c_A_Under, c_A_Turn⟩⟩ : CellD)) 0 i k) ∧ ownGridR r L42 ∧ Sub [(51, .int .i64 i)] f) (((fun (i : Nat) => g.Cells.n - i) (0))) ?_ ?_
 ·refine ⟨0, r32, L1_33, rfl, rfl, ?_, ?_, ?_, ho34, ⟨rfl, trivial⟩⟩
  · omega
  · exact ⟨congrArg GridD.W hd0, congrArg GridD.H hd0, congrArg (fun d : GridD => d.Cells.length) hd0⟩
  · intro k hk; rw [partF_zero]; exact congrArg (fun d : GridD => cat d.Cells k) hd0
 rintro _ _ f w ⟨i, r, L42, rfl, rfl, p0, p1, p2, ho43, hG⟩ hF hs45
 refine WC.sub _ (hG.app hF) ?_
 clear hG hF
 replace hs45 := St.ungrp1 [_] hs45
 have hs46 := ((((hs45.fb b2).fb b4).fb b6).fb b36)
 have hsmr : smGrid 549755813888 r.dat := by show r.Cells.xs.length ≤ 549755813888; omega
 have hnr := ownGridR.len ‹ownGridR r _›
 refine WC.r1 hs46 [] rfl (WC.seq (fun K47 hK47 => ?_))
 refine WC.cq rfl (fun h48 qh48 => ?_) (fun h48 qh48 => ?_)
 ·obtain ⟨q, m, hkd, hkm, hiq, hmw, hqh⟩ := divmod_ex (i := i) (w := g.W) (h := g.H) (by omega) (by omega) (by omega)
  obtain ⟨hdq, hmq⟩ := at_div (w := g.W.toNat) (y := q) (x := m) (by omega)
  rw [← hiq] at hdq hmq
  refine WC.skip (hK47 _ _ (WC.seq (fun K49 hK49 => WC.block (WC.r1 hs46 [] rfl (WC.sr (WL.r 3 hs46 [3] rfl ?_))))))
  refine WL.val rfl rfl rfl (Run.rem rfl rfl rfl ?_ ?_) ?_
  · omega
  · omega
  refine WL.r 1 hs46 [] rfl (WL.nil (WC.sr (WL.r 3 hs46 [3] rfl (WL.val rfl rfl rfl (Run.quo rfl rfl rfl ?_ ?_ ?_) ?_))))
  · omega
  · omega
  · omega
  refine WL.r 1 hs46 [] rfl (WL.nil (WC.sr (WL.r 4 hs46 [] rfl ?_)))
  refine WL.pA tbk 5 Acts.nil hs46 [] rfl rfl rfl rfl (fun g_ => by (try simp only [bf, within_iff, within_not] at g_); exact ⟨by omega, trivial⟩) (WL.r 1 hs46 [] rfl (WL.pA tbk 3 Acts.nil hs46 [] rfl rfl rfl rfl (fun g_ => trivial) (WL.r 1 hs46 [] rfl ?_)))
  refine WL.pA tbk 5 Acts.nil hs46 [] rfl rfl rfl rfl (fun g_ => by (try simp only [bf, within_iff, within_not] at g_); exact ⟨by omega, trivial⟩) (WL.nil (WC.cq rfl (fun h50 qh50 => ?_) (fun h50 qh50 => ?_)))
  ·have hin : ((x ≤ (m : Int) ∧ (m : Int) < x + w_) ∧ y ≤ (q : Int) ∧ (q : Int) < y + h_) := by have h9 := h50; simp [hkm, hkd] at h9; omega
   refine WC.region (WL.r 4 hs46 [0, 2] rfl (WL.val rfl rfl rfl (Run.idxN Tryz.runUnderlying29 Tryz.sizeOf108 rfl rfl rfl ?_ ?_ ?_) ?_))
   · exact SlF.some_ (ownGridR.ok (B := 549755813888) ho43 (hs46.ow L42) hsmr).Cells
   · first | omega | (rw [hkd, hkm]; omega)
   · first | omega | (rw [hkd, hkm]; omega)
   refine WL.storeF1 (x' := (⟨c_R, ⟨c_A_Fg, c_A_Bg, c_A_Bold, c_A_Under, c_A_Turn⟩⟩ : CellD)) (hs46.fr L42) ho43 Tryz.sizeOf108 rfl rfl rfl rfl rfl rfl rfl rfl rfl ?_ rfl (fun L51 whs52 hs52 ho53 _ => ?_)
   · first | omega | (rw [hkd, hkm]; omega)
   replace hs52 := St.back [_, _, _, _] hs52
   refine WL.nil (hK49 _ _ (WC.region (WL.r 2 hs52 [] rfl (WL.nil (tkN ?_)))))
   have hF54 := (St.grp1 (L1 := L51) [_] (((((hs52.fb b2).fb b4).fb b6).fr L51).fb b36))
   refine ⟨sbF rfl, _, hF54, _, ?_, i + 1, ⟨r.W, r.H, SlD.of ho53⟩, L51, rfl, rfl, ?_, ?_, ?_, ho53, ⟨rfl, trivial⟩⟩
   · omega
   · omega
   · first | exact p1 | exact ⟨p1.1, p1.2.1, by simp only [List.length_set]; exact p1.2.2⟩
   · intro k hk; show cat _ k = _; first | exact part_next (g := g.dat) (by omega) (by rw [p1.2.2]; omega) (by rw [Nat.zero_add]; symm; unfold fillFn; rw [show i / g.dat.W.toNat = q from hdq, show i % g.dat.W.toNat = m from hmq,  if_pos hin]) (p2 k hk) | exact part_skip (g := g.dat) (by unfold fillFn; rw [show i / g.dat.W.toNat = q from hdq, show i % g.dat.W.toNat = m from hmq,  if_neg hout]) (p2 k hk)
  have hout : ¬ ((x ≤ (m : Int) ∧ (m : Int) < x + w_) ∧ y ≤ (q : Int) ∧ (q : Int) < y + h_) := by have h9 := h50; simp [hkm, hkd] at h9; omega
  refine WC.skip (hK49 _ _ (WC.region (WL.r 2 hs46 [] rfl (WL.nil (tkN ?_)))))
  have hF55 := (St.grp1 (L1 := L42) [_] (((((hs46.fb b2).fb b4).fb b6).fr L42).fb b36))
  refine ⟨sbF rfl, _, hF55, _, ?_, i + 1, r, L42, rfl, rfl, ?_, ?_, ?_, ho43, ⟨rfl, trivial⟩⟩
  · omega
  · omega
  · first | exact p1 | exact ⟨p1.1, p1.2.1, by simp only [List.length_set]; exact p1.2.2⟩
  · intro k hk; show cat _ k = _; first | exact part_next (g := g.dat) (by omega) (by rw [p1.2.2]; omega) (by rw [Nat.zero_add]; symm; unfold fillFn; rw [show i / g.dat.W.toNat = q from hdq, show i % g.dat.W.toNat = m from hmq,  if_pos hin]) (p2 k hk) | exact part_skip (g := g.dat) (by unfold fillFn; rw [show i / g.dat.W.toNat = q from hdq, show i % g.dat.W.toNat = m from hmq,  if_neg hout]) (p2 k hk)
 refine WC.exit (hK39 _ _ (WC.sr (WL.r 1 hs46 [0] rfl (WL.st tbk hs46 1 rfl rfl (fun _ hs56 => WL.nil (WC.ret (retV1 rfl (resV.cellA tbk hs56 1 rfl rfl rfl rfl) ?_)))))))
 refine ⟨r, _, rfl, (St.keep1 (hs56.fr L42)), ?_, ?_⟩
 · exact ho43
 · exact part_done (g := g.dat) (lo := 0) (a := i) p1.1 p1.2.1 p1.2.2 (fun k hk h9 => absurd (show 0 ≤ k ∧ k < 0 + i by have h7 : k < g.Cells.xs.length := hk; omega) h9) p2
end Go.Proofs.YtgigdjgjmfekkaaGreatDoor
