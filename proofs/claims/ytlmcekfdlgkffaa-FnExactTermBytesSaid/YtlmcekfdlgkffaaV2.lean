/- Walks of Go functions, printed by a program (wip/gen). -/
import Derived.Test.YtlmcekfdlgkffaaV1
namespace Go.Proofs.Ytlmcekfdlgkffaa
open Go Go.RowKit
set_option linter.unusedVariables false
set_option linter.unusedSimpArgs false
theorem c_spec_GridOk (g : GridR) (w : World) (f_g : okGridR 549755813888 w g) :
    Calls Try.prog 141 #[.agg #[i64 g.W, i64 g.H, .slice g.Cells.A g.Cells.n g.Cells.c]] w fun e w' => e = .returned (.bool (gridOk g.dat)) ∧ St w [] [] w' := by
 have nb_g_Cells := f_g.Cells_n
 have nl_g_Cells := f_g.Cells.len
 refine enter (vs := [.agg #[i64 g.W, i64 g.H, .slice g.Cells.A g.Cells.n g.Cells.c]]) 53 Try.func141 rfl Try.ntmps141 rfl rfl ?_
 have hs1 := St.init w
 refine WC.sr ?_
 refine WL.bx hs1 rfl (fun b2 _ hs3 => ?_)
 refine WL.run tbk 1 hs3 [] rfl trivial ?_
 refine WL.nil ?_
 refine WC.seq (fun K4 hK4 => ?_)
 refine WC.sr ?_
 refine WL.run tbk 4 hs3 [0] rfl ⟨rfl, trivial⟩ ?_
 refine WL.pO tbk 3 Acts.nil hs3 [0] rfl rfl rfl rfl (fun g_ => ⟨rfl, trivial⟩) ?_
 refine WL.run tbk 1 hs3 [] rfl trivial ?_
 refine WL.pO tbk 3 Acts.nil hs3 [0] rfl rfl rfl rfl (fun g_ => ⟨rfl, trivial⟩) ?_
 refine WL.run tbk 1 hs3 [] rfl trivial ?_
 refine WL.pO tbk 3 Acts.nil hs3 [0] rfl rfl rfl rfl (fun g_ => ⟨rfl, trivial⟩) ?_
 refine WL.run tbk 1 hs3 [] rfl trivial ?_
 apply WL.gO 6 Acts.nil hs3 rfl
 ·intro g5 J6
  have qg5 := g5
  try simp only [bf, within_iff, within_not] at qg5
  refine WL.runA tbk 6 (Acts.nil.cons (j := 18) rfl g5) hs3 [0, 0] rfl ⟨?_, rfl, rfl, trivial⟩ ?_
  · (have h9 := mul_size (w := g.W) (h := g.H) (by omega) (by omega); constructor <;> omega)
  exact WL.eO 6 Acts.nil J6 hs3 g5 rfl rfl
 ·intro _ hs7
  refine WL.run tbk 1 hs7 [] rfl trivial ?_
  apply WL.gO 9 Acts.nil hs7 rfl
  ·intro g8 J9
   have qg8 := g8
   try simp only [bf, within_iff, within_not] at qg8
   refine WL.runA tbk 9 (Acts.nil.cons (j := 26) rfl g8) hs7 [0, 0, 0] rfl ⟨?_, rfl, rfl, rfl, trivial⟩ ?_
   · (have h9 := mul_size (w := g.W) (h := g.H) (by omega) (by omega); constructor <;> omega)
   exact WL.eO 9 Acts.nil J9 hs7 g8 rfl rfl
  ·intro _ hs10
   refine WL.nil ?_
   refine WC.cond rfl (fun h11 => ?_) (fun h11 => ?_)
   ·have qh11 := h11
    try simp only [bf, within_iff, within_not] at qh11
    have hg : gridOk g.dat = false := by rw [← Bool.not_eq_true]; intro h8; have hb : (1 ≤ g.W ∧ g.W ≤ 120) ∧ (1 ≤ g.H ∧ g.H ≤ 120) ∧ 1 ≤ g.W * g.H ∧ g.W * g.H ≤ 4000 := gridOk_bnd h8; unfold gridOk at h8; rw [Bool.and_eq_true, Bool.and_eq_true, decide_eq_true_eq] at h8; have h7 : (g.Cells.xs.length : Int) = g.W * g.H := h8.1.2; have h9 := h11; simp at h9; omega
    refine WC.rr tbk hs10 [] rfl trivial ?_
    refine WC.ret ?_
    refine tkR ?_
    clear hK4
    refine retV1 rfl (resV.tmp rfl) ?_
    refine ⟨congrArg Ending.returned ?_, hs10.nil⟩
    rw [hg]
   ·have qh11 := h11
    try simp only [bf, within_iff, within_not] at qh11
    have hs : isSize g.W g.H = true ∧ (g.Cells.n : Int) = g.W * g.H := by rw [isSize_iff]; have h9 := h11; simp at h9; omega
    refine WC.skip ?_
    refine hK4 _ _ ?_
    refine WC.seq (fun K12 hK12 => ?_)
    refine WC.rr tbk hs10 [0] rfl ⟨rfl, trivial⟩ ?_
    refine WC.block ?_
    refine WC.loopS [(41, _), (43, _), (44, _)] ⟨rfl, rfl, rfl, trivial⟩ hs10 (fun k_ f w' => ∃ (i : Nat), k_ = g.Cells.n - i ∧ (i ≤ g.Cells.n) ∧ (∀ j, j < i → cellOk (gat encCell g.Cells.xs j) = true) ∧ Sub [(45, .int .i64 i)] f) ((fun (i : Nat) => g.Cells.n - i) (0)) ?_ ?_
    ·refine ⟨0, rfl, ?_, ?_, ⟨rfl, trivial⟩⟩
     · exact Nat.zero_le _
     · exact fun j hj => absurd hj (by omega)
    ·clear hs10
     rintro _ f w ⟨i, rfl, p0, p1, hG⟩ hF hs13
     refine WC.sub _ (hG.app hF) ?_
     clear hG hF
     refine WC.rr tbk hs13 [] rfl trivial ?_
     refine WC.seq (fun K14 hK14 => ?_)
     refine WC.cond rfl (fun h15 => ?_) (fun h15 => ?_)
     ·have qh15 := h15
      try simp only [bf, within_iff, within_not] at qh15
      refine WC.skip ?_
      refine hK14 _ _ ?_
      refine WC.seq (fun K16 hK16 => ?_)
      refine WC.block ?_
      refine WC.sr ?_
      refine WL.val rfl rfl rfl (Run.idxN Try.runUnderlying26 Try.sizeOf100 rfl rfl rfl ?_ ?_ ?_) ?_
      · exact SlF.some_ (SlF.st0 f_g.Cells hs13)
      · omega
      · omega
      refine WL.val rfl rfl rfl (Run.loadA Try.isAgg100 Try.sizeOf100 rfl rfl (SlF.whole (SlF.st0 f_g.Cells hs13) ?_)) ?_
      · omega
      refine WL.al hs13 Try.zeroValue100 rfl rfl (fun b17 _ hs18 => ?_)
      refine WL.st tbk hs18 0 rfl rfl (fun _ hs19 => ?_)
      refine WL.nil ?_
      refine WC.sr ?_
      refine WL.run tbk 1 hs19 [0] rfl ⟨rfl, trivial⟩ ?_
      refine WL.call rfl rfl rfl (Run.call Try.call171 rfl rfl rfl) (c_spec_CellOk _ _ _ _ _ _ _) ?_
      rintro _ whs20 ⟨rfl, hs20⟩
      replace hs20 := hs19.call0 hs20
      refine ⟨_, rfl, ?_⟩
      refine WL.run tbk 1 hs20 [] rfl trivial ?_
      refine WL.nil ?_
      refine WC.cond rfl (fun h21 => ?_) (fun h21 => ?_)
      ·have qh21 := h21
       try simp only [bf, within_iff, within_not] at qh21
       have hci : cellOk (gat encCell g.Cells.xs i) = false := by simpa using h21
       refine WC.rr tbk hs20 [] rfl trivial ?_
       refine WC.ret ?_
       refine ibR (tkR (tkR (ibR (tkR ?_))))
       clear hK16 hK12
       refine retV1 rfl (resV.tmp rfl) ?_
       refine ⟨congrArg Ending.returned ?_, hs20.nil⟩
       rw [show gridOk g.dat = false from by unfold gridOk; rw [show cellsOk g.dat.Cells = false from cellsOk_not (i := i) (by show i < g.Cells.xs.length; omega) hci, Bool.and_false]]
      ·have qh21 := h21
       try simp only [bf, within_iff, within_not] at qh21
       have hci : cellOk (gat encCell g.Cells.xs i) = true := by simpa using h21
       refine WC.skip ?_
       refine hK16 _ _ ?_
       refine WC.region ?_
       refine WL.run tbk 2 hs20 [] rfl ⟨by omega, trivial⟩ ?_
       refine WL.nil ?_
       refine tkN ?_
       refine ⟨⟨rfl, rfl, rfl, trivial⟩, (hs20.drop (by repeat (first | exact List.Sublist.refl _ | exact List.sublist_append_left _ _ | exact List.Sublist.trans (List.sublist_append_left _ _) (List.sublist_append_left _ _) | apply List.Sublist.cons | refine List.Sublist.trans ?_ (List.sublist_append_right _ _)))), _, ?_, i + 1, rfl, ?_, ?_, ⟨rfl, trivial⟩⟩
       · omega
       · omega
       · intro j hj; rcases Nat.lt_or_ge j i with h_ | h_
         · exact p1 j h_
         · obtain rfl : j = i := by omega
           exact hci
     ·have qh15 := h15
      try simp only [bf, within_iff, within_not] at qh15
      refine WC.exit ?_
      refine hK12 _ _ ?_
      refine WC.rr tbk hs13 [] rfl trivial ?_
      refine WC.ret ?_
      refine retV1 rfl (resV.tmp rfl) ?_
      refine ⟨congrArg Ending.returned ?_, hs13.nil⟩
      rw [show gridOk g.dat = true from by unfold gridOk; rw [show cellsOk g.dat.Cells = true from cellsOk_all (fun j hj => p1 j (by have : j < g.Cells.xs.length := hj; omega)), show isSize g.dat.W g.dat.H = true from hs.1, decide_eq_true (show (g.dat.Cells.length : Int) = g.dat.W * g.dat.H from by show (g.Cells.xs.length : Int) = g.W * g.H; rw [nl_g_Cells]; exact hs.2)]; rfl]
theorem c_spec_l09Row (r : RowR) (w : World) (f_r : okRowR 549755813888 w r) :
    Calls Try.prog 143 #[.agg #[.slice r.Cells.A r.Cells.n r.Cells.c]] w fun e w' => e = .returned (.bool (rowOk r.dat)) ∧ St w [] [] w' := by
 have nb_r_Cells := f_r.Cells_n
 have nl_r_Cells := f_r.Cells.len
 refine enter (vs := [.agg #[.slice r.Cells.A r.Cells.n r.Cells.c]]) 26 Try.func143 rfl Try.ntmps143 rfl rfl ?_
 have hs1 := St.init w
 refine WC.sr ?_
 refine WL.bx hs1 rfl (fun b2 _ hs3 => ?_)
 refine WL.run tbk 1 hs3 [] rfl trivial ?_
 refine WL.nil ?_
 refine WC.seq (fun K4 hK4 => ?_)
 refine WC.rr tbk hs3 [0] rfl ⟨rfl, trivial⟩ ?_
 refine WC.block ?_
 refine WC.loopS [(1, _), (6, _), (7, _)] ⟨rfl, rfl, rfl, trivial⟩ hs3 (fun k_ f w' => ∃ (i : Nat), k_ = r.Cells.n - i ∧ (i ≤ r.Cells.n) ∧ (∀ j, j < i → cellOk (gat encCell r.Cells.xs j) = true) ∧ Sub [(8, .int .i64 i)] f) ((fun (i : Nat) => r.Cells.n - i) (0)) ?_ ?_
 ·refine ⟨0, rfl, ?_, ?_, ⟨rfl, trivial⟩⟩
  · exact Nat.zero_le _
  · exact fun j hj => absurd hj (by omega)
 ·clear hs3
  rintro _ f w ⟨i, rfl, p0, p1, hG⟩ hF hs5
  refine WC.sub _ (hG.app hF) ?_
  clear hG hF
  refine WC.rr tbk hs5 [] rfl trivial ?_
  refine WC.seq (fun K6 hK6 => ?_)
  refine WC.cond rfl (fun h7 => ?_) (fun h7 => ?_)
  ·have qh7 := h7
   try simp only [bf, within_iff, within_not] at qh7
   refine WC.skip ?_
   refine hK6 _ _ ?_
   refine WC.seq (fun K8 hK8 => ?_)
   refine WC.block ?_
   refine WC.sr ?_
   refine WL.val rfl rfl rfl (Run.idxN Try.runUnderlying26 Try.sizeOf100 rfl rfl rfl ?_ ?_ ?_) ?_
   · exact SlF.some_ (SlF.st0 f_r.Cells hs5)
   · omega
   · omega
   refine WL.val rfl rfl rfl (Run.loadA Try.isAgg100 Try.sizeOf100 rfl rfl (SlF.whole (SlF.st0 f_r.Cells hs5) ?_)) ?_
   · omega
   refine WL.al hs5 Try.zeroValue100 rfl rfl (fun b9 _ hs10 => ?_)
   refine WL.st tbk hs10 0 rfl rfl (fun _ hs11 => ?_)
   refine WL.nil ?_
   refine WC.sr ?_
   refine WL.run tbk 1 hs11 [0] rfl ⟨rfl, trivial⟩ ?_
   refine WL.call rfl rfl rfl (Run.call Try.call171 rfl rfl rfl) (c_spec_CellOk _ _ _ _ _ _ _) ?_
   rintro _ whs12 ⟨rfl, hs12⟩
   replace hs12 := hs11.call0 hs12
   refine ⟨_, rfl, ?_⟩
   refine WL.run tbk 1 hs12 [] rfl trivial ?_
   refine WL.nil ?_
   refine WC.cond rfl (fun h13 => ?_) (fun h13 => ?_)
   ·have qh13 := h13
    try simp only [bf, within_iff, within_not] at qh13
    have hci : cellOk (gat encCell r.Cells.xs i) = false := by simpa using h13
    refine WC.rr tbk hs12 [] rfl trivial ?_
    refine WC.ret ?_
    refine ibR (tkR (tkR (ibR (tkR ?_))))
    clear hK8 hK4
    refine retV1 rfl (resV.tmp rfl) ?_
    refine ⟨congrArg Ending.returned ?_, hs12.nil⟩
    rw [show rowOk r.dat = false from by unfold rowOk; rw [show cellsOk r.dat.Cells = false from cellsOk_not (i := i) (by show i < r.Cells.xs.length; omega) hci, Bool.and_false]]
   ·have qh13 := h13
    try simp only [bf, within_iff, within_not] at qh13
    have hci : cellOk (gat encCell r.Cells.xs i) = true := by simpa using h13
    refine WC.skip ?_
    refine hK8 _ _ ?_
    refine WC.region ?_
    refine WL.run tbk 2 hs12 [] rfl ⟨by omega, trivial⟩ ?_
    refine WL.nil ?_
    refine tkN ?_
    refine ⟨⟨rfl, rfl, rfl, trivial⟩, (hs12.drop (by repeat (first | exact List.Sublist.refl _ | exact List.sublist_append_left _ _ | exact List.Sublist.trans (List.sublist_append_left _ _) (List.sublist_append_left _ _) | apply List.Sublist.cons | refine List.Sublist.trans ?_ (List.sublist_append_right _ _)))), _, ?_, i + 1, rfl, ?_, ?_, ⟨rfl, trivial⟩⟩
    · omega
    · omega
    · intro j hj; rcases Nat.lt_or_ge j i with h_ | h_
      · exact p1 j h_
      · obtain rfl : j = i := by omega
        exact hci
  ·have qh7 := h7
   try simp only [bf, within_iff, within_not] at qh7
   refine WC.exit ?_
   refine hK4 _ _ ?_
   refine WC.sr ?_
   refine WL.run tbk 5 hs5 [0] rfl ⟨rfl, trivial⟩ ?_
   refine WL.pA tbk 4 Acts.nil hs5 [0] rfl rfl rfl rfl (fun g_ => ⟨rfl, trivial⟩) ?_
   refine WL.run tbk 1 hs5 [] rfl trivial ?_
   refine WL.nil ?_
   refine WC.ret ?_
   refine retV1 rfl (resV.tmp rfl) ?_
   refine ⟨congrArg Ending.returned ?_, hs5.nil⟩
   rw [show rowOk r.dat = within (r.Cells.n : Int) 1 120 from by unfold rowOk; rw [show cellsOk r.dat.Cells = true from cellsOk_all (fun j hj => p1 j (by have : j < r.Cells.xs.length := hj; omega)), Bool.and_true, ← nl_r_Cells]; rfl]; rfl
set_option maxHeartbeats 4000000 in
theorem c_spec_ScrOk (s : ScrR) (w : World) (f_s : okScrR 549755813888 w s) :
    Calls Try.prog 78 #[.agg #[i64 s.W, i64 s.H, i64 s.Main.W, i64 s.Main.H, .slice s.Main.Cells.A s.Main.Cells.n s.Main.Cells.c, i64 s.Alt.W, i64 s.Alt.H, .slice s.Alt.Cells.A s.Alt.Cells.n s.Alt.Cells.c, .bool s.OnAlt, i64 s.X, i64 s.Y, .bool s.Wrap, i64 s.A.Fg, i64 s.A.Bg, .bool s.A.Bold, .bool s.A.Under, .bool s.A.Turn, i64 s.Top, i64 s.Bot, .bool s.NoWrap, .bool s.Hide, i64 s.SaveX, i64 s.SaveY, i64 s.SaveA.Fg, i64 s.SaveA.Bg, .bool s.SaveA.Bold, .bool s.SaveA.Under, .bool s.SaveA.Turn, .slice s.Tabs.A s.Tabs.n s.Tabs.c, i64 s.Limit, .slice s.Back.A s.Back.n s.Back.c]] w fun e w' => e = .returned (.bool (scrOk s.dat)) ∧ St w [] [] w' := by
 have nb_s_Main_Cells := f_s.Main.Cells_n
 have nl_s_Main_Cells := f_s.Main.Cells.len
 have nb_s_Alt_Cells := f_s.Alt.Cells_n
 have nl_s_Alt_Cells := f_s.Alt.Cells.len
 have nb_s_Tabs := f_s.Tabs_n
 have nl_s_Tabs := f_s.Tabs.len
 have nb_s_Back := f_s.Back_n
 have nl_s_Back := f_s.Back.sl.len
 refine enter (vs := [.agg #[i64 s.W, i64 s.H, i64 s.Main.W, i64 s.Main.H, .slice s.Main.Cells.A s.Main.Cells.n s.Main.Cells.c, i64 s.Alt.W, i64 s.Alt.H, .slice s.Alt.Cells.A s.Alt.Cells.n s.Alt.Cells.c, .bool s.OnAlt, i64 s.X, i64 s.Y, .bool s.Wrap, i64 s.A.Fg, i64 s.A.Bg, .bool s.A.Bold, .bool s.A.Under, .bool s.A.Turn, i64 s.Top, i64 s.Bot, .bool s.NoWrap, .bool s.Hide, i64 s.SaveX, i64 s.SaveY, i64 s.SaveA.Fg, i64 s.SaveA.Bg, .bool s.SaveA.Bold, .bool s.SaveA.Under, .bool s.SaveA.Turn, .slice s.Tabs.A s.Tabs.n s.Tabs.c, i64 s.Limit, .slice s.Back.A s.Back.n s.Back.c]]) 208 Try.func78 rfl Try.ntmps78 rfl rfl ?_
 have hs1 := St.init w
 refine WC.sr ?_
 refine WL.bx hs1 rfl (fun b2 _ hs3 => ?_)
 refine WL.run tbk 1 hs3 [] rfl trivial ?_
 refine WL.nil ?_
 refine WC.seq (fun K4 hK4 => ?_)
 refine WC.sr ?_
 refine WL.run tbk 2 hs3 [0] rfl ⟨rfl, trivial⟩ ?_
 refine WL.call rfl rfl rfl (Run.call Try.call141 rfl rfl rfl) (c_spec_GridOk s.Main _ (okGridR.st0 f_s.Main hs3)) ?_
 rintro _ whs5 ⟨rfl, hs5⟩
 replace hs5 := hs3.call0 hs5
 refine ⟨_, rfl, ?_⟩
 refine WL.run tbk 2 hs5 [] rfl trivial ?_
 apply WL.gO 4 Acts.nil hs5 rfl
 ·intro g6 J7
  have qg6 := g6
  try simp only [bf, within_iff, within_not] at qg6
  refine WL.runA tbk 2 (Acts.nil.cons (j := 4) rfl g6) hs5 [0] rfl ⟨rfl, trivial⟩ ?_
  refine WL.call (wantF rfl g6) rfl rfl (Run.call Try.call141 rfl rfl rfl) (c_spec_GridOk s.Alt _ (okGridR.st0 f_s.Alt hs5)) ?_
  rintro _ whs8 ⟨rfl, hs8⟩
  replace hs8 := hs5.call0 hs8
  refine ⟨_, rfl, ?_⟩
  refine WL.runA tbk 1 (Acts.nil.cons (j := 4) rfl g6) hs8 [] rfl trivial ?_
  exact WL.eO 4 Acts.nil J7 hs8 g6 rfl rfl
 ·intro _ hs9
  refine WL.run tbk 1 hs9 [] rfl trivial ?_
  refine WL.pO tbk 6 Acts.nil hs9 [0, 0] rfl rfl rfl rfl (fun g_ => ⟨rfl, rfl, trivial⟩) ?_
  refine WL.run tbk 1 hs9 [] rfl trivial ?_
  refine WL.pO tbk 6 Acts.nil hs9 [0, 0] rfl rfl rfl rfl (fun g_ => ⟨rfl, rfl, trivial⟩) ?_
  refine WL.run tbk 1 hs9 [] rfl trivial ?_
  refine WL.pO tbk 6 Acts.nil hs9 [0, 0] rfl rfl rfl rfl (fun g_ => ⟨rfl, rfl, trivial⟩) ?_
  refine WL.run tbk 1 hs9 [] rfl trivial ?_
  refine WL.pO tbk 6 Acts.nil hs9 [0, 0] rfl rfl rfl rfl (fun g_ => ⟨rfl, rfl, trivial⟩) ?_
  refine WL.nil ?_
  refine WC.cond rfl (fun h10 => ?_) (fun h10 => ?_)
  ·have qh10 := h10
   try simp only [bf, within_iff, within_not] at qh10
   have hp1 : scrP1 s.dat = false := by have h9 := h10; unfold scrP1 gridFit; show ((gridOk s.Main.dat && (decide (s.Main.W = s.W) && decide (s.Main.H = s.H))) && (gridOk s.Alt.dat && (decide (s.Alt.W = s.W) && decide (s.Alt.H = s.H)))) = false; revert h9; cases gridOk s.Main.dat <;> cases gridOk s.Alt.dat <;> cases decide (s.Main.W = s.W) <;> cases decide (s.Main.H = s.H) <;> cases decide (s.Alt.W = s.W) <;> cases decide (s.Alt.H = s.H) <;> simp
   refine WC.rr tbk hs9 [] rfl trivial ?_
   refine WC.ret ?_
   refine tkR ?_
   clear hK4
   refine retV1 rfl (resV.tmp rfl) ?_
   refine ⟨congrArg Ending.returned ?_, hs9.nil⟩
   rw [scrOk_no (.inl hp1)]
  ·have qh10 := h10
   try simp only [bf, within_iff, within_not] at qh10
   have hp1 : scrP1 s.dat = true := by have h9 := h10; unfold scrP1 gridFit; show ((gridOk s.Main.dat && (decide (s.Main.W = s.W) && decide (s.Main.H = s.H))) && (gridOk s.Alt.dat && (decide (s.Alt.W = s.W) && decide (s.Alt.H = s.H)))) = true; revert h9; cases gridOk s.Main.dat <;> cases gridOk s.Alt.dat <;> cases decide (s.Main.W = s.W) <;> cases decide (s.Main.H = s.H) <;> cases decide (s.Alt.W = s.W) <;> cases decide (s.Alt.H = s.H) <;> simp
   have hbn : (1 ≤ s.W ∧ s.W ≤ 120) ∧ (1 ≤ s.H ∧ s.H ≤ 120) ∧ s.Main.W = s.W ∧ s.Main.H = s.H ∧ s.Alt.W = s.W ∧ s.Alt.H = s.H := scrP1_bnd hp1
   refine WC.skip ?_
   refine hK4 _ _ ?_
   refine WC.seq (fun K11 hK11 => ?_)
   refine WC.sr ?_
   refine WL.run tbk 4 hs9 [0] rfl ⟨rfl, trivial⟩ ?_
   refine WL.pO tbk 5 Acts.nil hs9 [0, 0] rfl rfl rfl rfl (fun g_ => ⟨rfl, rfl, trivial⟩) ?_
   refine WL.run tbk 1 hs9 [] rfl trivial ?_
   refine WL.pO tbk 3 Acts.nil hs9 [0] rfl rfl rfl rfl (fun g_ => ⟨rfl, trivial⟩) ?_
   refine WL.run tbk 1 hs9 [] rfl trivial ?_
   refine WL.pO tbk 5 Acts.nil hs9 [0, 0] rfl rfl rfl rfl (fun g_ => ⟨rfl, rfl, trivial⟩) ?_
   refine WL.run tbk 1 hs9 [] rfl trivial ?_
   apply WL.gO 10 Acts.nil hs9 rfl
   ·intro g12 J13
    have qg12 := g12
    try simp only [bf, within_iff, within_not] at qg12
    refine WL.runA tbk 3 (Acts.nil.cons (j := 22) rfl g12) hs9 [0] rfl ⟨rfl, trivial⟩ ?_
    refine WL.pA tbk 6 (Acts.nil.cons (j := 22) rfl g12) hs9 [0, 0] rfl rfl rfl rfl (fun g_ => by (try simp only [bf, within_iff, within_not] at g_); exact ⟨by omega, rfl, rfl, trivial⟩) ?_
    exact WL.eO 4 Acts.nil J13 hs9 g12 rfl rfl
   ·intro _ hs14
    refine WL.run tbk 1 hs14 [] rfl trivial ?_
    refine WL.pO tbk 3 Acts.nil hs14 [0] rfl rfl rfl rfl (fun g_ => ⟨rfl, trivial⟩) ?_
    refine WL.run tbk 1 hs14 [] rfl trivial ?_
    refine WL.pO tbk 5 Acts.nil hs14 [0, 0] rfl rfl rfl rfl (fun g_ => ⟨rfl, rfl, trivial⟩) ?_
    refine WL.run tbk 1 hs14 [] rfl trivial ?_
    refine WL.pO tbk 3 Acts.nil hs14 [0] rfl rfl rfl rfl (fun g_ => ⟨rfl, trivial⟩) ?_
    refine WL.run tbk 1 hs14 [] rfl trivial ?_
    refine WL.pO tbk 5 Acts.nil hs14 [0, 0] rfl rfl rfl rfl (fun g_ => ⟨rfl, rfl, trivial⟩) ?_
    refine WL.run tbk 1 hs14 [] rfl trivial ?_
    apply WL.gO 4 Acts.nil hs14 rfl
    ·intro g15 J16
     have qg15 := g15
     try simp only [bf, within_iff, within_not] at qg15
     refine WL.runA tbk 2 (Acts.nil.cons (j := 58) rfl g15) hs14 [0] rfl ⟨rfl, trivial⟩ ?_
     refine WL.call (wantF rfl g15) rfl rfl (Run.call Try.call142 rfl rfl rfl) (c_spec_AttrOk _ _ _ _ _ _) ?_
     rintro _ whs17 ⟨rfl, hs17⟩
     replace hs17 := hs14.call0 hs17
     refine ⟨_, rfl, ?_⟩
     refine WL.runA tbk 1 (Acts.nil.cons (j := 58) rfl g15) hs17 [] rfl trivial ?_
     exact WL.eO 4 Acts.nil J16 hs17 g15 rfl rfl
    ·intro _ hs18
     refine WL.run tbk 1 hs18 [] rfl trivial ?_
     apply WL.gO 4 Acts.nil hs18 rfl
     ·intro g19 J20
      have qg19 := g19
      try simp only [bf, within_iff, within_not] at qg19
      refine WL.runA tbk 2 (Acts.nil.cons (j := 64) rfl g19) hs18 [0] rfl ⟨rfl, trivial⟩ ?_
      refine WL.call (wantF rfl g19) rfl rfl (Run.call Try.call142 rfl rfl rfl) (c_spec_AttrOk _ _ _ _ _ _) ?_
      rintro _ whs21 ⟨rfl, hs21⟩
      replace hs21 := hs18.call0 hs21
      refine ⟨_, rfl, ?_⟩
      refine WL.runA tbk 1 (Acts.nil.cons (j := 64) rfl g19) hs21 [] rfl trivial ?_
      exact WL.eO 4 Acts.nil J20 hs21 g19 rfl rfl
     ·intro _ hs22
      refine WL.nil ?_
      refine WC.cond rfl (fun h23 => ?_) (fun h23 => ?_)
      ·have qh23 := h23
       try simp only [bf, within_iff, within_not] at qh23
       have hp2 : scrP2 s.dat = false := by have h9 := h23; unfold scrP2 gridHas within; show ((((decide (0 ≤ s.X) && decide (s.X ≤ s.Main.W - 1)) && (decide (0 ≤ s.Y) && decide (s.Y ≤ s.Main.H - 1))) && ((decide (0 ≤ s.SaveX) && decide (s.SaveX ≤ s.Main.W - 1)) && (decide (0 ≤ s.SaveY) && decide (s.SaveY ≤ s.Main.H - 1)))) && ((!s.Wrap || decide (s.X = s.W - 1)) && (attrOk s.A.Fg s.A.Bg && attrOk s.SaveA.Fg s.SaveA.Bg))) = false; revert h9; cases s.Wrap <;> cases attrOk s.A.Fg s.A.Bg <;> cases attrOk s.SaveA.Fg s.SaveA.Bg <;> intro h9 <;> simp at h9 ⊢ <;> omega
       refine WC.rr tbk hs22 [] rfl trivial ?_
       refine WC.ret ?_
       refine tkR ?_
       clear hK11
       refine retV1 rfl (resV.tmp rfl) ?_
       refine ⟨congrArg Ending.returned ?_, hs22.nil⟩
       rw [scrOk_no (.inr (.inl hp2))]
      ·have qh23 := h23
       try simp only [bf, within_iff, within_not] at qh23
       have hp2 : scrP2 s.dat = true := by have h9 := h23; unfold scrP2 gridHas within; show ((((decide (0 ≤ s.X) && decide (s.X ≤ s.Main.W - 1)) && (decide (0 ≤ s.Y) && decide (s.Y ≤ s.Main.H - 1))) && ((decide (0 ≤ s.SaveX) && decide (s.SaveX ≤ s.Main.W - 1)) && (decide (0 ≤ s.SaveY) && decide (s.SaveY ≤ s.Main.H - 1)))) && ((!s.Wrap || decide (s.X = s.W - 1)) && (attrOk s.A.Fg s.A.Bg && attrOk s.SaveA.Fg s.SaveA.Bg))) = true; revert h9; cases s.Wrap <;> cases attrOk s.A.Fg s.A.Bg <;> cases attrOk s.SaveA.Fg s.SaveA.Bg <;> intro h9 <;> simp at h9 ⊢ <;> omega
       refine WC.skip ?_
       refine hK11 _ _ ?_
       refine WC.seq (fun K24 hK24 => ?_)
       refine WC.sr ?_
       refine WL.run tbk 4 hs22 [0] rfl ⟨rfl, trivial⟩ ?_
       refine WL.pO tbk 5 Acts.nil hs22 [0, 0] rfl rfl rfl rfl (fun g_ => ⟨rfl, rfl, trivial⟩) ?_
       refine WL.run tbk 1 hs22 [] rfl trivial ?_
       refine WL.pO tbk 5 Acts.nil hs22 [0, 0] rfl rfl rfl rfl (fun g_ => ⟨rfl, rfl, trivial⟩) ?_
       refine WL.run tbk 1 hs22 [] rfl trivial ?_
       apply WL.gO 10 Acts.nil hs22 rfl
       ·intro g25 J26
        have qg25 := g25
        try simp only [bf, within_iff, within_not] at qg25
        refine WL.runA tbk 6 (Acts.nil.cons (j := 17) rfl g25) hs22 [0, 0] rfl ⟨rfl, rfl, trivial⟩ ?_
        refine WL.pA tbk 3 (Acts.nil.cons (j := 17) rfl g25) hs22 [0] rfl rfl rfl rfl (fun g_ => ⟨rfl, trivial⟩) ?_
        exact WL.eO 7 Acts.nil J26 hs22 g25 rfl rfl
       ·intro _ hs27
        refine WL.run tbk 1 hs27 [] rfl trivial ?_
        refine WL.pO tbk 3 Acts.nil hs27 [0] rfl rfl rfl rfl (fun g_ => ⟨rfl, trivial⟩) ?_
        refine WL.run tbk 1 hs27 [] rfl trivial ?_
        refine WL.pO tbk 3 Acts.nil hs27 [0] rfl rfl rfl rfl (fun g_ => ⟨rfl, trivial⟩) ?_
        refine WL.run tbk 1 hs27 [] rfl trivial ?_
        refine WL.pO tbk 6 Acts.nil hs27 [0, 0] rfl rfl rfl rfl (fun g_ => ⟨rfl, rfl, trivial⟩) ?_
        refine WL.nil ?_
        refine WC.cond rfl (fun h28 => ?_) (fun h28 => ?_)
        ·have qh28 := h28
         try simp only [bf, within_iff, within_not] at qh28
         have hp34 : scrP3 s.dat = false ∨ scrP4 s.dat = false := by have h9 := h28; unfold scrP3 scrP4 within; show ((decide (0 ≤ s.Top) && decide (s.Top ≤ s.Bot)) && (decide (s.Bot < s.H) && (!decide (s.Top = s.Bot) || decide (s.H = 1)))) = false ∨ ((decide (0 ≤ s.Limit) && decide (s.Limit ≤ 100)) && decide (((s.Back.xs.map RowR.dat).length : Int) ≤ s.Limit)) = false; rw [List.length_map, nl_s_Back]; simp at h9 ⊢; omega
         refine WC.rr tbk hs27 [] rfl trivial ?_
         refine WC.ret ?_
         refine tkR ?_
         clear hK24
         refine retV1 rfl (resV.tmp rfl) ?_
         refine ⟨congrArg Ending.returned ?_, hs27.nil⟩
         rw [scrOk_no (.inr (.inr (hp34.elim .inl (fun h => .inr (.inl h)))))]
        ·have qh28 := h28
         try simp only [bf, within_iff, within_not] at qh28
         have hp34 : scrP3 s.dat = true ∧ scrP4 s.dat = true := by have h9 := h28; unfold scrP3 scrP4 within; show ((decide (0 ≤ s.Top) && decide (s.Top ≤ s.Bot)) && (decide (s.Bot < s.H) && (!decide (s.Top = s.Bot) || decide (s.H = 1)))) = true ∧ ((decide (0 ≤ s.Limit) && decide (s.Limit ≤ 100)) && decide (((s.Back.xs.map RowR.dat).length : Int) ≤ s.Limit)) = true; rw [List.length_map, nl_s_Back]; simp at h9 ⊢; omega
         refine WC.skip ?_
         refine hK24 _ _ ?_
         refine WC.seq (fun K29 hK29 => ?_)
         refine WC.rr tbk hs27 [0] rfl ⟨rfl, trivial⟩ ?_
         refine WC.block ?_
         refine WC.loopS [(1, _), (48, _), (118, _), (165, _), (167, _), (168, _)] ⟨rfl, rfl, rfl, rfl, rfl, rfl, trivial⟩ hs27 (fun k_ f w' => ∃ (i : Nat), k_ = s.Tabs.n - i ∧ (i ≤ s.Tabs.n) ∧ (∀ j, j < i → ascAt s.Tabs.xs 0 (s.W - 1) j = true) ∧ Sub [(169, .int .i64 i)] f) ((fun (i : Nat) => s.Tabs.n - i) (0)) ?_ ?_
         ·refine ⟨0, rfl, ?_, ?_, ⟨rfl, trivial⟩⟩
          · exact Nat.zero_le _
          · exact fun j hj => absurd hj (by omega)
         ·clear hs27
          rintro _ f w ⟨i, rfl, p0, p1, hG⟩ hF hs30
          refine WC.sub _ (hG.app hF) ?_
          clear hG hF
          refine WC.rr tbk hs30 [] rfl trivial ?_
          refine WC.seq (fun K31 hK31 => ?_)
          refine WC.cond rfl (fun h32 => ?_) (fun h32 => ?_)
          ·have qh32 := h32
           try simp only [bf, within_iff, within_not] at qh32
           refine WC.skip ?_
           refine hK31 _ _ ?_
           refine WC.seq (fun K33 hK33 => ?_)
           refine WC.block ?_
           refine WC.sr ?_
           refine WL.run tbk 1 hs30 [] rfl trivial ?_
           refine WL.val rfl rfl rfl (Run.idxN Try.runUnderlying22 Try.sizeOf3 rfl rfl rfl ?_ ?_ ?_) ?_
           · exact SlF.some_ (SlF.st0 f_s.Tabs hs30)
           · omega
           · omega
           refine WL.val rfl rfl rfl (Run.load Try.isAgg3 rfl rfl (SlF.one1 (SlF.st0 f_s.Tabs hs30) ?_ rfl)) ?_
           · omega
           refine WL.run tbk 2 hs30 [] rfl trivial ?_
           refine WL.nil ?_
           refine WC.sr ?_
           refine WL.run tbk 3 hs30 [] rfl trivial ?_
           refine WL.pO tbk 4 Acts.nil hs30 [0] rfl rfl rfl rfl (fun g_ => ⟨rfl, trivial⟩) ?_
           refine WL.run tbk 1 hs30 [] rfl trivial ?_
           apply WL.gO 12 Acts.nil hs30 rfl
           ·intro g34 J35
            have qg34 := g34
            try simp only [bf, within_iff, within_not] at qg34
            refine WL.runA tbk 3 (Acts.nil.cons (j := 8) rfl g34) hs30 [] rfl trivial ?_
            apply WL.gA 8 (Acts.nil.cons (j := 8) rfl g34) hs30 rfl
            ·intro g36 J37
             have qg36 := g36
             try simp only [bf, within_iff, within_not] at qg36
             refine WL.runA tbk 4 (Acts.nil.cons (j := 11) rfl g36) hs30 [0] rfl ⟨by omega, rfl, trivial⟩ ?_
             refine WL.val (wantT rfl g36) rfl rfl (Run.idxK (i - 1) Try.runUnderlying22 Try.sizeOf3 rfl rfl rfl ?_ ?_ ?_) ?_
             · exact SlF.some_ (SlF.st0 f_s.Tabs hs30)
             · omega
             · omega
             refine WL.val (wantT rfl g36) rfl rfl (Run.load Try.isAgg3 rfl rfl (SlF.one1 (SlF.st0 f_s.Tabs hs30) ?_ rfl)) ?_
             · omega
             refine WL.runA tbk 2 (Acts.nil.cons (j := 11) rfl g36) hs30 [] rfl trivial ?_
             exact WL.eA 8 (Acts.nil.cons (j := 8) rfl g34) J37 hs30 g36 rfl rfl
            ·intro _ hs38
             exact WL.eO 4 Acts.nil J35 hs38 g34 rfl rfl
           ·intro _ hs39
            refine WL.nil ?_
            refine WC.cond rfl (fun h40 => ?_) (fun h40 => ?_)
            ·have qh40 := h40
             try simp only [bf, within_iff, within_not] at qh40
             have ha : ascAt s.Tabs.xs 0 (s.W - 1) i = false := by unfold ascAt within iat; have h9 := h40; simp at h9 ⊢; omega
             refine WC.rr tbk hs39 [] rfl trivial ?_
             refine WC.ret ?_
             refine ibR (tkR (tkR (ibR (tkR ?_))))
             clear hK33 hK29
             refine retV1 rfl (resV.tmp rfl) ?_
             refine ⟨congrArg Ending.returned ?_, hs39.nil⟩
             rw [scrOk_no (.inr (.inr (.inr (.inr (.inl (isAsc_not (i := i) (by show i < s.Tabs.xs.length; omega) ha))))))]
            ·have qh40 := h40
             try simp only [bf, within_iff, within_not] at qh40
             have ha : ascAt s.Tabs.xs 0 (s.W - 1) i = true := by unfold ascAt within iat; have h9 := h40; simp at h9 ⊢; omega
             refine WC.skip ?_
             refine hK33 _ _ ?_
             refine WC.region ?_
             refine WL.run tbk 2 hs39 [] rfl ⟨by omega, trivial⟩ ?_
             refine WL.nil ?_
             refine tkN ?_
             refine ⟨⟨rfl, rfl, rfl, rfl, rfl, rfl, trivial⟩, hs39, _, ?_, i + 1, rfl, ?_, ?_, ⟨rfl, trivial⟩⟩
             · omega
             · omega
             · intro j hj; rcases Nat.lt_or_ge j i with h_ | h_
               · exact p1 j h_
               · obtain rfl : j = i := by omega
                 exact ha
          ·have qh32 := h32
           try simp only [bf, within_iff, within_not] at qh32
           have hasc : isAsc s.dat.Tabs 0 (s.dat.W - 1) = true := isAsc_all (fun j hj => p1 j (by have : j < s.Tabs.xs.length := hj; omega))
           refine WC.exit ?_
           refine hK29 _ _ ?_
           refine WC.seq (fun K41 hK41 => ?_)
           refine WC.rr tbk hs30 [0] rfl ⟨rfl, trivial⟩ ?_
           refine WC.block ?_
           refine WC.loopS [(48, _), (118, _), (165, _), (170, _), (198, _), (199, _)] ⟨rfl, rfl, rfl, rfl, rfl, rfl, trivial⟩ hs30 (fun k_ f w' => ∃ (i : Nat), k_ = s.Back.n - i ∧ (i ≤ s.Back.n) ∧ (∀ j, j < i → rowOk (RowR.dat (gat encRowR s.Back.xs j)) = true) ∧ Sub [(200, .int .i64 i)] f) ((fun (i : Nat) => s.Back.n - i) (0)) ?_ ?_
           ·refine ⟨0, rfl, ?_, ?_, ⟨rfl, trivial⟩⟩
            · exact Nat.zero_le _
            · exact fun j hj => absurd hj (by omega)
           ·clear hs30
            rintro _ f w ⟨i, rfl, r0, r1, hG⟩ hF hs42
            refine WC.sub _ (hG.app hF) ?_
            clear hG hF
            refine WC.rr tbk hs42 [] rfl trivial ?_
            refine WC.seq (fun K43 hK43 => ?_)
            refine WC.cond rfl (fun h44 => ?_) (fun h44 => ?_)
            ·have qh44 := h44
             try simp only [bf, within_iff, within_not] at qh44
             refine WC.skip ?_
             refine hK43 _ _ ?_
             refine WC.seq (fun K45 hK45 => ?_)
             refine WC.block ?_
             refine WC.sr ?_
             refine WL.val rfl rfl rfl (Run.idxN Try.runUnderlying31 Try.sizeOf98 rfl rfl rfl ?_ ?_ ?_) ?_
             · exact SlF.some_ (SlF.st0 f_s.Back.sl hs42)
             · omega
             · omega
             refine WL.val rfl rfl rfl (Run.loadA Try.isAgg98 Try.sizeOf98 rfl rfl (SlF.whole (SlF.st0 f_s.Back.sl hs42) ?_)) ?_
             · omega
             refine WL.al hs42 Try.zeroValue98 rfl rfl (fun b46 _ hs47 => ?_)
             refine WL.st tbk hs47 0 rfl rfl (fun _ hs48 => ?_)
             refine WL.nil ?_
             refine WC.sr ?_
             refine WL.run tbk 1 hs48 [0] rfl ⟨rfl, trivial⟩ ?_
             refine WL.call rfl rfl rfl (Run.call Try.call143 rfl rfl rfl) (c_spec_l09Row (gat encRowR s.Back.xs i) _ (okRowR.st0 (SlN.nth f_s.Back (by omega)) hs48)) ?_
             rintro _ whs49 ⟨rfl, hs49⟩
             replace hs49 := hs48.call0 hs49
             refine ⟨_, rfl, ?_⟩
             refine WL.run tbk 1 hs49 [] rfl trivial ?_
             refine WL.nil ?_
             refine WC.cond rfl (fun h50 => ?_) (fun h50 => ?_)
             ·have qh50 := h50
              try simp only [bf, within_iff, within_not] at qh50
              refine WC.rr tbk hs49 [] rfl trivial ?_
              refine WC.ret ?_
              refine ibR (tkR (tkR (ibR (tkR ?_))))
              clear hK45 hK41
              refine retV1 rfl (resV.tmp rfl) ?_
              refine ⟨congrArg Ending.returned ?_, hs49.nil⟩
              rw [scrOk_no (.inr (.inr (.inr (.inr (.inr (all_gat_not (F := encRowR) (j := i) (by omega) (by simpa using h50)))))))]
             ·have qh50 := h50
              try simp only [bf, within_iff, within_not] at qh50
              refine WC.skip ?_
              refine hK45 _ _ ?_
              refine WC.region ?_
              refine WL.run tbk 2 hs49 [] rfl ⟨by omega, trivial⟩ ?_
              refine WL.nil ?_
              refine tkN ?_
              refine ⟨⟨rfl, rfl, rfl, rfl, rfl, rfl, trivial⟩, (hs49.drop (by repeat (first | exact List.Sublist.refl _ | exact List.sublist_append_left _ _ | exact List.Sublist.trans (List.sublist_append_left _ _) (List.sublist_append_left _ _) | apply List.Sublist.cons | refine List.Sublist.trans ?_ (List.sublist_append_right _ _)))), _, ?_, i + 1, rfl, ?_, ?_, ⟨rfl, trivial⟩⟩
              · omega
              · omega
              · intro j hj; rcases Nat.lt_or_ge j i with h_ | h_
                · exact r1 j h_
                · obtain rfl : j = i := by omega
                  simpa using h50
            ·have qh44 := h44
             try simp only [bf, within_iff, within_not] at qh44
             refine WC.exit ?_
             refine hK41 _ _ ?_
             refine WC.rr tbk hs42 [] rfl trivial ?_
             refine WC.ret ?_
             refine retV1 rfl (resV.tmp rfl) ?_
             refine ⟨congrArg Ending.returned ?_, hs42.nil⟩
             rw [scrOk_all hp1 hp2 hp34.1 hp34.2 hasc (all_gat (F := encRowR) (fun j hj => r1 j (by omega)))]
theorem c_spec_TermOk (t : TermR) (w : World) (f_t : okTermR 549755813888 w t) :
    Calls Try.prog 36 #[.agg #[i64 t.P.State, .bool t.P.Mark, .slice t.P.Args.A t.P.Args.n t.P.Args.c, .slice t.P.Part.A t.P.Part.n t.P.Part.c, i64 t.S.W, i64 t.S.H, i64 t.S.Main.W, i64 t.S.Main.H, .slice t.S.Main.Cells.A t.S.Main.Cells.n t.S.Main.Cells.c, i64 t.S.Alt.W, i64 t.S.Alt.H, .slice t.S.Alt.Cells.A t.S.Alt.Cells.n t.S.Alt.Cells.c, .bool t.S.OnAlt, i64 t.S.X, i64 t.S.Y, .bool t.S.Wrap, i64 t.S.A.Fg, i64 t.S.A.Bg, .bool t.S.A.Bold, .bool t.S.A.Under, .bool t.S.A.Turn, i64 t.S.Top, i64 t.S.Bot, .bool t.S.NoWrap, .bool t.S.Hide, i64 t.S.SaveX, i64 t.S.SaveY, i64 t.S.SaveA.Fg, i64 t.S.SaveA.Bg, .bool t.S.SaveA.Bold, .bool t.S.SaveA.Under, .bool t.S.SaveA.Turn, .slice t.S.Tabs.A t.S.Tabs.n t.S.Tabs.c, i64 t.S.Limit, .slice t.S.Back.A t.S.Back.n t.S.Back.c]] w fun e w' => e = .returned (.bool (termOk t.dat)) ∧ St w [] [] w' := by
 have nb_t_P_Args := f_t.P.Args_n
 have nl_t_P_Args := f_t.P.Args.len
 have nb_t_P_Part := f_t.P.Part_n
 have nl_t_P_Part := f_t.P.Part.len
 have nb_t_S_Main_Cells := f_t.S.Main.Cells_n
 have nl_t_S_Main_Cells := f_t.S.Main.Cells.len
 have nb_t_S_Alt_Cells := f_t.S.Alt.Cells_n
 have nl_t_S_Alt_Cells := f_t.S.Alt.Cells.len
 have nb_t_S_Tabs := f_t.S.Tabs_n
 have nl_t_S_Tabs := f_t.S.Tabs.len
 have nb_t_S_Back := f_t.S.Back_n
 have nl_t_S_Back := f_t.S.Back.sl.len
 refine enter (vs := [.agg #[i64 t.P.State, .bool t.P.Mark, .slice t.P.Args.A t.P.Args.n t.P.Args.c, .slice t.P.Part.A t.P.Part.n t.P.Part.c, i64 t.S.W, i64 t.S.H, i64 t.S.Main.W, i64 t.S.Main.H, .slice t.S.Main.Cells.A t.S.Main.Cells.n t.S.Main.Cells.c, i64 t.S.Alt.W, i64 t.S.Alt.H, .slice t.S.Alt.Cells.A t.S.Alt.Cells.n t.S.Alt.Cells.c, .bool t.S.OnAlt, i64 t.S.X, i64 t.S.Y, .bool t.S.Wrap, i64 t.S.A.Fg, i64 t.S.A.Bg, .bool t.S.A.Bold, .bool t.S.A.Under, .bool t.S.A.Turn, i64 t.S.Top, i64 t.S.Bot, .bool t.S.NoWrap, .bool t.S.Hide, i64 t.S.SaveX, i64 t.S.SaveY, i64 t.S.SaveA.Fg, i64 t.S.SaveA.Bg, .bool t.S.SaveA.Bold, .bool t.S.SaveA.Under, .bool t.S.SaveA.Turn, .slice t.S.Tabs.A t.S.Tabs.n t.S.Tabs.c, i64 t.S.Limit, .slice t.S.Back.A t.S.Back.n t.S.Back.c]]) 11 Try.func36 rfl Try.ntmps36 rfl rfl ?_
 have hs1 := St.init w
 refine WC.sr ?_
 refine WL.bx hs1 rfl (fun b2 _ hs3 => ?_)
 refine WL.run tbk 1 hs3 [] rfl trivial ?_
 refine WL.nil ?_
 refine WC.sr ?_
 refine WL.run tbk 2 hs3 [0] rfl ⟨rfl, trivial⟩ ?_
 refine WL.call rfl rfl rfl (Run.call Try.call66 rfl rfl rfl) (c_spec_VpOk t.P _ (okVpR.st0 f_t.P hs3)) ?_
 rintro _ whs4 ⟨rfl, hs4⟩
 replace hs4 := hs3.call0 hs4
 refine ⟨_, rfl, ?_⟩
 refine WL.run tbk 1 hs4 [] rfl trivial ?_
 apply WL.gA 3 Acts.nil hs4 rfl
 ·intro g5 J6
  have qg5 := g5
  try simp only [bf, within_iff, within_not] at qg5
  refine WL.runA tbk 2 (Acts.nil.cons (j := 3) rfl g5) hs4 [0] rfl ⟨rfl, trivial⟩ ?_
  refine WL.call (wantT rfl g5) rfl rfl (Run.call Try.call78 rfl rfl rfl) (c_spec_ScrOk t.S _ (okScrR.st0 f_t.S hs4)) ?_
  rintro _ whs7 ⟨rfl, hs7⟩
  replace hs7 := hs4.call0 hs7
  refine ⟨_, rfl, ?_⟩
  exact WL.eA 3 Acts.nil J6 hs7 g5 rfl rfl
 ·intro _ hs8
  refine WL.run tbk 1 hs8 [] rfl trivial ?_
  refine WL.nil ?_
  refine WC.ret ?_
  refine retV1 rfl (resV.tmp rfl) ?_
  refine ⟨congrArg Ending.returned ?_, hs8.nil⟩
  rfl
end Go.Proofs.Ytlmcekfdlgkffaa
