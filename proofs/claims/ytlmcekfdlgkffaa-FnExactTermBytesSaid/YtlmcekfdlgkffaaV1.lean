/- Walks of Go functions, printed by a program (wip/gen). -/
import Derived.Test.YtlmcekfdlgkffaaT2
namespace Go.Proofs.Ytlmcekfdlgkffaa
open Go Go.RowKit
set_option linter.unusedVariables false
set_option linter.unusedSimpArgs false
theorem c_impl_GridOk (g : GridR) (w : World) (f_g : okGridR 549755813888 w g) :
    Calls Try.prog 102 #[.agg #[i64 g.W, i64 g.H, .slice g.Cells.A g.Cells.n g.Cells.c]] w fun e w' => e = .returned (.bool (gridOk g.dat)) ∧ St w [] [] w' := by
 have nb_g_Cells := f_g.Cells_n
 have nl_g_Cells := f_g.Cells.len
 refine enter (vs := [.agg #[i64 g.W, i64 g.H, .slice g.Cells.A g.Cells.n g.Cells.c]]) 24 Try.func102 rfl Try.ntmps102 rfl rfl ?_
 have hs1 := St.init w
 refine WC.sr ?_
 refine WL.bx hs1 rfl (fun b2 _ hs3 => ?_)
 refine WL.run tbk 1 hs3 [] rfl trivial ?_
 refine WL.nil ?_
 refine WC.sr ?_
 refine WL.run tbk 4 hs3 [0, 0] rfl ⟨rfl, rfl, trivial⟩ ?_
 refine WL.call rfl rfl rfl (Run.call Try.call89 rfl rfl rfl) (c_impl_isSize _ _ _) ?_
 rintro _ whs4 ⟨rfl, hs4⟩
 replace hs4 := hs3.call0 hs4
 refine ⟨_, rfl, ?_⟩
 refine WL.run tbk 1 hs4 [] rfl trivial ?_
 apply WL.gA 9 Acts.nil hs4 rfl
 ·intro g5 J6
  have qg5 := g5
  try simp only [bf, within_iff, within_not] at qg5
  refine WL.runA tbk 9 (Acts.nil.cons (j := 5) rfl g5) hs4 [0, 0, 0] rfl ⟨?_, rfl, rfl, rfl, trivial⟩ ?_
  · (obtain ⟨_, _, h9, h10⟩ := isSize_bnd (w := g.W) (h := g.H) (by assumption); constructor <;> omega)
  exact WL.eA 9 Acts.nil J6 hs4 g5 rfl rfl
 ·intro _ hs7
  refine WL.run tbk 1 hs7 [] rfl trivial ?_
  apply WL.gA 3 Acts.nil hs7 rfl
  ·intro g8 J9
   have qg8 := g8
   try simp only [bf, within_iff, within_not] at qg8
   refine WL.runA tbk 2 (Acts.nil.cons (j := 16) rfl g8) hs7 [0] rfl ⟨rfl, trivial⟩ ?_
   refine WL.call (wantT rfl g8) rfl rfl (Run.call Try.call160 rfl rfl rfl) (c_impl_areCells _ _ _ _ _ (SlF.st0 f_g.Cells hs7) ?_) ?_
   · first | assumption | rfl | omega
   rintro _ whs10 ⟨rfl, hs10⟩
   replace hs10 := hs7.call0 hs10
   refine ⟨_, rfl, ?_⟩
   exact WL.eA 3 Acts.nil J9 hs10 g8 rfl rfl
  ·intro _ hs11
   refine WL.run tbk 1 hs11 [] rfl trivial ?_
   refine WL.nil ?_
   refine WC.ret ?_
   refine retV1 rfl (resV.tmp rfl) ?_
   refine ⟨congrArg Ending.returned ?_, hs11.nil⟩
   rw [← nl_g_Cells]; rfl
theorem c_impl_Grid_has (g : GridR) (x : Int) (y : Int) (w : World) (f_g : okGridR 549755813888 w g) (hw : 0 ≤ g.W ∧ g.W ≤ 120) (hh : 0 ≤ g.H ∧ g.H ≤ 120) :
    Calls Try.prog 103 #[.agg #[i64 g.W, i64 g.H, .slice g.Cells.A g.Cells.n g.Cells.c], i64 x, i64 y] w fun e w' => e = .returned (.bool (gridHas g.dat x y)) ∧ St w [] [] w' := by
 have nb_g_Cells := f_g.Cells_n
 have nl_g_Cells := f_g.Cells.len
 refine enter (vs := [.agg #[i64 g.W, i64 g.H, .slice g.Cells.A g.Cells.n g.Cells.c], i64 x, i64 y]) 19 Try.func103 rfl Try.ntmps103 rfl rfl ?_
 have hs1 := St.init w
 refine WC.sr ?_
 refine WL.bx hs1 rfl (fun b2 _ hs3 => ?_)
 refine WL.run tbk 1 hs3 [] rfl trivial ?_
 refine WL.nil ?_
 refine WC.sr ?_
 refine WL.run tbk 4 hs3 [0] rfl ⟨by omega, rfl, trivial⟩ ?_
 refine WL.call rfl rfl rfl (Run.call Try.call72 rfl rfl rfl) (c_impl_within _ _ _ _) ?_
 rintro _ whs4 ⟨rfl, hs4⟩
 replace hs4 := hs3.call0 hs4
 refine ⟨_, rfl, ?_⟩
 refine WL.run tbk 1 hs4 [] rfl trivial ?_
 apply WL.gA 5 Acts.nil hs4 rfl
 ·intro g5 J6
  have qg5 := g5
  try simp only [bf, within_iff, within_not] at qg5
  refine WL.runA tbk 4 (Acts.nil.cons (j := 5) rfl g5) hs4 [0] rfl ⟨by omega, rfl, trivial⟩ ?_
  refine WL.call (wantT rfl g5) rfl rfl (Run.call Try.call72 rfl rfl rfl) (c_impl_within _ _ _ _) ?_
  rintro _ whs7 ⟨rfl, hs7⟩
  replace hs7 := hs4.call0 hs7
  refine ⟨_, rfl, ?_⟩
  exact WL.eA 5 Acts.nil J6 hs7 g5 rfl rfl
 ·intro _ hs8
  refine WL.run tbk 1 hs8 [] rfl trivial ?_
  refine WL.nil ?_
  refine WC.ret ?_
  refine retV1 rfl (resV.tmp rfl) ?_
  refine ⟨congrArg Ending.returned ?_, hs8.nil⟩
  rfl
theorem c_impl_isAscending (A_l : Option Addr) (n_l c_l : Nat) (l : List Int) (lo : Int) (hi : Int) (w : World) (f_l : SlF encI w A_l n_l l) (hn : n_l ≤ 549755813888) :
    Calls Try.prog 105 #[.slice A_l n_l c_l, i64 lo, i64 hi] w fun e w' => e = .returned (.bool (isAsc l lo hi)) ∧ St w [] [] w' := by
 refine enter (vs := [.slice A_l n_l c_l, i64 lo, i64 hi]) 35 Try.func105 rfl Try.ntmps105 rfl rfl ?_
 have hs1 := St.init w
 refine WC.rr tbk hs1 [] rfl trivial ?_
 refine WC.seq (fun K2 hK2 => ?_)
 refine WC.rr tbk hs1 [] rfl trivial ?_
 refine WC.block ?_
 refine WC.loopS [(0, _), (1, _), (2, _), (9, _), (10, _)] ⟨rfl, rfl, rfl, rfl, rfl, trivial⟩ hs1 (fun k_ f w' => ∃ (i : Nat), k_ = n_l - i ∧ (i ≤ n_l) ∧ (∀ j, j < i → ascAt l lo hi j = true) ∧ Sub [(11, .int .i64 i)] f) ((fun (i : Nat) => n_l - i) (0)) ?_ ?_
 ·refine ⟨0, rfl, ?_, ?_, ⟨rfl, trivial⟩⟩
  · exact Nat.zero_le _
  · exact fun j hj => absurd hj (by omega)
 ·clear hs1
  rintro _ f w ⟨i, rfl, p0, p1, hG⟩ hF hs3
  refine WC.sub _ (hG.app hF) ?_
  clear hG hF
  refine WC.rr tbk hs3 [] rfl trivial ?_
  refine WC.seq (fun K4 hK4 => ?_)
  refine WC.cond rfl (fun h5 => ?_) (fun h5 => ?_)
  ·have qh5 := h5
   try simp only [bf, within_iff, within_not] at qh5
   refine WC.skip ?_
   refine hK4 _ _ ?_
   refine WC.seq (fun K6 hK6 => ?_)
   refine WC.block ?_
   refine WC.sr ?_
   refine WL.run tbk 1 hs3 [] rfl trivial ?_
   refine WL.val rfl rfl rfl (Run.idxN Try.runUnderlying22 Try.sizeOf3 rfl rfl rfl ?_ ?_ ?_) ?_
   · exact SlF.some_ (SlF.st0 f_l hs3)
   · omega
   · omega
   refine WL.val rfl rfl rfl (Run.load Try.isAgg3 rfl rfl (SlF.one1 (SlF.st0 f_l hs3) ?_ rfl)) ?_
   · omega
   refine WL.run tbk 2 hs3 [] rfl trivial ?_
   refine WL.nil ?_
   refine WC.sr ?_
   refine WL.run tbk 3 hs3 [] rfl trivial ?_
   refine WL.call rfl rfl rfl (Run.call Try.call72 rfl rfl rfl) (c_impl_within _ _ _ _) ?_
   rintro _ whs7 ⟨rfl, hs7⟩
   replace hs7 := hs3.call0 hs7
   refine ⟨_, rfl, ?_⟩
   refine WL.run tbk 2 hs7 [] rfl trivial ?_
   apply WL.gO 11 Acts.nil hs7 rfl
   ·intro g8 J9
    have qg8 := g8
    try simp only [bf, within_iff, within_not] at qg8
    refine WL.runA tbk 3 (Acts.nil.cons (j := 5) rfl g8) hs7 [] rfl trivial ?_
    apply WL.gA 7 (Acts.nil.cons (j := 5) rfl g8) hs7 rfl
    ·intro g10 J11
     have qg10 := g10
     try simp only [bf, within_iff, within_not] at qg10
     refine WL.runA tbk 3 (Acts.nil.cons (j := 8) rfl g10) hs7 [] rfl ⟨by omega, trivial⟩ ?_
     refine WL.val (wantT rfl g10) rfl rfl (Run.idxK (i - 1) Try.runUnderlying22 Try.sizeOf3 rfl rfl rfl ?_ ?_ ?_) ?_
     · exact SlF.some_ (SlF.st0 f_l hs7)
     · omega
     · omega
     refine WL.val (wantT rfl g10) rfl rfl (Run.load Try.isAgg3 rfl rfl (SlF.one1 (SlF.st0 f_l hs7) ?_ rfl)) ?_
     · omega
     refine WL.runA tbk 2 (Acts.nil.cons (j := 8) rfl g10) hs7 [] rfl trivial ?_
     exact WL.eA 7 (Acts.nil.cons (j := 5) rfl g8) J11 hs7 g10 rfl rfl
    ·intro _ hs12
     exact WL.eO 4 Acts.nil J9 hs12 g8 rfl rfl
   ·intro _ hs13
    refine WL.nil ?_
    refine WC.cond rfl (fun h14 => ?_) (fun h14 => ?_)
    ·have qh14 := h14
     try simp only [bf, within_iff, within_not] at qh14
     have ha : ascAt l lo hi i = false := by unfold ascAt; have h9 := h14; simp only [iat]; cases hw_ : within (gat encI l i) lo hi <;> rw [hw_] at h9 <;> simp at h9 ⊢ <;> omega
     refine WC.rr tbk hs13 [] rfl trivial ?_
     refine WC.ret ?_
     refine ibR (tkR (tkR (ibR (tkR ?_))))
     clear hK6 hK2
     refine retV1 rfl (resV.tmp rfl) ?_
     refine ⟨congrArg Ending.returned ?_, hs13.nil⟩
     rw [isAsc_not (by rw [f_l.len]; omega) ha]
    ·have qh14 := h14
     try simp only [bf, within_iff, within_not] at qh14
     have ha : ascAt l lo hi i = true := by unfold ascAt; have h9 := h14; simp only [iat]; cases hw_ : within (gat encI l i) lo hi <;> rw [hw_] at h9 <;> simp at h9 ⊢ <;> omega
     refine WC.skip ?_
     refine hK6 _ _ ?_
     refine WC.region ?_
     refine WL.run tbk 2 hs13 [] rfl ⟨by omega, trivial⟩ ?_
     refine WL.nil ?_
     refine tkN ?_
     refine ⟨⟨rfl, rfl, rfl, rfl, rfl, trivial⟩, hs13, _, ?_, i + 1, rfl, ?_, ?_, ⟨rfl, trivial⟩⟩
     · omega
     · omega
     · intro j hj; rcases Nat.lt_or_ge j i with h_ | h_
       · exact p1 j h_
       · obtain rfl : j = i := by omega
         exact ha
  ·have qh5 := h5
   try simp only [bf, within_iff, within_not] at qh5
   refine WC.exit ?_
   refine hK2 _ _ ?_
   refine WC.rr tbk hs3 [] rfl trivial ?_
   refine WC.ret ?_
   refine retV1 rfl (resV.tmp rfl) ?_
   refine ⟨congrArg Ending.returned ?_, hs3.nil⟩
   rw [isAsc_all (fun j hj => p1 j (by rw [f_l.len] at hj; omega))]
theorem c_impl_backOk_1 (r : RowR) (w : World) (f_r : okRowR 549755813888 w r) :
    Calls Try.prog 162 #[.agg #[.slice r.Cells.A r.Cells.n r.Cells.c]] w fun e w' => e = .returned (.bool (!rowOk r.dat)) ∧ St w [] [] w' := by
 have nb_r_Cells := f_r.Cells_n
 have nl_r_Cells := f_r.Cells.len
 refine enter (vs := [.agg #[.slice r.Cells.A r.Cells.n r.Cells.c]]) 14 Try.func162 rfl Try.ntmps162 rfl rfl ?_
 have hs1 := St.init w
 refine WC.sr ?_
 refine WL.bx hs1 rfl (fun b2 _ hs3 => ?_)
 refine WL.run tbk 1 hs3 [] rfl trivial ?_
 refine WL.nil ?_
 refine WC.sr ?_
 refine WL.run tbk 3 hs3 [0] rfl ⟨rfl, trivial⟩ ?_
 refine WL.call rfl rfl rfl (Run.call Try.call72 rfl rfl rfl) (c_impl_within _ _ _ _) ?_
 rintro _ whs4 ⟨rfl, hs4⟩
 replace hs4 := hs3.call0 hs4
 refine ⟨_, rfl, ?_⟩
 refine WL.run tbk 2 hs4 [] rfl trivial ?_
 apply WL.gO 4 Acts.nil hs4 rfl
 ·intro g5 J6
  have qg5 := g5
  try simp only [bf, within_iff, within_not] at qg5
  refine WL.runA tbk 2 (Acts.nil.cons (j := 5) rfl g5) hs4 [0] rfl ⟨rfl, trivial⟩ ?_
  refine WL.call (wantF rfl g5) rfl rfl (Run.call Try.call160 rfl rfl rfl) (c_impl_areCells _ _ _ _ _ (SlF.st0 f_r.Cells hs4) ?_) ?_
  · first | assumption | rfl | omega
  rintro _ whs7 ⟨rfl, hs7⟩
  replace hs7 := hs4.call0 hs7
  refine ⟨_, rfl, ?_⟩
  refine WL.runA tbk 1 (Acts.nil.cons (j := 5) rfl g5) hs7 [] rfl trivial ?_
  exact WL.eO 4 Acts.nil J6 hs7 g5 rfl rfl
 ·intro _ hs8
  refine WL.run tbk 1 hs8 [] rfl trivial ?_
  refine WL.nil ?_
  refine WC.ret ?_
  refine retV1 rfl (resV.tmp rfl) ?_
  refine ⟨congrArg Ending.returned ?_, hs8.nil⟩
  rw [show rowOk r.dat = (within (r.Cells.n : Int) 1 120 && cellsOk r.Cells.xs) by unfold rowOk; rw [← nl_r_Cells]; rfl, Bool.not_and]
theorem c_slices_IndexFunc_impl_Row_impl_Row (A_s : Option Addr) (n_s c_s : Nat) (s : List RowR) (w : World) (f_s : SlN encRowR (okRowR 549755813888) w A_s n_s s) (hn : n_s ≤ 549755813888) :
    Calls Try.prog 200 #[.slice A_s n_s c_s, .func (.func 162) #[] #[]] w fun e w' => e = .returned (.int .i64 (findI (fun r => !rowOk r.dat) s)) ∧ St w [] [] w' := by
 refine enter (vs := [.slice A_s n_s c_s, .func (.func 162) #[] #[]]) 19 Try.func200 rfl Try.ntmps200 rfl rfl ?_
 have hs1 := St.init w
 refine WC.rr tbk hs1 [] rfl trivial ?_
 refine WC.seq (fun K2 hK2 => ?_)
 refine WC.rr tbk hs1 [] rfl trivial ?_
 refine WC.block ?_
 refine WC.loopS [(0, _), (1, _), (7, _)] ⟨rfl, rfl, rfl, trivial⟩ hs1 (fun k_ f w' => ∃ (i : Nat), k_ = n_s - i ∧ (i ≤ n_s) ∧ (∀ j, j < i → (fun r => !rowOk r.dat) (gat encRowR s j) = false) ∧ Sub [(8, .int .i64 i)] f) ((fun (i : Nat) => n_s - i) (0)) ?_ ?_
 ·refine ⟨0, rfl, ?_, ?_, ⟨rfl, trivial⟩⟩
  · exact Nat.zero_le _
  · exact fun j hj => absurd hj (by omega)
 ·clear hs1
  rintro _ f w ⟨i, rfl, p0, p1, hG⟩ hF hs3
  refine WC.sub _ (hG.app hF) ?_
  clear hG hF
  refine WC.rr tbk hs3 [] rfl trivial ?_
  refine WC.seq (fun K4 hK4 => ?_)
  refine WC.cond rfl (fun h5 => ?_) (fun h5 => ?_)
  ·have qh5 := h5
   try simp only [decide_eq_true_eq, decide_eq_false_iff_not] at qh5
   refine WC.skip ?_
   refine hK4 _ _ ?_
   refine WC.seq (fun K6 hK6 => ?_)
   refine WC.block ?_
   refine WC.rr tbk hs3 [] rfl trivial ?_
   refine WC.sr ?_
   refine WL.run tbk 3 hs3 [] rfl trivial ?_
   refine WL.val rfl rfl rfl (Run.idxN Try.runUnderlying31 Try.sizeOf98 rfl rfl rfl ?_ ?_ ?_) ?_
   · exact SlF.some_ (SlF.st0 f_s.sl hs3)
   · omega
   · omega
   refine WL.val rfl rfl rfl (Run.loadA Try.isAgg98 Try.sizeOf98 rfl rfl (SlF.whole (SlF.st0 f_s.sl hs3) ?_)) ?_
   · omega
   refine WL.call rfl rfl rfl (Run.call Try.call162 rfl rfl rfl) (c_impl_backOk_1 (gat encRowR s i) _ (okRowR.st0 (SlN.nth f_s (by omega)) hs3)) ?_
   rintro _ whs7 ⟨rfl, hs7⟩
   replace hs7 := hs3.call0 hs7
   refine ⟨_, rfl, ?_⟩
   refine WL.nil ?_
   refine WC.cond rfl (fun h8 => ?_) (fun h8 => ?_)
   ·have qh8 := h8
    try simp only [decide_eq_true_eq, decide_eq_false_iff_not] at qh8
    refine WC.rr tbk hs7 [] rfl trivial ?_
    refine WC.ret ?_
    refine ibR (tkR (tkR (ibR (tkR ?_))))
    clear hK6 hK2
    refine retV1 rfl (resV.tmp rfl) ?_
    refine ⟨congrArg Ending.returned ?_, hs7.nil⟩
    rw [findI_some (F := encRowR) (by rw [f_s.len]; omega) p1 h8]
   ·have qh8 := h8
    try simp only [decide_eq_true_eq, decide_eq_false_iff_not] at qh8
    refine WC.skip ?_
    refine hK6 _ _ ?_
    refine WC.region ?_
    refine WL.run tbk 2 hs7 [] rfl ⟨by omega, trivial⟩ ?_
    refine WL.nil ?_
    refine tkN ?_
    refine ⟨⟨rfl, rfl, rfl, trivial⟩, hs7, _, ?_, i + 1, rfl, ?_, ?_, ⟨rfl, trivial⟩⟩
    · omega
    · omega
    · intro j hj; rcases Nat.lt_or_ge j i with h_ | h_
      · exact p1 j h_
      · obtain rfl : j = i := by omega
        exact h8
  ·have qh5 := h5
   try simp only [decide_eq_true_eq, decide_eq_false_iff_not] at qh5
   refine WC.exit ?_
   refine hK2 _ _ ?_
   refine WC.rr tbk hs3 [] rfl trivial ?_
   refine WC.ret ?_
   refine retV1 rfl (resV.tmp rfl) ?_
   refine ⟨congrArg Ending.returned ?_, hs3.nil⟩
   rw [findI_none (F := encRowR) (fun j hj => p1 j (by rw [f_s.len] at hj; omega))]
theorem c_slices_ContainsFunc_impl_Row_impl_Row (A_s : Option Addr) (n_s c_s : Nat) (s : List RowR) (w : World) (f_s : SlN encRowR (okRowR 549755813888) w A_s n_s s) (hn : n_s ≤ 549755813888) :
    Calls Try.prog 161 #[.slice A_s n_s c_s, .func (.func 162) #[] #[]] w fun e w' => e = .returned (.bool (decide (0 ≤ findI (fun r => !rowOk r.dat) s))) ∧ St w [] [] w' := by
 refine enter (vs := [.slice A_s n_s c_s, .func (.func 162) #[] #[]]) 9 Try.func161 rfl Try.ntmps161 rfl rfl ?_
 have hs1 := St.init w
 refine WC.rr tbk hs1 [] rfl trivial ?_
 refine WC.sr ?_
 refine WL.run tbk 2 hs1 [] rfl trivial ?_
 refine WL.call rfl rfl rfl (Run.call Try.call200 rfl rfl rfl) (c_slices_IndexFunc_impl_Row_impl_Row _ _ _ _ _ (SlN.st0 okRowR.st0 f_s hs1) ?_) ?_
 · first | assumption | rfl | omega
 rintro _ whs2 ⟨rfl, hs2⟩
 replace hs2 := hs1.call0 hs2
 refine ⟨_, rfl, ?_⟩
 refine WL.run tbk 2 hs2 [] rfl trivial ?_
 refine WL.nil ?_
 refine WC.ret ?_
 refine retV1 rfl (resV.tmp rfl) ?_
 refine ⟨congrArg Ending.returned ?_, hs2.nil⟩
 rfl
theorem c_impl_backOk (A_b : Option Addr) (n_b c_b : Nat) (b : List RowR) (l : Int) (w : World) (f_b : SlN encRowR (okRowR 549755813888) w A_b n_b b) (hn : n_b ≤ 549755813888) :
    Calls Try.prog 106 #[.slice A_b n_b c_b, i64 l] w fun e w' => e = .returned (.bool (backOk (b.map RowR.dat) l)) ∧ St w [] [] w' := by
 refine enter (vs := [.slice A_b n_b c_b, i64 l]) 14 Try.func106 rfl Try.ntmps106 rfl rfl ?_
 have hs1 := St.init w
 refine WC.rr tbk hs1 [] rfl trivial ?_
 refine WC.sr ?_
 refine WL.run tbk 5 hs1 [] rfl trivial ?_
 apply WL.gA 3 Acts.nil hs1 rfl
 ·intro g2 J3
  have qg2 := g2
  try simp only [bf, within_iff, within_not] at qg2
  refine WL.runA tbk 1 (Acts.nil.cons (j := 4) rfl g2) hs1 [] rfl trivial ?_
  refine WL.call (wantT rfl g2) rfl rfl (Run.call Try.call161 rfl rfl rfl) (c_slices_ContainsFunc_impl_Row_impl_Row _ _ _ _ _ (SlN.st0 okRowR.st0 f_b hs1) ?_) ?_
  · first | assumption | rfl | omega
  rintro _ whs4 ⟨rfl, hs4⟩
  replace hs4 := hs1.call0 hs4
  refine ⟨_, rfl, ?_⟩
  refine WL.runA tbk 1 (Acts.nil.cons (j := 4) rfl g2) hs4 [] rfl trivial ?_
  exact WL.eA 3 Acts.nil J3 hs4 g2 rfl rfl
 ·intro _ hs5
  refine WL.run tbk 1 hs5 [] rfl trivial ?_
  refine WL.nil ?_
  refine WC.ret ?_
  refine retV1 rfl (resV.tmp rfl) ?_
  refine ⟨congrArg Ending.returned ?_, hs5.nil⟩
  unfold backOk; rw [List.length_map, f_b.len, List.all_map, ← all_find]; rfl
set_option maxHeartbeats 4000000 in
theorem c_impl_ScrOk (s : ScrR) (w : World) (f_s : okScrR 549755813888 w s) :
    Calls Try.prog 47 #[.agg #[i64 s.W, i64 s.H, i64 s.Main.W, i64 s.Main.H, .slice s.Main.Cells.A s.Main.Cells.n s.Main.Cells.c, i64 s.Alt.W, i64 s.Alt.H, .slice s.Alt.Cells.A s.Alt.Cells.n s.Alt.Cells.c, .bool s.OnAlt, i64 s.X, i64 s.Y, .bool s.Wrap, i64 s.A.Fg, i64 s.A.Bg, .bool s.A.Bold, .bool s.A.Under, .bool s.A.Turn, i64 s.Top, i64 s.Bot, .bool s.NoWrap, .bool s.Hide, i64 s.SaveX, i64 s.SaveY, i64 s.SaveA.Fg, i64 s.SaveA.Bg, .bool s.SaveA.Bold, .bool s.SaveA.Under, .bool s.SaveA.Turn, .slice s.Tabs.A s.Tabs.n s.Tabs.c, i64 s.Limit, .slice s.Back.A s.Back.n s.Back.c]] w fun e w' => e = .returned (.bool (scrOk s.dat)) ∧ St w [] [] w' := by
 have nb_s_Main_Cells := f_s.Main.Cells_n
 have nl_s_Main_Cells := f_s.Main.Cells.len
 have nb_s_Alt_Cells := f_s.Alt.Cells_n
 have nl_s_Alt_Cells := f_s.Alt.Cells.len
 have nb_s_Tabs := f_s.Tabs_n
 have nl_s_Tabs := f_s.Tabs.len
 have nb_s_Back := f_s.Back_n
 have nl_s_Back := f_s.Back.sl.len
 have hlit : ∀ y, y ∈ [s.Main, s.Alt] → okGridR 549755813888 w y := by intro y hy; simp only [List.mem_cons, List.not_mem_nil, or_false] at hy; rcases hy with rfl | rfl; exact f_s.Main; exact f_s.Alt
 refine enter (vs := [.agg #[i64 s.W, i64 s.H, i64 s.Main.W, i64 s.Main.H, .slice s.Main.Cells.A s.Main.Cells.n s.Main.Cells.c, i64 s.Alt.W, i64 s.Alt.H, .slice s.Alt.Cells.A s.Alt.Cells.n s.Alt.Cells.c, .bool s.OnAlt, i64 s.X, i64 s.Y, .bool s.Wrap, i64 s.A.Fg, i64 s.A.Bg, .bool s.A.Bold, .bool s.A.Under, .bool s.A.Turn, i64 s.Top, i64 s.Bot, .bool s.NoWrap, .bool s.Hide, i64 s.SaveX, i64 s.SaveY, i64 s.SaveA.Fg, i64 s.SaveA.Bg, .bool s.SaveA.Bold, .bool s.SaveA.Under, .bool s.SaveA.Turn, .slice s.Tabs.A s.Tabs.n s.Tabs.c, i64 s.Limit, .slice s.Back.A s.Back.n s.Back.c]]) 122 Try.func47 rfl Try.ntmps47 rfl rfl ?_
 have hs1 := St.init w
 refine WC.sr ?_
 refine WL.bx hs1 rfl (fun b2 _ hs3 => ?_)
 refine WL.run tbk 1 hs3 [] rfl trivial ?_
 refine WL.nil ?_
 refine WC.seq (fun K4 hK4 => ?_)
 refine WC.sr ?_
 refine WL.run tbk 4 hs3 [0, 0] rfl ⟨rfl, rfl, trivial⟩ ?_
 refine WL.buildF (F := encGridR) hs3 ([s.Main, s.Alt]) Try.runUnderlying130 Try.sizeOf28 Try.zeroValue28 rfl rfl rfl rfl rfl rfl rfl rfl rfl rfl rfl rfl (fun A8 c9 L5 whs6 hs6 ho7 => ?_)
 replace hs6 := St.back [_] hs6
 refine WL.run tbk 2 hs6 [] rfl trivial ?_
 refine WL.nil ?_
 refine WC.block ?_
 refine WC.loopS [(1, _), (9, _), (10, _)] ⟨rfl, rfl, rfl, trivial⟩ hs6 (fun k_ f w' => ∃ (i : Nat), k_ = 2 - i ∧ (i ≤ 2) ∧ (∀ j, j < i → gridFit (GridR.dat (gat encGridR [s.Main, s.Alt] j)) s.W s.H = true) ∧ Sub [(11, .int .i64 i)] f) ((fun (i : Nat) => 2 - i) (0)) ?_ ?_
 ·refine ⟨0, rfl, ?_, ?_, ⟨rfl, trivial⟩⟩
  · omega
  · exact fun j hj => absurd hj (by omega)
 ·clear hs6
  rintro _ f w ⟨i, rfl, p0, p1, hG⟩ hF hs10
  refine WC.sub _ (hG.app hF) ?_
  clear hG hF
  refine WC.rr tbk hs10 [] rfl trivial ?_
  refine WC.seq (fun K11 hK11 => ?_)
  refine WC.cond rfl (fun h12 => ?_) (fun h12 => ?_)
  ·have qh12 := h12
   try simp only [bf, within_iff, within_not] at qh12
   have hi2 : i < 2 := by have h8 := h12; simp at h8; omega
   refine WC.skip ?_
   refine hK11 _ _ ?_
   refine WC.seq (fun K13 hK13 => ?_)
   refine WC.block ?_
   refine WC.sr ?_
   refine WL.val rfl rfl rfl (Run.idxN Try.runUnderlying130 Try.sizeOf28 rfl rfl rfl ?_ ?_ ?_) ?_
   · exact SlF.some_ (SlF.ofOwn ho7 (fun p_ hp_ => (hs10.own p_ (List.mem_append_right [_] (List.mem_append_left _ hp_))).1))
   · first | omega | (simp; omega)
   · first | omega | (simp; omega)
   refine WL.val rfl rfl rfl (Run.loadA Try.isAgg28 Try.sizeOf28 rfl rfl (SlF.whole (SlF.ofOwn ho7 (fun p_ hp_ => (hs10.own p_ (List.mem_append_right [_] (List.mem_append_left _ hp_))).1)) ?_)) ?_
   · first | omega | (simp; omega)
   refine WL.al hs10 Try.zeroValue28 rfl rfl (fun b14 _ hs15 => ?_)
   refine WL.st tbk hs15 0 rfl rfl (fun _ hs16 => ?_)
   refine WL.nil ?_
   refine WC.sr ?_
   refine WL.run tbk 1 hs16 [0] rfl ⟨rfl, trivial⟩ ?_
   refine WL.call rfl rfl rfl (Run.call Try.call102 rfl rfl rfl) (c_impl_GridOk (gat encGridR [s.Main, s.Alt] i) _ (okGridR.st0 (hlit _ (gat_mem (by first | omega | (simp; omega)))) hs16)) ?_
   rintro _ whs17 ⟨rfl, hs17⟩
   replace hs17 := hs16.call0 hs17
   refine ⟨_, rfl, ?_⟩
   refine WL.run tbk 2 hs17 [] rfl trivial ?_
   refine WL.pO tbk 5 Acts.nil hs17 [0, 1] rfl rfl rfl rfl (fun g_ => ⟨rfl, rfl, trivial⟩) ?_
   refine WL.run tbk 1 hs17 [] rfl trivial ?_
   refine WL.pO tbk 5 Acts.nil hs17 [0, 1] rfl rfl rfl rfl (fun g_ => ⟨rfl, rfl, trivial⟩) ?_
   refine WL.nil ?_
   refine WC.cond rfl (fun h18 => ?_) (fun h18 => ?_)
   ·have qh18 := h18
    try simp only [bf, within_iff, within_not] at qh18
    have ha : gridFit (GridR.dat (gat encGridR [s.Main, s.Alt] i)) s.W s.H = false := by unfold gridFit; have h9 := h18; show (gridOk (GridR.dat (gat encGridR [s.Main, s.Alt] i)) && (decide ((gat encGridR [s.Main, s.Alt] i).W = s.W) && decide ((gat encGridR [s.Main, s.Alt] i).H = s.H))) = false; revert h9; cases gridOk (GridR.dat (gat encGridR [s.Main, s.Alt] i)) <;> cases decide ((gat encGridR [s.Main, s.Alt] i).W = s.W) <;> cases decide ((gat encGridR [s.Main, s.Alt] i).H = s.H) <;> simp
    have hp1 : scrP1 s.dat = false := by unfold scrP1; rcases (show i = 0 ∨ i = 1 by omega) with rfl | rfl; (rw [show gridFit s.dat.Main s.dat.W s.dat.H = false from ha]; rfl); (rw [show gridFit s.dat.Alt s.dat.W s.dat.H = false from ha, Bool.and_false])
    refine WC.rr tbk hs17 [] rfl trivial ?_
    refine WC.ret ?_
    refine ibR (tkR (tkR (ibR (tkR ?_))))
    clear hK13 hK4
    refine retV1 rfl (resV.tmp rfl) ?_
    refine ⟨congrArg Ending.returned ?_, hs17.nil⟩
    rw [scrOk_no (.inl hp1)]
   ·have qh18 := h18
    try simp only [bf, within_iff, within_not] at qh18
    have ha : gridFit (GridR.dat (gat encGridR [s.Main, s.Alt] i)) s.W s.H = true := by unfold gridFit; have h9 := h18; show (gridOk (GridR.dat (gat encGridR [s.Main, s.Alt] i)) && (decide ((gat encGridR [s.Main, s.Alt] i).W = s.W) && decide ((gat encGridR [s.Main, s.Alt] i).H = s.H))) = true; revert h9; cases gridOk (GridR.dat (gat encGridR [s.Main, s.Alt] i)) <;> cases decide ((gat encGridR [s.Main, s.Alt] i).W = s.W) <;> cases decide ((gat encGridR [s.Main, s.Alt] i).H = s.H) <;> simp
    refine WC.skip ?_
    refine hK13 _ _ ?_
    refine WC.region ?_
    refine WL.run tbk 2 hs17 [] rfl ⟨by omega, trivial⟩ ?_
    refine WL.nil ?_
    refine tkN ?_
    refine ⟨⟨rfl, rfl, rfl, trivial⟩, (hs17.drop (by repeat (first | exact List.Sublist.refl _ | exact List.sublist_append_left _ _ | exact List.Sublist.trans (List.sublist_append_left _ _) (List.sublist_append_left _ _) | apply List.Sublist.cons | refine List.Sublist.trans ?_ (List.sublist_append_right _ _)))), _, ?_, i + 1, rfl, ?_, ?_, ⟨rfl, trivial⟩⟩
    · omega
    · omega
    · intro j hj; rcases Nat.lt_or_ge j i with h_ | h_
      · exact p1 j h_
      · obtain rfl : j = i := by omega
        exact ha
  ·have qh12 := h12
   try simp only [bf, within_iff, within_not] at qh12
   have hi2 : ¬ i < 2 := by have h8 := h12; simp at h8; omega
   have hp1 : scrP1 s.dat = true := by unfold scrP1; rw [show gridFit s.dat.Main s.dat.W s.dat.H = true from p1 0 (by omega), show gridFit s.dat.Alt s.dat.W s.dat.H = true from p1 1 (by omega)]; rfl
   have hbn : (1 ≤ s.W ∧ s.W ≤ 120) ∧ (1 ≤ s.H ∧ s.H ≤ 120) ∧ s.Main.W = s.W ∧ s.Main.H = s.H ∧ s.Alt.W = s.W ∧ s.Alt.H = s.H := scrP1_bnd hp1
   refine WC.exit ?_
   refine hK4 _ _ ?_
   refine WC.seq (fun K19 hK19 => ?_)
   refine WC.sr ?_
   refine WL.run tbk 6 hs10 [0, 0, 0] rfl ⟨rfl, rfl, rfl, trivial⟩ ?_
   refine WL.call rfl rfl rfl (Run.call Try.call103 rfl rfl rfl) (c_impl_Grid_has s.Main _ _ _ (okGridR.st0 f_s.Main hs10) ?_ ?_) ?_
   · first | assumption | rfl | omega
   · first | assumption | rfl | omega
   rintro _ whs20 ⟨rfl, hs20⟩
   replace hs20 := hs10.call0 hs20
   refine ⟨_, rfl, ?_⟩
   refine WL.run tbk 2 hs20 [] rfl trivial ?_
   apply WL.gO 8 Acts.nil hs20 rfl
   ·intro g21 J22
    have qg21 := g21
    try simp only [bf, within_iff, within_not] at qg21
    refine WL.runA tbk 6 (Acts.nil.cons (j := 8) rfl g21) hs20 [0, 0, 0] rfl ⟨rfl, rfl, rfl, trivial⟩ ?_
    refine WL.call (wantF rfl g21) rfl rfl (Run.call Try.call103 rfl rfl rfl) (c_impl_Grid_has s.Main _ _ _ (okGridR.st0 f_s.Main hs20) ?_ ?_) ?_
    · first | assumption | rfl | omega
    · first | assumption | rfl | omega
    rintro _ whs23 ⟨rfl, hs23⟩
    replace hs23 := hs20.call0 hs23
    refine ⟨_, rfl, ?_⟩
    refine WL.runA tbk 1 (Acts.nil.cons (j := 8) rfl g21) hs23 [] rfl trivial ?_
    exact WL.eO 8 Acts.nil J22 hs23 g21 rfl rfl
   ·intro _ hs24
    refine WL.run tbk 1 hs24 [] rfl trivial ?_
    apply WL.gO 10 Acts.nil hs24 rfl
    ·intro g25 J26
     have qg25 := g25
     try simp only [bf, within_iff, within_not] at qg25
     refine WL.runA tbk 3 (Acts.nil.cons (j := 18) rfl g25) hs24 [0] rfl ⟨rfl, trivial⟩ ?_
     refine WL.pA tbk 6 (Acts.nil.cons (j := 18) rfl g25) hs24 [0, 0] rfl rfl rfl rfl (fun g_ => by (try simp only [bf, within_iff, within_not] at g_); exact ⟨by omega, rfl, rfl, trivial⟩) ?_
     exact WL.eO 4 Acts.nil J26 hs24 g25 rfl rfl
    ·intro _ hs27
     refine WL.run tbk 1 hs27 [] rfl trivial ?_
     apply WL.gO 4 Acts.nil hs27 rfl
     ·intro g28 J29
      have qg28 := g28
      try simp only [bf, within_iff, within_not] at qg28
      refine WL.runA tbk 2 (Acts.nil.cons (j := 30) rfl g28) hs27 [0] rfl ⟨rfl, trivial⟩ ?_
      refine WL.call (wantF rfl g28) rfl rfl (Run.call Try.call104 rfl rfl rfl) (c_impl_AttrOk _ _ _ _ _ _) ?_
      rintro _ whs30 ⟨rfl, hs30⟩
      replace hs30 := hs27.call0 hs30
      refine ⟨_, rfl, ?_⟩
      refine WL.runA tbk 1 (Acts.nil.cons (j := 30) rfl g28) hs30 [] rfl trivial ?_
      exact WL.eO 4 Acts.nil J29 hs30 g28 rfl rfl
     ·intro _ hs31
      refine WL.run tbk 1 hs31 [] rfl trivial ?_
      apply WL.gO 4 Acts.nil hs31 rfl
      ·intro g32 J33
       have qg32 := g32
       try simp only [bf, within_iff, within_not] at qg32
       refine WL.runA tbk 2 (Acts.nil.cons (j := 36) rfl g32) hs31 [0] rfl ⟨rfl, trivial⟩ ?_
       refine WL.call (wantF rfl g32) rfl rfl (Run.call Try.call104 rfl rfl rfl) (c_impl_AttrOk _ _ _ _ _ _) ?_
       rintro _ whs34 ⟨rfl, hs34⟩
       replace hs34 := hs31.call0 hs34
       refine ⟨_, rfl, ?_⟩
       refine WL.runA tbk 1 (Acts.nil.cons (j := 36) rfl g32) hs34 [] rfl trivial ?_
       exact WL.eO 4 Acts.nil J33 hs34 g32 rfl rfl
      ·intro _ hs35
       refine WL.nil ?_
       refine WC.cond rfl (fun h36 => ?_) (fun h36 => ?_)
       ·have qh36 := h36
        try simp only [bf, within_iff, within_not] at qh36
        have hp2 : scrP2 s.dat = false := by have h9 := h36; unfold scrP2; show (((gridHas s.Main.dat s.X s.Y && gridHas s.Main.dat s.SaveX s.SaveY) && ((!s.Wrap || decide (s.X = s.W - 1)) && (attrOk s.A.Fg s.A.Bg && attrOk s.SaveA.Fg s.SaveA.Bg)))) = false; revert h9; cases gridHas s.Main.dat s.X s.Y <;> cases gridHas s.Main.dat s.SaveX s.SaveY <;> cases s.Wrap <;> cases decide (s.X = s.W - 1) <;> cases attrOk s.A.Fg s.A.Bg <;> cases attrOk s.SaveA.Fg s.SaveA.Bg <;> simp
        refine WC.rr tbk hs35 [] rfl trivial ?_
        refine WC.ret ?_
        refine tkR ?_
        clear hK19
        refine retV1 rfl (resV.tmp rfl) ?_
        refine ⟨congrArg Ending.returned ?_, hs35.nil⟩
        rw [scrOk_no (.inr (.inl hp2))]
       ·have qh36 := h36
        try simp only [bf, within_iff, within_not] at qh36
        have hp2 : scrP2 s.dat = true := by have h9 := h36; unfold scrP2; show (((gridHas s.Main.dat s.X s.Y && gridHas s.Main.dat s.SaveX s.SaveY) && ((!s.Wrap || decide (s.X = s.W - 1)) && (attrOk s.A.Fg s.A.Bg && attrOk s.SaveA.Fg s.SaveA.Bg)))) = true; revert h9; cases gridHas s.Main.dat s.X s.Y <;> cases gridHas s.Main.dat s.SaveX s.SaveY <;> cases s.Wrap <;> cases decide (s.X = s.W - 1) <;> cases attrOk s.A.Fg s.A.Bg <;> cases attrOk s.SaveA.Fg s.SaveA.Bg <;> simp
        refine WC.skip ?_
        refine hK19 _ _ ?_
        refine WC.seq (fun K37 hK37 => ?_)
        refine WC.sr ?_
        refine WL.run tbk 4 hs35 [0] rfl ⟨rfl, trivial⟩ ?_
        refine WL.pO tbk 5 Acts.nil hs35 [0, 0] rfl rfl rfl rfl (fun g_ => ⟨rfl, rfl, trivial⟩) ?_
        refine WL.run tbk 1 hs35 [] rfl trivial ?_
        refine WL.pO tbk 5 Acts.nil hs35 [0, 0] rfl rfl rfl rfl (fun g_ => ⟨rfl, rfl, trivial⟩) ?_
        refine WL.run tbk 1 hs35 [] rfl trivial ?_
        apply WL.gO 10 Acts.nil hs35 rfl
        ·intro g38 J39
         have qg38 := g38
         try simp only [bf, within_iff, within_not] at qg38
         refine WL.runA tbk 6 (Acts.nil.cons (j := 17) rfl g38) hs35 [0, 0] rfl ⟨rfl, rfl, trivial⟩ ?_
         refine WL.pA tbk 3 (Acts.nil.cons (j := 17) rfl g38) hs35 [0] rfl rfl rfl rfl (fun g_ => ⟨rfl, trivial⟩) ?_
         exact WL.eO 7 Acts.nil J39 hs35 g38 rfl rfl
        ·intro _ hs40
         refine WL.nil ?_
         refine WC.cond rfl (fun h41 => ?_) (fun h41 => ?_)
         ·have qh41 := h41
          try simp only [bf, within_iff, within_not] at qh41
          have hp3 : scrP3 s.dat = false := by have h9 := h41; unfold scrP3; show ((decide (0 ≤ s.Top) && decide (s.Top ≤ s.Bot)) && (decide (s.Bot < s.H) && (!decide (s.Top = s.Bot) || decide (s.H = 1)))) = false; simp at h9 ⊢; omega
          refine WC.rr tbk hs40 [] rfl trivial ?_
          refine WC.ret ?_
          refine tkR ?_
          clear hK37
          refine retV1 rfl (resV.tmp rfl) ?_
          refine ⟨congrArg Ending.returned ?_, hs40.nil⟩
          rw [scrOk_no (.inr (.inr (.inl hp3)))]
         ·have qh41 := h41
          try simp only [bf, within_iff, within_not] at qh41
          have hp3 : scrP3 s.dat = true := by have h9 := h41; unfold scrP3; show ((decide (0 ≤ s.Top) && decide (s.Top ≤ s.Bot)) && (decide (s.Bot < s.H) && (!decide (s.Top = s.Bot) || decide (s.H = 1)))) = true; simp at h9 ⊢; omega
          refine WC.skip ?_
          refine hK37 _ _ ?_
          refine WC.sr ?_
          refine WL.run tbk 5 hs40 [0, 0] rfl ⟨by omega, rfl, rfl, trivial⟩ ?_
          refine WL.call rfl rfl rfl (Run.call Try.call105 rfl rfl rfl) (c_impl_isAscending _ _ _ _ _ _ _ (SlF.st0 f_s.Tabs hs40) ?_) ?_
          · first | assumption | rfl | omega
          rintro _ whs42 ⟨rfl, hs42⟩
          replace hs42 := hs40.call0 hs42
          refine ⟨_, rfl, ?_⟩
          refine WL.run tbk 1 hs42 [] rfl trivial ?_
          apply WL.gA 3 Acts.nil hs42 rfl
          ·intro g43 J44
           have qg43 := g43
           try simp only [bf, within_iff, within_not] at qg43
           refine WL.runA tbk 2 (Acts.nil.cons (j := 6) rfl g43) hs42 [0] rfl ⟨rfl, trivial⟩ ?_
           refine WL.call (wantT rfl g43) rfl rfl (Run.call Try.call72 rfl rfl rfl) (c_impl_within _ _ _ _) ?_
           rintro _ whs45 ⟨rfl, hs45⟩
           replace hs45 := hs42.call0 hs45
           refine ⟨_, rfl, ?_⟩
           exact WL.eA 3 Acts.nil J44 hs45 g43 rfl rfl
          ·intro _ hs46
           refine WL.run tbk 1 hs46 [] rfl trivial ?_
           apply WL.gA 5 Acts.nil hs46 rfl
           ·intro g47 J48
            have qg47 := g47
            try simp only [bf, within_iff, within_not] at qg47
            refine WL.runA tbk 4 (Acts.nil.cons (j := 11) rfl g47) hs46 [0, 0] rfl ⟨rfl, rfl, trivial⟩ ?_
            refine WL.call (wantT rfl g47) rfl rfl (Run.call Try.call106 rfl rfl rfl) (c_impl_backOk _ _ _ _ _ _ (SlN.st0 okRowR.st0 f_s.Back hs46) ?_) ?_
            · first | assumption | rfl | omega
            rintro _ whs49 ⟨rfl, hs49⟩
            replace hs49 := hs46.call0 hs49
            refine ⟨_, rfl, ?_⟩
            exact WL.eA 5 Acts.nil J48 hs49 g47 rfl rfl
           ·intro _ hs50
            refine WL.run tbk 1 hs50 [] rfl trivial ?_
            refine WL.nil ?_
            refine WC.ret ?_
            refine retV1 rfl (resV.tmp rfl) ?_
            refine ⟨congrArg Ending.returned ?_, hs50.nil⟩
            rw [scrOk_yes hp1 hp2 hp3]; rfl
theorem c_impl_TermOk (t : TermR) (w : World) (f_t : okTermR 549755813888 w t) :
    Calls Try.prog 38 #[.agg #[i64 t.P.State, .bool t.P.Mark, .slice t.P.Args.A t.P.Args.n t.P.Args.c, .slice t.P.Part.A t.P.Part.n t.P.Part.c, i64 t.S.W, i64 t.S.H, i64 t.S.Main.W, i64 t.S.Main.H, .slice t.S.Main.Cells.A t.S.Main.Cells.n t.S.Main.Cells.c, i64 t.S.Alt.W, i64 t.S.Alt.H, .slice t.S.Alt.Cells.A t.S.Alt.Cells.n t.S.Alt.Cells.c, .bool t.S.OnAlt, i64 t.S.X, i64 t.S.Y, .bool t.S.Wrap, i64 t.S.A.Fg, i64 t.S.A.Bg, .bool t.S.A.Bold, .bool t.S.A.Under, .bool t.S.A.Turn, i64 t.S.Top, i64 t.S.Bot, .bool t.S.NoWrap, .bool t.S.Hide, i64 t.S.SaveX, i64 t.S.SaveY, i64 t.S.SaveA.Fg, i64 t.S.SaveA.Bg, .bool t.S.SaveA.Bold, .bool t.S.SaveA.Under, .bool t.S.SaveA.Turn, .slice t.S.Tabs.A t.S.Tabs.n t.S.Tabs.c, i64 t.S.Limit, .slice t.S.Back.A t.S.Back.n t.S.Back.c]] w fun e w' => e = .returned (.bool (termOk t.dat)) ∧ St w [] [] w' := by
 have nb_t_P_Args := f_t.P.Args_n
 have nl_t_P_Args := f_t.P.Args.len
 have nb_t_P_Part := f_t.P.Part_n
 have nl_t_P_Part := f_t.P.Part.len
 have nb_t_S_Main_Cells := f_t.S.Main.Cells_n
 have nl_t_S_Main_Cells := f_t.S.Main.Cells.len
 have nb_t_S_Alt_Cells := f_t.S.Alt.Cells_n
 have nl_t_S_Alt_Cells := f_t.S.Alt.Cells.len
 have nb_t_S_Tabs := f_t.S.Tabs_n
 have nl_t_S_Tabs := f_t.S.Tabs.len
 have nb_t_S_Back := f_t.S.Back_n
 have nl_t_S_Back := f_t.S.Back.sl.len
 refine enter (vs := [.agg #[i64 t.P.State, .bool t.P.Mark, .slice t.P.Args.A t.P.Args.n t.P.Args.c, .slice t.P.Part.A t.P.Part.n t.P.Part.c, i64 t.S.W, i64 t.S.H, i64 t.S.Main.W, i64 t.S.Main.H, .slice t.S.Main.Cells.A t.S.Main.Cells.n t.S.Main.Cells.c, i64 t.S.Alt.W, i64 t.S.Alt.H, .slice t.S.Alt.Cells.A t.S.Alt.Cells.n t.S.Alt.Cells.c, .bool t.S.OnAlt, i64 t.S.X, i64 t.S.Y, .bool t.S.Wrap, i64 t.S.A.Fg, i64 t.S.A.Bg, .bool t.S.A.Bold, .bool t.S.A.Under, .bool t.S.A.Turn, i64 t.S.Top, i64 t.S.Bot, .bool t.S.NoWrap, .bool t.S.Hide, i64 t.S.SaveX, i64 t.S.SaveY, i64 t.S.SaveA.Fg, i64 t.S.SaveA.Bg, .bool t.S.SaveA.Bold, .bool t.S.SaveA.Under, .bool t.S.SaveA.Turn, .slice t.S.Tabs.A t.S.Tabs.n t.S.Tabs.c, i64 t.S.Limit, .slice t.S.Back.A t.S.Back.n t.S.Back.c]]) 11 Try.func38 rfl Try.ntmps38 rfl rfl ?_
 have hs1 := St.init w
 refine WC.sr ?_
 refine WL.bx hs1 rfl (fun b2 _ hs3 => ?_)
 refine WL.run tbk 1 hs3 [] rfl trivial ?_
 refine WL.nil ?_
 refine WC.sr ?_
 refine WL.run tbk 2 hs3 [0] rfl ⟨rfl, trivial⟩ ?_
 refine WL.call rfl rfl rfl (Run.call Try.call71 rfl rfl rfl) (c_impl_VpOk t.P _ (okVpR.st0 f_t.P hs3)) ?_
 rintro _ whs4 ⟨rfl, hs4⟩
 replace hs4 := hs3.call0 hs4
 refine ⟨_, rfl, ?_⟩
 refine WL.run tbk 1 hs4 [] rfl trivial ?_
 apply WL.gA 3 Acts.nil hs4 rfl
 ·intro g5 J6
  have qg5 := g5
  try simp only [bf, within_iff, within_not] at qg5
  refine WL.runA tbk 2 (Acts.nil.cons (j := 3) rfl g5) hs4 [0] rfl ⟨rfl, trivial⟩ ?_
  refine WL.call (wantT rfl g5) rfl rfl (Run.call Try.call47 rfl rfl rfl) (c_impl_ScrOk t.S _ (okScrR.st0 f_t.S hs4)) ?_
  rintro _ whs7 ⟨rfl, hs7⟩
  replace hs7 := hs4.call0 hs7
  refine ⟨_, rfl, ?_⟩
  exact WL.eA 3 Acts.nil J6 hs7 g5 rfl rfl
 ·intro _ hs8
  refine WL.run tbk 1 hs8 [] rfl trivial ?_
  refine WL.nil ?_
  refine WC.ret ?_
  refine retV1 rfl (resV.tmp rfl) ?_
  refine ⟨congrArg Ending.returned ?_, hs8.nil⟩
  rfl
end Go.Proofs.Ytlmcekfdlgkffaa
