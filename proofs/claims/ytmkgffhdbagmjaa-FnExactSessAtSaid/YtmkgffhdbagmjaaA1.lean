/- Walks of Go functions, printed by a program (wip/gen). -/
import Derived.Test.YtmkgffhdbagmjaaM12
import Derived.Test.YtmkgffhdbagmjaaH5
namespace Go.Proofs.Ytmkgffhdbagmjaa
open Go Go.RowKit
set_option linter.unusedVariables false
set_option linter.unusedSimpArgs false
theorem c_slices_Index_int_int (A_s : Option Addr) (n_s c_s : Nat) (s : List Int) (x : Int) (w : World) (f_s : SlF encI w A_s n_s s) (hn : n_s ≤ 1099511627776) :
    Calls Try.prog 66 #[.slice A_s n_s c_s, i64 x] w fun e w' => e = .returned (.int .i64 (findI (fun z => decide (x = z)) s)) ∧ St w [] [] w' := by
 refine enter (vs := [.slice A_s n_s c_s, i64 x]) 19 Try.func66 rfl Try.ntmps66 rfl rfl ?_
 have hs1 := St.init w
 refine WC.rr tbk hs1 [] rfl trivial ?_
 refine WC.seq (fun K2 hK2 => ?_)
 refine WC.rr tbk hs1 [] rfl trivial ?_
 refine WC.block ?_
 refine WC.loopS [(0, _), (1, _), (6, _), (7, _)] ⟨rfl, rfl, rfl, rfl, trivial⟩ hs1 (fun k_ f w' => ∃ (i : Nat), k_ = n_s - i ∧ (i ≤ n_s) ∧ (∀ j, j < i → (fun z => decide (x = z)) (iat s j) = false) ∧ Sub [(8, .int .i64 i)] f) ((fun (i : Nat) => n_s - i) (0)) ?_ ?_
 ·refine ⟨0, rfl, ?_, ?_, ⟨rfl, trivial⟩⟩
  · exact Nat.zero_le _
  · exact fun j hj => absurd hj (by omega)
 ·clear hs1
  rintro _ f w ⟨i, rfl, p0, p1, hG⟩ hF hs3
  refine WC.sub _ (hG.app hF) ?_
  clear hG hF
  refine WC.rr tbk hs3 [] rfl trivial ?_
  refine WC.seq (fun K4 hK4 => ?_)
  refine WC.cond rfl (fun h5 => ?_) (fun h5 => ?_)
  ·have qh5 := h5
   try simp only [bf, within_iff, within_not] at qh5
   refine WC.skip ?_
   refine hK4 _ _ ?_
   refine WC.seq (fun K6 hK6 => ?_)
   refine WC.block ?_
   refine WC.rr tbk hs3 [] rfl trivial ?_
   refine WC.sr ?_
   refine WL.run tbk 3 hs3 [] rfl trivial ?_
   refine WL.val rfl rfl rfl (Run.idxN Try.runUnderlying22 Try.sizeOf3 rfl rfl rfl ?_ ?_ ?_) ?_
   · exact SlF.some_ (SlF.st0 f_s hs3)
   · omega
   · omega
   refine WL.val rfl rfl rfl (Run.load Try.isAgg3 rfl rfl (SlF.one1 (SlF.st0 f_s hs3) ?_ rfl)) ?_
   · omega
   refine WL.run tbk 1 hs3 [] rfl trivial ?_
   refine WL.nil ?_
   refine WC.cond rfl (fun h7 => ?_) (fun h7 => ?_)
   ·have qh7 := h7
    try simp only [bf, within_iff, within_not] at qh7
    refine WC.rr tbk hs3 [] rfl trivial ?_
    refine WC.ret ?_
    refine ibR (tkR (tkR (ibR (tkR ?_))))
    clear hK6 hK2
    refine retV1 rfl (resV.tmp rfl) ?_
    refine ⟨congrArg Ending.returned ?_, hs3.nil⟩
    rw [findI_some (F := encI) (i := i) (by rw [f_s.len]; omega) p1 h7]
   ·have qh7 := h7
    try simp only [bf, within_iff, within_not] at qh7
    refine WC.skip ?_
    refine hK6 _ _ ?_
    refine WC.region ?_
    refine WL.run tbk 2 hs3 [] rfl ⟨by omega, trivial⟩ ?_
    refine WL.nil ?_
    refine tkN ?_
    refine ⟨⟨rfl, rfl, rfl, rfl, trivial⟩, hs3, _, ?_, i + 1, rfl, ?_, ?_, ⟨rfl, trivial⟩⟩
    · omega
    · omega
    · intro j hj; rcases Nat.lt_or_ge j i with h_ | h_
      · exact p1 j h_
      · obtain rfl : j = i := by omega
        exact h7
  ·have qh5 := h5
   try simp only [bf, within_iff, within_not] at qh5
   refine WC.exit ?_
   refine hK2 _ _ ?_
   refine WC.rr tbk hs3 [] rfl trivial ?_
   refine WC.ret ?_
   refine retV1 rfl (resV.tmp rfl) ?_
   refine ⟨congrArg Ending.returned ?_, hs3.nil⟩
   rw [findI_none (F := encI) (fun j hj => p1 j (by rw [f_s.len] at hj; omega))]
theorem c_slices_Contains_int_int (A_s : Option Addr) (n_s c_s : Nat) (s : List Int) (x : Int) (w : World) (f_s : SlF encI w A_s n_s s) (hn : n_s ≤ 549755813888) :
    Calls Try.prog 49 #[.slice A_s n_s c_s, i64 x] w fun e w' => e = .returned (.bool (hasI s x)) ∧ St w [] [] w' := by
 refine enter (vs := [.slice A_s n_s c_s, i64 x]) 9 Try.func49 rfl Try.ntmps49 rfl rfl ?_
 have hs1 := St.init w
 refine WC.rr tbk hs1 [] rfl trivial ?_
 refine WC.sr ?_
 refine WL.run tbk 2 hs1 [] rfl trivial ?_
 refine WL.call rfl rfl rfl (Run.call Try.call66 rfl rfl rfl) (c_slices_Index_int_int _ _ _ _ _ _ (SlF.st0 f_s hs1) ?_) ?_
 · first | assumption | rfl | omega
 rintro _ whs2 ⟨rfl, hs2⟩
 replace hs2 := hs1.call0 hs2
 refine ⟨_, rfl, ?_⟩
 refine WL.run tbk 2 hs2 [] rfl trivial ?_
 refine WL.nil ?_
 refine WC.ret ?_
 refine retV1 rfl (resV.tmp rfl) ?_
 refine ⟨congrArg Ending.returned ?_, hs2.nil⟩
 rw [← hasI_find]
theorem c_spec_l02HasInt (A_l : Option Addr) (n_l c_l : Nat) (l : List Int) (x : Int) (w : World) (f_l : SlF encI w A_l n_l l) (hn : n_l ≤ 549755813888) :
    Calls Try.prog 47 #[.slice A_l n_l c_l, i64 x] w fun e w' => e = .returned (.bool (hasI l x)) ∧ St w [] [] w' := by
 have hl := f_l.len
 refine enter (vs := [.slice A_l n_l c_l, i64 x]) 17 Try.func47 rfl Try.ntmps47 rfl rfl ?_
 have hs1 := St.init w
 refine WC.rr tbk hs1 [] rfl trivial ?_
 refine WC.seq (fun K2 hK2 => ?_)
 refine WC.rr tbk hs1 [] rfl trivial ?_
 refine WC.block ?_
 refine WC.loopS [(0, _), (1, _), (7, _), (8, _)] ⟨rfl, rfl, rfl, rfl, trivial⟩ hs1 (fun k_ f w' => ∃ (i : Nat), k_ = n_l - i ∧ (i ≤ n_l) ∧ (∀ j, j < i → iat l j ≠ x) ∧ Sub [(9, .int .i64 i)] f) ((fun (i : Nat) => n_l - i) (0)) ?_ ?_
 ·refine ⟨0, rfl, ?_, ?_, ⟨rfl, trivial⟩⟩
  · exact Nat.zero_le _
  · exact fun j hj => absurd hj (by omega)
 ·clear hs1
  rintro _ f w ⟨i, rfl, p0, p1, hG⟩ hF hs3
  refine WC.sub _ (hG.app hF) ?_
  clear hG hF
  refine WC.rr tbk hs3 [] rfl trivial ?_
  refine WC.seq (fun K4 hK4 => ?_)
  refine WC.cD rfl (fun qh5 => ?_) (fun qh5 => ?_)
  ·refine WC.skip ?_
   refine hK4 _ _ ?_
   refine WC.seq (fun K6 hK6 => ?_)
   refine WC.block ?_
   refine WC.sr ?_
   refine WL.val rfl rfl rfl (Run.idxN Try.runUnderlying22 Try.sizeOf3 rfl rfl rfl ?_ ?_ ?_) ?_
   · exact SlF.some_ (SlF.st0 f_l hs3)
   · omega
   · omega
   refine WL.val rfl rfl rfl (Run.load Try.isAgg3 rfl rfl (SlF.one1 (SlF.st0 f_l hs3) ?_ rfl)) ?_
   · omega
   refine WL.run tbk 1 hs3 [] rfl trivial ?_
   refine WL.nil ?_
   refine WC.rr tbk hs3 [] rfl trivial ?_
   refine WC.cD rfl (fun qh7 => ?_) (fun qh7 => ?_)
   ·refine WC.rr tbk hs3 [] rfl trivial ?_
    refine WC.ret ?_
    refine ibR (tkR (tkR (ibR (tkR ?_))))
    clear hK6 hK2
    refine retV1 rfl (resV.tmp rfl) ?_
    refine ⟨congrArg Ending.returned ?_, hs3.nil⟩
    congr 1; symm; unfold hasI; rw [decide_eq_true_eq]; rw [← qh7]; exact gat_mem (F := encI) (by omega)
   ·refine WC.skip ?_
    refine hK6 _ _ ?_
    refine WC.region ?_
    refine WL.run tbk 2 hs3 [] rfl ⟨by omega, trivial⟩ ?_
    refine WL.nil ?_
    refine tkN ?_
    refine ⟨⟨rfl, rfl, rfl, rfl, trivial⟩, hs3, _, ?_, i + 1, rfl, ?_, ?_, ⟨rfl, trivial⟩⟩
    · omega
    · omega
    · intro j hj; rcases Nat.lt_or_ge j i with h_ | h_
      · exact p1 j h_
      · obtain rfl : j = i := by omega
        exact qh7
  ·refine WC.exit ?_
   refine hK2 _ _ ?_
   refine WC.rr tbk hs3 [] rfl trivial ?_
   refine WC.ret ?_
   refine retV1 rfl (resV.tmp rfl) ?_
   refine ⟨congrArg Ending.returned ?_, hs3.nil⟩
   congr 1; symm; unfold hasI; rw [decide_eq_false_iff_not]; exact hasI_not (fun j hj => p1 j (by omega))
theorem c_impl_PaneAt_1 (q : PaneR) (b_p : Nat) (p : Int) (w : World) (f_q : okPaneR 549755813888 w q) (f_p : SlF encI w (some ⟨b_p, 0, none⟩) 1 [p]) :
    Calls Try.prog 39 #[.agg #[i64 q.Id, .string q.Cmd, .string q.Dir, i64 q.Life, i64 q.Code, i64 q.Pid, i64 q.Term.P.State, .bool q.Term.P.Mark, .slice q.Term.P.Args.A q.Term.P.Args.n q.Term.P.Args.c, .slice q.Term.P.Part.A q.Term.P.Part.n q.Term.P.Part.c, i64 q.Term.S.W, i64 q.Term.S.H, i64 q.Term.S.Main.W, i64 q.Term.S.Main.H, .slice q.Term.S.Main.Cells.A q.Term.S.Main.Cells.n q.Term.S.Main.Cells.c, i64 q.Term.S.Alt.W, i64 q.Term.S.Alt.H, .slice q.Term.S.Alt.Cells.A q.Term.S.Alt.Cells.n q.Term.S.Alt.Cells.c, .bool q.Term.S.OnAlt, i64 q.Term.S.X, i64 q.Term.S.Y, .bool q.Term.S.Wrap, i64 q.Term.S.A.Fg, i64 q.Term.S.A.Bg, .bool q.Term.S.A.Bold, .bool q.Term.S.A.Under, .bool q.Term.S.A.Turn, i64 q.Term.S.Top, i64 q.Term.S.Bot, .bool q.Term.S.NoWrap, .bool q.Term.S.Hide, i64 q.Term.S.SaveX, i64 q.Term.S.SaveY, i64 q.Term.S.SaveA.Fg, i64 q.Term.S.SaveA.Bg, .bool q.Term.S.SaveA.Bold, .bool q.Term.S.SaveA.Under, .bool q.Term.S.SaveA.Turn, .slice q.Term.S.Tabs.A q.Term.S.Tabs.n q.Term.S.Tabs.c, i64 q.Term.S.Limit, .slice q.Term.S.Back.A q.Term.S.Back.n q.Term.S.Back.c], .pointer (some ⟨b_p, 0, none⟩)] w fun e w' => e = .returned (.bool (decide (q.Id = p))) ∧ St w [] [] w' := by
 have nz_q_Cmd := f_q.Cmd_z
 have nz_q_Dir := f_q.Dir_z
 have nb_q_Term_P_Args := f_q.Term.P.Args_n
 have nl_q_Term_P_Args := f_q.Term.P.Args.len
 have nb_q_Term_P_Part := f_q.Term.P.Part_n
 have nl_q_Term_P_Part := f_q.Term.P.Part.len
 have nb_q_Term_S_Main_Cells := f_q.Term.S.Main.Cells_n
 have nl_q_Term_S_Main_Cells := f_q.Term.S.Main.Cells.len
 have nb_q_Term_S_Alt_Cells := f_q.Term.S.Alt.Cells_n
 have nl_q_Term_S_Alt_Cells := f_q.Term.S.Alt.Cells.len
 have nb_q_Term_S_Tabs := f_q.Term.S.Tabs_n
 have nl_q_Term_S_Tabs := f_q.Term.S.Tabs.len
 have nb_q_Term_S_Back := f_q.Term.S.Back_n
 have nl_q_Term_S_Back := f_q.Term.S.Back.sl.len
 refine enter (vs := [.agg #[i64 q.Id, .string q.Cmd, .string q.Dir, i64 q.Life, i64 q.Code, i64 q.Pid, i64 q.Term.P.State, .bool q.Term.P.Mark, .slice q.Term.P.Args.A q.Term.P.Args.n q.Term.P.Args.c, .slice q.Term.P.Part.A q.Term.P.Part.n q.Term.P.Part.c, i64 q.Term.S.W, i64 q.Term.S.H, i64 q.Term.S.Main.W, i64 q.Term.S.Main.H, .slice q.Term.S.Main.Cells.A q.Term.S.Main.Cells.n q.Term.S.Main.Cells.c, i64 q.Term.S.Alt.W, i64 q.Term.S.Alt.H, .slice q.Term.S.Alt.Cells.A q.Term.S.Alt.Cells.n q.Term.S.Alt.Cells.c, .bool q.Term.S.OnAlt, i64 q.Term.S.X, i64 q.Term.S.Y, .bool q.Term.S.Wrap, i64 q.Term.S.A.Fg, i64 q.Term.S.A.Bg, .bool q.Term.S.A.Bold, .bool q.Term.S.A.Under, .bool q.Term.S.A.Turn, i64 q.Term.S.Top, i64 q.Term.S.Bot, .bool q.Term.S.NoWrap, .bool q.Term.S.Hide, i64 q.Term.S.SaveX, i64 q.Term.S.SaveY, i64 q.Term.S.SaveA.Fg, i64 q.Term.S.SaveA.Bg, .bool q.Term.S.SaveA.Bold, .bool q.Term.S.SaveA.Under, .bool q.Term.S.SaveA.Turn, .slice q.Term.S.Tabs.A q.Term.S.Tabs.n q.Term.S.Tabs.c, i64 q.Term.S.Limit, .slice q.Term.S.Back.A q.Term.S.Back.n q.Term.S.Back.c], .pointer (some ⟨b_p, 0, none⟩)]) 8 Try.func39 rfl Try.ntmps39 rfl rfl ?_
 have hs1 := St.init w
 refine WC.sr ?_
 refine WL.bx hs1 rfl (fun b2 _ hs3 => ?_)
 refine WL.run tbk 1 hs3 [] rfl trivial ?_
 refine WL.nil ?_
 refine WC.sr ?_
 refine WL.run tbk 2 hs3 [0] rfl ⟨rfl, trivial⟩ ?_
 refine WL.val rfl rfl rfl (Run.load Try.isAgg3 rfl rfl (SlF.var (SlF.st0 f_p hs3) rfl)) ?_
 refine WL.run tbk 2 hs3 [] rfl trivial ?_
 refine WL.nil ?_
 refine WC.ret ?_
 refine retV1 rfl (resV.tmp rfl) ?_
 refine ⟨congrArg Ending.returned ?_, hs3.nil⟩
 rfl
theorem c_slices_IndexFunc_impl_Pane_impl_Pane_PaneAt (A_s : Option Addr) (n_s c_s : Nat) (s : List PaneR) (b_p : Nat) (p : Int) (w : World) (f_s : SlN encPaneR (okPaneR 549755813888) w A_s n_s s) (f_p : SlF encI w (some ⟨b_p, 0, none⟩) 1 [p]) (hn : n_s ≤ 549755813888) :
    Calls Try.prog 38 #[.slice A_s n_s c_s, .func (.func 39) #[] #[.pointer (some ⟨b_p, 0, none⟩)]] w fun e w' => e = .returned (.int .i64 (findI (fun q => decide (q.Id = p)) s)) ∧ St w [] [] w' := by
 refine enter (vs := [.slice A_s n_s c_s, .func (.func 39) #[] #[.pointer (some ⟨b_p, 0, none⟩)]]) 19 Try.func38 rfl Try.ntmps38 rfl rfl ?_
 have hs1 := St.init w
 refine WC.rr tbk hs1 [] rfl trivial ?_
 refine WC.seq (fun K2 hK2 => ?_)
 refine WC.rr tbk hs1 [] rfl trivial ?_
 refine WC.block ?_
 refine WC.loopS [(0, _), (1, _), (6, _), (7, _)] ⟨rfl, rfl, rfl, rfl, trivial⟩ hs1 (fun k_ f w' => ∃ (i : Nat), k_ = n_s - i ∧ (i ≤ n_s) ∧ (∀ j, j < i → (fun q => decide (q.Id = p)) (gat encPaneR s j) = false) ∧ Sub [(8, .int .i64 i)] f) ((fun (i : Nat) => n_s - i) (0)) ?_ ?_
 ·refine ⟨0, rfl, ?_, ?_, ⟨rfl, trivial⟩⟩
  · exact Nat.zero_le _
  · exact fun j hj => absurd hj (by omega)
 ·clear hs1
  rintro _ f w ⟨i, rfl, p0, p1, hG⟩ hF hs3
  refine WC.sub _ (hG.app hF) ?_
  clear hG hF
  refine WC.rr tbk hs3 [] rfl trivial ?_
  refine WC.seq (fun K4 hK4 => ?_)
  refine WC.cond rfl (fun h5 => ?_) (fun h5 => ?_)
  ·have qh5 := h5
   try simp only [decide_eq_true_eq, decide_eq_false_iff_not] at qh5
   refine WC.skip ?_
   refine hK4 _ _ ?_
   refine WC.seq (fun K6 hK6 => ?_)
   refine WC.block ?_
   refine WC.rr tbk hs3 [] rfl trivial ?_
   refine WC.sr ?_
   refine WL.run tbk 3 hs3 [] rfl trivial ?_
   refine WL.val rfl rfl rfl (Run.idxN Try.runUnderlying62 Try.sizeOf51 rfl rfl rfl ?_ ?_ ?_) ?_
   · exact SlF.some_ (SlF.st0 f_s.sl hs3)
   · omega
   · omega
   refine WL.val rfl rfl rfl (Run.loadA Try.isAgg51 Try.sizeOf51 rfl rfl (SlF.whole (SlF.st0 f_s.sl hs3) ?_)) ?_
   · omega
   refine WL.call rfl rfl rfl (Run.callC Try.call39 rfl rfl rfl) (c_impl_PaneAt_1 (gat encPaneR s i) _ _ _ (okPaneR.st0 (SlN.nth f_s (by omega)) hs3) (SlF.st0 f_p hs3)) ?_
   rintro _ whs7 ⟨rfl, hs7⟩
   replace hs7 := hs3.call0 hs7
   refine ⟨_, rfl, ?_⟩
   refine WL.nil ?_
   refine WC.cond rfl (fun h8 => ?_) (fun h8 => ?_)
   ·have qh8 := h8
    try simp only [decide_eq_true_eq, decide_eq_false_iff_not] at qh8
    refine WC.rr tbk hs7 [] rfl trivial ?_
    refine WC.ret ?_
    refine ibR (tkR (tkR (ibR (tkR ?_))))
    clear hK6 hK2
    refine retV1 rfl (resV.tmp rfl) ?_
    refine ⟨congrArg Ending.returned ?_, hs7.nil⟩
    rw [findI_some (F := encPaneR) (by rw [f_s.len]; omega) p1 h8]
   ·have qh8 := h8
    try simp only [decide_eq_true_eq, decide_eq_false_iff_not] at qh8
    refine WC.skip ?_
    refine hK6 _ _ ?_
    refine WC.region ?_
    refine WL.run tbk 2 hs7 [] rfl ⟨by omega, trivial⟩ ?_
    refine WL.nil ?_
    refine tkN ?_
    refine ⟨⟨rfl, rfl, rfl, rfl, trivial⟩, hs7, _, ?_, i + 1, rfl, ?_, ?_, ⟨rfl, trivial⟩⟩
    · omega
    · omega
    · intro j hj; rcases Nat.lt_or_ge j i with h_ | h_
      · exact p1 j h_
      · obtain rfl : j = i := by omega
        exact h8
  ·have qh5 := h5
   try simp only [decide_eq_true_eq, decide_eq_false_iff_not] at qh5
   refine WC.exit ?_
   refine hK2 _ _ ?_
   refine WC.rr tbk hs3 [] rfl trivial ?_
   refine WC.ret ?_
   refine retV1 rfl (resV.tmp rfl) ?_
   refine ⟨congrArg Ending.returned ?_, hs3.nil⟩
   rw [findI_none (F := encPaneR) (fun j hj => p1 j (by rw [f_s.len] at hj; omega))]
theorem c_impl_PaneAt (s : StateR) (p : Int) (w : World) (f_s : okStateR 549755813888 w s) :
    Calls Try.prog 16 #[.agg #[i64 s.W, i64 s.H, i64 s.Limit, i64 s.Next, .slice s.Panes.A s.Panes.n s.Panes.c, .slice s.Wins.A s.Wins.n s.Wins.c, .slice s.Sess.A s.Sess.n s.Sess.c], i64 p] w fun e w' => e = .returned (.int .i64 (findI (fun q : PaneD => decide (q.Id = p)) s.dat.Panes)) ∧ St w [] [] w' := by
 have nb_s_Panes := f_s.Panes_n
 have nl_s_Panes := f_s.Panes.sl.len
 have nb_s_Wins := f_s.Wins_n
 have nl_s_Wins := f_s.Wins.sl.len
 have nb_s_Sess := f_s.Sess_n
 have nl_s_Sess := f_s.Sess.sl.len
 refine enter (vs := [.agg #[i64 s.W, i64 s.H, i64 s.Limit, i64 s.Next, .slice s.Panes.A s.Panes.n s.Panes.c, .slice s.Wins.A s.Wins.n s.Wins.c, .slice s.Sess.A s.Sess.n s.Sess.c], i64 p]) 9 Try.func16 rfl Try.ntmps16 rfl rfl ?_
 have hs1 := St.init w
 refine WC.sr ?_
 refine WL.bx hs1 rfl (fun b2 _ hs3 => ?_)
 refine WL.bx hs3 rfl (fun b4 _ hs5 => ?_)
 refine WL.run tbk 1 hs5 [] rfl trivial ?_
 refine WL.nil ?_
 refine WC.sr ?_
 refine WL.run tbk 2 hs5 [1] rfl ⟨rfl, trivial⟩ ?_
 refine WL.val rfl rfl rfl (Run.makeFunc rfl rfl) ?_
 refine WL.call rfl rfl rfl (Run.call Try.call38 rfl rfl rfl) (c_slices_IndexFunc_impl_Pane_impl_Pane_PaneAt _ _ _ _ _ _ _ (SlN.st0 okPaneR.st0 f_s.Panes hs5) (SlF.own1 (hs5.own _ (nthL_mem (i := 0) rfl)).1) ?_) ?_
 · first | assumption | rfl | omega
 rintro _ whs6 ⟨rfl, hs6⟩
 replace hs6 := hs5.call0 hs6
 refine ⟨_, rfl, ?_⟩
 refine WL.run tbk 1 hs6 [] rfl trivial ?_
 refine WL.nil ?_
 refine WC.ret ?_
 refine retV1 rfl (resV.tmp rfl) ?_
 refine ⟨congrArg Ending.returned ?_, hs6.nil⟩
 rw [show s.dat.Panes = s.Panes.xs.map PaneR.dat from rfl, findI_map]; rfl
theorem c_spec_PaneAt (s : StateR) (p : Int) (w : World) (f_s : okStateR 549755813888 w s) :
    Calls Try.prog 14 #[.agg #[i64 s.W, i64 s.H, i64 s.Limit, i64 s.Next, .slice s.Panes.A s.Panes.n s.Panes.c, .slice s.Wins.A s.Wins.n s.Wins.c, .slice s.Sess.A s.Sess.n s.Sess.c], i64 p] w fun e w' => e = .returned (.int .i64 (findI (fun q : PaneD => decide (q.Id = p)) s.dat.Panes)) ∧ St w [] [] w' := by
 have nb_s_Panes := f_s.Panes_n
 have nl_s_Panes := f_s.Panes.sl.len
 have nb_s_Wins := f_s.Wins_n
 have nl_s_Wins := f_s.Wins.sl.len
 have nb_s_Sess := f_s.Sess_n
 have nl_s_Sess := f_s.Sess.sl.len
 refine enter (vs := [.agg #[i64 s.W, i64 s.H, i64 s.Limit, i64 s.Next, .slice s.Panes.A s.Panes.n s.Panes.c, .slice s.Wins.A s.Wins.n s.Wins.c, .slice s.Sess.A s.Sess.n s.Sess.c], i64 p]) 21 Try.func14 rfl Try.ntmps14 rfl rfl ?_
 have hs1 := St.init w
 refine WC.sr ?_
 refine WL.bx hs1 rfl (fun b2 _ hs3 => ?_)
 refine WL.run tbk 1 hs3 [] rfl trivial ?_
 refine WL.nil ?_
 refine WC.seq (fun K4 hK4 => ?_)
 refine WC.rr tbk hs3 [0] rfl ⟨rfl, trivial⟩ ?_
 refine WC.block ?_
 refine WC.loopS [(0, _), (1, _), (2, _), (7, _), (8, _), (9, _)] ⟨rfl, rfl, rfl, rfl, rfl, rfl, trivial⟩ hs3 (fun k_ f w' => ∃ (i : Nat), k_ = s.Panes.n - i ∧ (i ≤ s.Panes.n) ∧ (∀ j, j < i → (fun q : PaneR => decide (q.Id = p)) (gat encPaneR s.Panes.xs j) = false) ∧ Sub [(10, .int .i64 i)] f) ((fun (i : Nat) => s.Panes.n - i) (0)) ?_ ?_
 ·refine ⟨0, rfl, ?_, ?_, ⟨rfl, trivial⟩⟩
  · exact Nat.zero_le _
  · exact fun j hj => absurd hj (by omega)
 ·clear hs3
  rintro _ f w ⟨i, rfl, p0, p1, hG⟩ hF hs5
  refine WC.sub _ (hG.app hF) ?_
  clear hG hF
  refine WC.rr tbk hs5 [] rfl trivial ?_
  refine WC.seq (fun K6 hK6 => ?_)
  refine WC.cond rfl (fun h7 => ?_) (fun h7 => ?_)
  ·have qh7 := h7
   try simp only [bf, within_iff, within_not] at qh7
   refine WC.skip ?_
   refine hK6 _ _ ?_
   refine WC.seq (fun K8 hK8 => ?_)
   refine WC.block ?_
   refine WC.sr ?_
   refine WL.run tbk 1 hs5 [] rfl trivial ?_
   refine WL.val rfl rfl rfl (Run.idxN Try.runUnderlying62 Try.sizeOf51 rfl rfl rfl ?_ ?_ ?_) ?_
   · exact SlF.some_ (SlF.st0 f_s.Panes.sl hs5)
   · omega
   · omega
   refine WL.val rfl rfl rfl (Run.loadA Try.isAgg51 Try.sizeOf51 rfl rfl (SlF.whole (SlF.st0 f_s.Panes.sl hs5) ?_)) ?_
   · omega
   refine WL.al hs5 Try.zeroValue51 rfl rfl (fun b9 _ hs10 => ?_)
   refine WL.run tbk 1 hs10 [] rfl trivial ?_
   refine WL.st tbk hs10 0 rfl rfl (fun _ hs11 => ?_)
   refine WL.nil ?_
   refine WC.rr tbk hs11 [0] rfl ⟨rfl, trivial⟩ ?_
   refine WC.cond rfl (fun h12 => ?_) (fun h12 => ?_)
   ·have qh12 := h12
    try simp only [bf, within_iff, within_not] at qh12
    refine WC.rr tbk hs11 [] rfl trivial ?_
    refine WC.ret ?_
    refine ibR (tkR (tkR (ibR (tkR ?_))))
    clear hK8 hK4
    refine retV1 rfl (resV.tmp rfl) ?_
    refine ⟨congrArg Ending.returned ?_, hs11.nil⟩
    rw [show s.dat.Panes = s.Panes.xs.map PaneR.dat from rfl, findI_map]; exact congrArg (Value.int _) (findI_some (F := encPaneR) (p := (fun q : PaneR => decide (q.Id = p))) (xs := s.Panes.xs) (by omega) p1 h12).symm
   ·have qh12 := h12
    try simp only [bf, within_iff, within_not] at qh12
    refine WC.skip ?_
    refine hK8 _ _ ?_
    refine WC.region ?_
    refine WL.run tbk 2 hs11 [] rfl ⟨by omega, trivial⟩ ?_
    refine WL.nil ?_
    refine tkN ?_
    refine ⟨⟨rfl, rfl, rfl, rfl, rfl, rfl, trivial⟩, (hs11.drop (by repeat (first | exact List.Sublist.refl _ | exact List.sublist_append_left _ _ | exact List.Sublist.trans (List.sublist_append_left _ _) (List.sublist_append_left _ _) | apply List.Sublist.cons | refine List.Sublist.trans ?_ (List.sublist_append_right _ _)))), _, ?_, i + 1, rfl, ?_, ?_, ⟨rfl, trivial⟩⟩
    · omega
    · omega
    · intro j hj; rcases Nat.lt_or_ge j i with h_ | h_
      · exact p1 j h_
      · obtain rfl : j = i := by omega
        exact h12
  ·have qh7 := h7
   try simp only [bf, within_iff, within_not] at qh7
   refine WC.exit ?_
   refine hK4 _ _ ?_
   refine WC.rr tbk hs5 [] rfl trivial ?_
   refine WC.ret ?_
   refine retV1 rfl (resV.tmp rfl) ?_
   refine ⟨congrArg Ending.returned ?_, hs5.nil⟩
   rw [show s.dat.Panes = s.Panes.xs.map PaneR.dat from rfl, findI_map]; exact congrArg (Value.int _) (findI_none (F := encPaneR) (p := (fun q : PaneR => decide (q.Id = p))) (xs := s.Panes.xs) (fun j hj => p1 j (by omega))).symm
theorem c_impl_WinAt_1 (q : WinR) (b_p : Nat) (p : Int) (w : World) (f_q : okWinR 549755813888 w q) (f_p : SlF encI w (some ⟨b_p, 0, none⟩) 1 [p]) :
    Calls Try.prog 46 #[.agg #[i64 q.Id, .string q.Name, .slice q.Tree.A q.Tree.n q.Tree.c, i64 q.Active, .bool q.Zoom], .pointer (some ⟨b_p, 0, none⟩)] w fun e w' => e = .returned (.bool (decide (q.Id = p))) ∧ St w [] [] w' := by
 have nz_q_Name := f_q.Name_z
 have nb_q_Tree := f_q.Tree_n
 have nl_q_Tree := f_q.Tree.len
 refine enter (vs := [.agg #[i64 q.Id, .string q.Name, .slice q.Tree.A q.Tree.n q.Tree.c, i64 q.Active, .bool q.Zoom], .pointer (some ⟨b_p, 0, none⟩)]) 8 Try.func46 rfl Try.ntmps46 rfl rfl ?_
 have hs1 := St.init w
 refine WC.sr ?_
 refine WL.bx hs1 rfl (fun b2 _ hs3 => ?_)
 refine WL.run tbk 1 hs3 [] rfl trivial ?_
 refine WL.nil ?_
 refine WC.sr ?_
 refine WL.run tbk 2 hs3 [0] rfl ⟨rfl, trivial⟩ ?_
 refine WL.val rfl rfl rfl (Run.load Try.isAgg3 rfl rfl (SlF.var (SlF.st0 f_p hs3) rfl)) ?_
 refine WL.run tbk 2 hs3 [] rfl trivial ?_
 refine WL.nil ?_
 refine WC.ret ?_
 refine retV1 rfl (resV.tmp rfl) ?_
 refine ⟨congrArg Ending.returned ?_, hs3.nil⟩
 rfl
theorem c_slices_IndexFunc_impl_Win_impl_Win_WinAt (A_s : Option Addr) (n_s c_s : Nat) (s : List WinR) (b_p : Nat) (p : Int) (w : World) (f_s : SlN encWinR (okWinR 549755813888) w A_s n_s s) (f_p : SlF encI w (some ⟨b_p, 0, none⟩) 1 [p]) (hn : n_s ≤ 549755813888) :
    Calls Try.prog 45 #[.slice A_s n_s c_s, .func (.func 46) #[] #[.pointer (some ⟨b_p, 0, none⟩)]] w fun e w' => e = .returned (.int .i64 (findI (fun q => decide (q.Id = p)) s)) ∧ St w [] [] w' := by
 refine enter (vs := [.slice A_s n_s c_s, .func (.func 46) #[] #[.pointer (some ⟨b_p, 0, none⟩)]]) 19 Try.func45 rfl Try.ntmps45 rfl rfl ?_
 have hs1 := St.init w
 refine WC.rr tbk hs1 [] rfl trivial ?_
 refine WC.seq (fun K2 hK2 => ?_)
 refine WC.rr tbk hs1 [] rfl trivial ?_
 refine WC.block ?_
 refine WC.loopS [(0, _), (1, _), (6, _), (7, _)] ⟨rfl, rfl, rfl, rfl, trivial⟩ hs1 (fun k_ f w' => ∃ (i : Nat), k_ = n_s - i ∧ (i ≤ n_s) ∧ (∀ j, j < i → (fun q => decide (q.Id = p)) (gat encWinR s j) = false) ∧ Sub [(8, .int .i64 i)] f) ((fun (i : Nat) => n_s - i) (0)) ?_ ?_
 ·refine ⟨0, rfl, ?_, ?_, ⟨rfl, trivial⟩⟩
  · exact Nat.zero_le _
  · exact fun j hj => absurd hj (by omega)
 ·clear hs1
  rintro _ f w ⟨i, rfl, p0, p1, hG⟩ hF hs3
  refine WC.sub _ (hG.app hF) ?_
  clear hG hF
  refine WC.rr tbk hs3 [] rfl trivial ?_
  refine WC.seq (fun K4 hK4 => ?_)
  refine WC.cond rfl (fun h5 => ?_) (fun h5 => ?_)
  ·have qh5 := h5
   try simp only [decide_eq_true_eq, decide_eq_false_iff_not] at qh5
   refine WC.skip ?_
   refine hK4 _ _ ?_
   refine WC.seq (fun K6 hK6 => ?_)
   refine WC.block ?_
   refine WC.rr tbk hs3 [] rfl trivial ?_
   refine WC.sr ?_
   refine WL.run tbk 3 hs3 [] rfl trivial ?_
   refine WL.val rfl rfl rfl (Run.idxN Try.runUnderlying63 Try.sizeOf95 rfl rfl rfl ?_ ?_ ?_) ?_
   · exact SlF.some_ (SlF.st0 f_s.sl hs3)
   · omega
   · omega
   refine WL.val rfl rfl rfl (Run.loadA Try.isAgg95 Try.sizeOf95 rfl rfl (SlF.whole (SlF.st0 f_s.sl hs3) ?_)) ?_
   · omega
   refine WL.call rfl rfl rfl (Run.callC Try.call46 rfl rfl rfl) (c_impl_WinAt_1 (gat encWinR s i) _ _ _ (okWinR.st0 (SlN.nth f_s (by omega)) hs3) (SlF.st0 f_p hs3)) ?_
   rintro _ whs7 ⟨rfl, hs7⟩
   replace hs7 := hs3.call0 hs7
   refine ⟨_, rfl, ?_⟩
   refine WL.nil ?_
   refine WC.cond rfl (fun h8 => ?_) (fun h8 => ?_)
   ·have qh8 := h8
    try simp only [decide_eq_true_eq, decide_eq_false_iff_not] at qh8
    refine WC.rr tbk hs7 [] rfl trivial ?_
    refine WC.ret ?_
    refine ibR (tkR (tkR (ibR (tkR ?_))))
    clear hK6 hK2
    refine retV1 rfl (resV.tmp rfl) ?_
    refine ⟨congrArg Ending.returned ?_, hs7.nil⟩
    rw [findI_some (F := encWinR) (by rw [f_s.len]; omega) p1 h8]
   ·have qh8 := h8
    try simp only [decide_eq_true_eq, decide_eq_false_iff_not] at qh8
    refine WC.skip ?_
    refine hK6 _ _ ?_
    refine WC.region ?_
    refine WL.run tbk 2 hs7 [] rfl ⟨by omega, trivial⟩ ?_
    refine WL.nil ?_
    refine tkN ?_
    refine ⟨⟨rfl, rfl, rfl, rfl, trivial⟩, hs7, _, ?_, i + 1, rfl, ?_, ?_, ⟨rfl, trivial⟩⟩
    · omega
    · omega
    · intro j hj; rcases Nat.lt_or_ge j i with h_ | h_
      · exact p1 j h_
      · obtain rfl : j = i := by omega
        exact h8
  ·have qh5 := h5
   try simp only [decide_eq_true_eq, decide_eq_false_iff_not] at qh5
   refine WC.exit ?_
   refine hK2 _ _ ?_
   refine WC.rr tbk hs3 [] rfl trivial ?_
   refine WC.ret ?_
   refine retV1 rfl (resV.tmp rfl) ?_
   refine ⟨congrArg Ending.returned ?_, hs3.nil⟩
   rw [findI_none (F := encWinR) (fun j hj => p1 j (by rw [f_s.len] at hj; omega))]
theorem c_impl_WinAt (s : StateR) (p : Int) (w : World) (f_s : okStateR 549755813888 w s) :
    Calls Try.prog 21 #[.agg #[i64 s.W, i64 s.H, i64 s.Limit, i64 s.Next, .slice s.Panes.A s.Panes.n s.Panes.c, .slice s.Wins.A s.Wins.n s.Wins.c, .slice s.Sess.A s.Sess.n s.Sess.c], i64 p] w fun e w' => e = .returned (.int .i64 (findI (fun q : WinD => decide (q.Id = p)) s.dat.Wins)) ∧ St w [] [] w' := by
 have nb_s_Panes := f_s.Panes_n
 have nl_s_Panes := f_s.Panes.sl.len
 have nb_s_Wins := f_s.Wins_n
 have nl_s_Wins := f_s.Wins.sl.len
 have nb_s_Sess := f_s.Sess_n
 have nl_s_Sess := f_s.Sess.sl.len
 refine enter (vs := [.agg #[i64 s.W, i64 s.H, i64 s.Limit, i64 s.Next, .slice s.Panes.A s.Panes.n s.Panes.c, .slice s.Wins.A s.Wins.n s.Wins.c, .slice s.Sess.A s.Sess.n s.Sess.c], i64 p]) 9 Try.func21 rfl Try.ntmps21 rfl rfl ?_
 have hs1 := St.init w
 refine WC.sr ?_
 refine WL.bx hs1 rfl (fun b2 _ hs3 => ?_)
 refine WL.bx hs3 rfl (fun b4 _ hs5 => ?_)
 refine WL.run tbk 1 hs5 [] rfl trivial ?_
 refine WL.nil ?_
 refine WC.sr ?_
 refine WL.run tbk 2 hs5 [1] rfl ⟨rfl, trivial⟩ ?_
 refine WL.val rfl rfl rfl (Run.makeFunc rfl rfl) ?_
 refine WL.call rfl rfl rfl (Run.call Try.call45 rfl rfl rfl) (c_slices_IndexFunc_impl_Win_impl_Win_WinAt _ _ _ _ _ _ _ (SlN.st0 okWinR.st0 f_s.Wins hs5) (SlF.own1 (hs5.own _ (nthL_mem (i := 0) rfl)).1) ?_) ?_
 · first | assumption | rfl | omega
 rintro _ whs6 ⟨rfl, hs6⟩
 replace hs6 := hs5.call0 hs6
 refine ⟨_, rfl, ?_⟩
 refine WL.run tbk 1 hs6 [] rfl trivial ?_
 refine WL.nil ?_
 refine WC.ret ?_
 refine retV1 rfl (resV.tmp rfl) ?_
 refine ⟨congrArg Ending.returned ?_, hs6.nil⟩
 rw [show s.dat.Wins = s.Wins.xs.map WinR.dat from rfl, findI_map]; rfl
theorem c_spec_WinAt (s : StateR) (p : Int) (w : World) (f_s : okStateR 549755813888 w s) :
    Calls Try.prog 20 #[.agg #[i64 s.W, i64 s.H, i64 s.Limit, i64 s.Next, .slice s.Panes.A s.Panes.n s.Panes.c, .slice s.Wins.A s.Wins.n s.Wins.c, .slice s.Sess.A s.Sess.n s.Sess.c], i64 p] w fun e w' => e = .returned (.int .i64 (findI (fun q : WinD => decide (q.Id = p)) s.dat.Wins)) ∧ St w [] [] w' := by
 have nb_s_Panes := f_s.Panes_n
 have nl_s_Panes := f_s.Panes.sl.len
 have nb_s_Wins := f_s.Wins_n
 have nl_s_Wins := f_s.Wins.sl.len
 have nb_s_Sess := f_s.Sess_n
 have nl_s_Sess := f_s.Sess.sl.len
 refine enter (vs := [.agg #[i64 s.W, i64 s.H, i64 s.Limit, i64 s.Next, .slice s.Panes.A s.Panes.n s.Panes.c, .slice s.Wins.A s.Wins.n s.Wins.c, .slice s.Sess.A s.Sess.n s.Sess.c], i64 p]) 21 Try.func20 rfl Try.ntmps20 rfl rfl ?_
 have hs1 := St.init w
 refine WC.sr ?_
 refine WL.bx hs1 rfl (fun b2 _ hs3 => ?_)
 refine WL.run tbk 1 hs3 [] rfl trivial ?_
 refine WL.nil ?_
 refine WC.seq (fun K4 hK4 => ?_)
 refine WC.rr tbk hs3 [0] rfl ⟨rfl, trivial⟩ ?_
 refine WC.block ?_
 refine WC.loopS [(0, _), (1, _), (2, _), (7, _), (8, _), (9, _)] ⟨rfl, rfl, rfl, rfl, rfl, rfl, trivial⟩ hs3 (fun k_ f w' => ∃ (i : Nat), k_ = s.Wins.n - i ∧ (i ≤ s.Wins.n) ∧ (∀ j, j < i → (fun q : WinR => decide (q.Id = p)) (gat encWinR s.Wins.xs j) = false) ∧ Sub [(10, .int .i64 i)] f) ((fun (i : Nat) => s.Wins.n - i) (0)) ?_ ?_
 ·refine ⟨0, rfl, ?_, ?_, ⟨rfl, trivial⟩⟩
  · exact Nat.zero_le _
  · exact fun j hj => absurd hj (by omega)
 ·clear hs3
  rintro _ f w ⟨i, rfl, p0, p1, hG⟩ hF hs5
  refine WC.sub _ (hG.app hF) ?_
  clear hG hF
  refine WC.rr tbk hs5 [] rfl trivial ?_
  refine WC.seq (fun K6 hK6 => ?_)
  refine WC.cond rfl (fun h7 => ?_) (fun h7 => ?_)
  ·have qh7 := h7
   try simp only [bf, within_iff, within_not] at qh7
   refine WC.skip ?_
   refine hK6 _ _ ?_
   refine WC.seq (fun K8 hK8 => ?_)
   refine WC.block ?_
   refine WC.sr ?_
   refine WL.run tbk 1 hs5 [] rfl trivial ?_
   refine WL.val rfl rfl rfl (Run.idxN Try.runUnderlying63 Try.sizeOf95 rfl rfl rfl ?_ ?_ ?_) ?_
   · exact SlF.some_ (SlF.st0 f_s.Wins.sl hs5)
   · omega
   · omega
   refine WL.val rfl rfl rfl (Run.loadA Try.isAgg95 Try.sizeOf95 rfl rfl (SlF.whole (SlF.st0 f_s.Wins.sl hs5) ?_)) ?_
   · omega
   refine WL.al hs5 Try.zeroValue95 rfl rfl (fun b9 _ hs10 => ?_)
   refine WL.run tbk 1 hs10 [] rfl trivial ?_
   refine WL.st tbk hs10 0 rfl rfl (fun _ hs11 => ?_)
   refine WL.nil ?_
   refine WC.rr tbk hs11 [0] rfl ⟨rfl, trivial⟩ ?_
   refine WC.cond rfl (fun h12 => ?_) (fun h12 => ?_)
   ·have qh12 := h12
    try simp only [bf, within_iff, within_not] at qh12
    refine WC.rr tbk hs11 [] rfl trivial ?_
    refine WC.ret ?_
    refine ibR (tkR (tkR (ibR (tkR ?_))))
    clear hK8 hK4
    refine retV1 rfl (resV.tmp rfl) ?_
    refine ⟨congrArg Ending.returned ?_, hs11.nil⟩
    rw [show s.dat.Wins = s.Wins.xs.map WinR.dat from rfl, findI_map]; exact congrArg (Value.int _) (findI_some (F := encWinR) (p := (fun q : WinR => decide (q.Id = p))) (xs := s.Wins.xs) (by omega) p1 h12).symm
   ·have qh12 := h12
    try simp only [bf, within_iff, within_not] at qh12
    refine WC.skip ?_
    refine hK8 _ _ ?_
    refine WC.region ?_
    refine WL.run tbk 2 hs11 [] rfl ⟨by omega, trivial⟩ ?_
    refine WL.nil ?_
    refine tkN ?_
    refine ⟨⟨rfl, rfl, rfl, rfl, rfl, rfl, trivial⟩, (hs11.drop (by repeat (first | exact List.Sublist.refl _ | exact List.sublist_append_left _ _ | exact List.Sublist.trans (List.sublist_append_left _ _) (List.sublist_append_left _ _) | apply List.Sublist.cons | refine List.Sublist.trans ?_ (List.sublist_append_right _ _)))), _, ?_, i + 1, rfl, ?_, ?_, ⟨rfl, trivial⟩⟩
    · omega
    · omega
    · intro j hj; rcases Nat.lt_or_ge j i with h_ | h_
      · exact p1 j h_
      · obtain rfl : j = i := by omega
        exact h12
  ·have qh7 := h7
   try simp only [bf, within_iff, within_not] at qh7
   refine WC.exit ?_
   refine hK4 _ _ ?_
   refine WC.rr tbk hs5 [] rfl trivial ?_
   refine WC.ret ?_
   refine retV1 rfl (resV.tmp rfl) ?_
   refine ⟨congrArg Ending.returned ?_, hs5.nil⟩
   rw [show s.dat.Wins = s.Wins.xs.map WinR.dat from rfl, findI_map]; exact congrArg (Value.int _) (findI_none (F := encWinR) (p := (fun q : WinR => decide (q.Id = p))) (xs := s.Wins.xs) (fun j hj => p1 j (by omega))).symm
end Go.Proofs.Ytmkgffhdbagmjaa
