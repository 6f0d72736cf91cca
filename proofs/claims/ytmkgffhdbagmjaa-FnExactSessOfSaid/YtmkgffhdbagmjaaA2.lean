/- Walks of Go functions, printed by a program (wip/gen). -/
import Derived.Test.YtmkgffhdbagmjaaA1
namespace Go.Proofs.Ytmkgffhdbagmjaa
open Go Go.RowKit
set_option linter.unusedVariables false
set_option linter.unusedSimpArgs false
theorem c_impl_SessAt_1 (q : SessR) (b_p : Nat) (p : ByteArray) (w : World) (f_q : okSessR 549755813888 w q) (f_p : SlF encS w (some ⟨b_p, 0, none⟩) 1 [p]) :
    Calls Try.prog 44 #[.agg #[.string q.Name, .slice q.Wins.A q.Wins.n q.Wins.c, i64 q.Active], .pointer (some ⟨b_p, 0, none⟩)] w fun e w' => e = .returned (.bool (decide (q.Name = p))) ∧ St w [] [] w' := by
 have nz_q_Name := f_q.Name_z
 have nb_q_Wins := f_q.Wins_n
 have nl_q_Wins := f_q.Wins.len
 refine enter (vs := [.agg #[.string q.Name, .slice q.Wins.A q.Wins.n q.Wins.c, i64 q.Active], .pointer (some ⟨b_p, 0, none⟩)]) 8 Try.func44 rfl Try.ntmps44 rfl rfl ?_
 have hs1 := St.init w
 refine WC.sr ?_
 refine WL.bx hs1 rfl (fun b2 _ hs3 => ?_)
 refine WL.run tbk 1 hs3 [] rfl trivial ?_
 refine WL.nil ?_
 refine WC.sr ?_
 refine WL.run tbk 2 hs3 [0] rfl ⟨rfl, trivial⟩ ?_
 refine WL.val rfl rfl rfl (Run.load Try.isAgg9 rfl rfl (SlF.var (SlF.st0 f_p hs3) rfl)) ?_
 refine WL.run tbk 2 hs3 [] rfl trivial ?_
 refine WL.nil ?_
 refine WC.ret ?_
 refine retV1 rfl (resV.tmp rfl) ?_
 refine ⟨congrArg Ending.returned ?_, hs3.nil⟩
 rfl
theorem c_slices_IndexFunc_impl_Sess_impl_Sess_SessAt (A_s : Option Addr) (n_s c_s : Nat) (s : List SessR) (b_p : Nat) (p : ByteArray) (w : World) (f_s : SlN encSessR (okSessR 549755813888) w A_s n_s s) (f_p : SlF encS w (some ⟨b_p, 0, none⟩) 1 [p]) (hn : n_s ≤ 549755813888) :
    Calls Try.prog 43 #[.slice A_s n_s c_s, .func (.func 44) #[] #[.pointer (some ⟨b_p, 0, none⟩)]] w fun e w' => e = .returned (.int .i64 (findI (fun q => decide (q.Name = p)) s)) ∧ St w [] [] w' := by
 refine enter (vs := [.slice A_s n_s c_s, .func (.func 44) #[] #[.pointer (some ⟨b_p, 0, none⟩)]]) 19 Try.func43 rfl Try.ntmps43 rfl rfl ?_
 have hs1 := St.init w
 refine WC.rr tbk hs1 [] rfl trivial ?_
 refine WC.seq (fun K2 hK2 => ?_)
 refine WC.rr tbk hs1 [] rfl trivial ?_
 refine WC.block ?_
 refine WC.loopS [(0, _), (1, _), (6, _), (7, _)] ⟨rfl, rfl, rfl, rfl, trivial⟩ hs1 (fun k_ f w' => ∃ (i : Nat), k_ = n_s - i ∧ (i ≤ n_s) ∧ (∀ j, j < i → (fun q => decide (q.Name = p)) (gat encSessR s j) = false) ∧ Sub [(8, .int .i64 i)] f) ((fun (i : Nat) => n_s - i) (0)) ?_ ?_
 ·refine ⟨0, rfl, ?_, ?_, ⟨rfl, trivial⟩⟩
  · exact Nat.zero_le _
  · exact fun j hj => absurd hj (by omega)
 ·clear hs1
  rintro _ f w ⟨i, rfl, p0, p1, hG⟩ hF hs3
  refine WC.sub _ (hG.app hF) ?_
  clear hG hF
  refine WC.rr tbk hs3 [] rfl trivial ?_
  refine WC.seq (fun K4 hK4 => ?_)
  refine WC.cond rfl (fun h5 => ?_) (fun h5 => ?_)
  ·have qh5 := h5
   try simp only [decide_eq_true_eq, decide_eq_false_iff_not] at qh5
   refine WC.skip ?_
   refine hK4 _ _ ?_
   refine WC.seq (fun K6 hK6 => ?_)
   refine WC.block ?_
   refine WC.rr tbk hs3 [] rfl trivial ?_
   refine WC.sr ?_
   refine WL.run tbk 3 hs3 [] rfl trivial ?_
   refine WL.val rfl rfl rfl (Run.idxN Try.runUnderlying64 Try.sizeOf90 rfl rfl rfl ?_ ?_ ?_) ?_
   · exact SlF.some_ (SlF.st0 f_s.sl hs3)
   · omega
   · omega
   refine WL.val rfl rfl rfl (Run.loadA Try.isAgg90 Try.sizeOf90 rfl rfl (SlF.whole (SlF.st0 f_s.sl hs3) ?_)) ?_
   · omega
   refine WL.call rfl rfl rfl (Run.callC Try.call44 rfl rfl rfl) (c_impl_SessAt_1 (gat encSessR s i) _ _ _ (okSessR.st0 (SlN.nth f_s (by omega)) hs3) (SlF.st0 f_p hs3)) ?_
   rintro _ whs7 ⟨rfl, hs7⟩
   replace hs7 := hs3.call0 hs7
   refine ⟨_, rfl, ?_⟩
   refine WL.nil ?_
   refine WC.cond rfl (fun h8 => ?_) (fun h8 => ?_)
   ·have qh8 := h8
    try simp only [decide_eq_true_eq, decide_eq_false_iff_not] at qh8
    refine WC.rr tbk hs7 [] rfl trivial ?_
    refine WC.ret ?_
    refine ibR (tkR (tkR (ibR (tkR ?_))))
    clear hK6 hK2
    refine retV1 rfl (resV.tmp rfl) ?_
    refine ⟨congrArg Ending.returned ?_, hs7.nil⟩
    rw [findI_some (F := encSessR) (by rw [f_s.len]; omega) p1 h8]
   ·have qh8 := h8
    try simp only [decide_eq_true_eq, decide_eq_false_iff_not] at qh8
    refine WC.skip ?_
    refine hK6 _ _ ?_
    refine WC.region ?_
    refine WL.run tbk 2 hs7 [] rfl ⟨by omega, trivial⟩ ?_
    refine WL.nil ?_
    refine tkN ?_
    refine ⟨⟨rfl, rfl, rfl, rfl, trivial⟩, hs7, _, ?_, i + 1, rfl, ?_, ?_, ⟨rfl, trivial⟩⟩
    · omega
    · omega
    · intro j hj; rcases Nat.lt_or_ge j i with h_ | h_
      · exact p1 j h_
      · obtain rfl : j = i := by omega
        exact h8
  ·have qh5 := h5
   try simp only [decide_eq_true_eq, decide_eq_false_iff_not] at qh5
   refine WC.exit ?_
   refine hK2 _ _ ?_
   refine WC.rr tbk hs3 [] rfl trivial ?_
   refine WC.ret ?_
   refine retV1 rfl (resV.tmp rfl) ?_
   refine ⟨congrArg Ending.returned ?_, hs3.nil⟩
   rw [findI_none (F := encSessR) (fun j hj => p1 j (by rw [f_s.len] at hj; omega))]
theorem c_impl_SessAt (s : StateR) (p : ByteArray) (w : World) (f_s : okStateR 549755813888 w s) :
    Calls Try.prog 19 #[.agg #[i64 s.W, i64 s.H, i64 s.Limit, i64 s.Next, .slice s.Panes.A s.Panes.n s.Panes.c, .slice s.Wins.A s.Wins.n s.Wins.c, .slice s.Sess.A s.Sess.n s.Sess.c], .string p] w fun e w' => e = .returned (.int .i64 (findI (fun q : SessD => decide (q.Name = p)) s.dat.Sess)) ∧ St w [] [] w' := by
 have nb_s_Panes := f_s.Panes_n
 have nl_s_Panes := f_s.Panes.sl.len
 have nb_s_Wins := f_s.Wins_n
 have nl_s_Wins := f_s.Wins.sl.len
 have nb_s_Sess := f_s.Sess_n
 have nl_s_Sess := f_s.Sess.sl.len
 refine enter (vs := [.agg #[i64 s.W, i64 s.H, i64 s.Limit, i64 s.Next, .slice s.Panes.A s.Panes.n s.Panes.c, .slice s.Wins.A s.Wins.n s.Wins.c, .slice s.Sess.A s.Sess.n s.Sess.c], .string p]) 9 Try.func19 rfl Try.ntmps19 rfl rfl ?_
 have hs1 := St.init w
 refine WC.sr ?_
 refine WL.bx hs1 rfl (fun b2 _ hs3 => ?_)
 refine WL.bx hs3 rfl (fun b4 _ hs5 => ?_)
 refine WL.run tbk 1 hs5 [] rfl trivial ?_
 refine WL.nil ?_
 refine WC.sr ?_
 refine WL.run tbk 2 hs5 [1] rfl ⟨rfl, trivial⟩ ?_
 refine WL.val rfl rfl rfl (Run.makeFunc rfl rfl) ?_
 refine WL.call rfl rfl rfl (Run.call Try.call43 rfl rfl rfl) (c_slices_IndexFunc_impl_Sess_impl_Sess_SessAt _ _ _ _ _ _ _ (SlN.st0 okSessR.st0 f_s.Sess hs5) (SlF.own1 (hs5.own _ (nthL_mem (i := 0) rfl)).1) ?_) ?_
 · first | assumption | rfl | omega
 rintro _ whs6 ⟨rfl, hs6⟩
 replace hs6 := hs5.call0 hs6
 refine ⟨_, rfl, ?_⟩
 refine WL.run tbk 1 hs6 [] rfl trivial ?_
 refine WL.nil ?_
 refine WC.ret ?_
 refine retV1 rfl (resV.tmp rfl) ?_
 refine ⟨congrArg Ending.returned ?_, hs6.nil⟩
 rw [show s.dat.Sess = s.Sess.xs.map SessR.dat from rfl, findI_map]; rfl
theorem c_spec_SessAt (s : StateR) (p : ByteArray) (w : World) (f_s : okStateR 549755813888 w s) :
    Calls Try.prog 18 #[.agg #[i64 s.W, i64 s.H, i64 s.Limit, i64 s.Next, .slice s.Panes.A s.Panes.n s.Panes.c, .slice s.Wins.A s.Wins.n s.Wins.c, .slice s.Sess.A s.Sess.n s.Sess.c], .string p] w fun e w' => e = .returned (.int .i64 (findI (fun q : SessD => decide (q.Name = p)) s.dat.Sess)) ∧ St w [] [] w' := by
 have nb_s_Panes := f_s.Panes_n
 have nl_s_Panes := f_s.Panes.sl.len
 have nb_s_Wins := f_s.Wins_n
 have nl_s_Wins := f_s.Wins.sl.len
 have nb_s_Sess := f_s.Sess_n
 have nl_s_Sess := f_s.Sess.sl.len
 refine enter (vs := [.agg #[i64 s.W, i64 s.H, i64 s.Limit, i64 s.Next, .slice s.Panes.A s.Panes.n s.Panes.c, .slice s.Wins.A s.Wins.n s.Wins.c, .slice s.Sess.A s.Sess.n s.Sess.c], .string p]) 21 Try.func18 rfl Try.ntmps18 rfl rfl ?_
 have hs1 := St.init w
 refine WC.sr ?_
 refine WL.bx hs1 rfl (fun b2 _ hs3 => ?_)
 refine WL.run tbk 1 hs3 [] rfl trivial ?_
 refine WL.nil ?_
 refine WC.seq (fun K4 hK4 => ?_)
 refine WC.rr tbk hs3 [0] rfl ⟨rfl, trivial⟩ ?_
 refine WC.block ?_
 refine WC.loopS [(0, _), (1, _), (2, _), (7, _), (8, _), (9, _)] ⟨rfl, rfl, rfl, rfl, rfl, rfl, trivial⟩ hs3 (fun k_ f w' => ∃ (i : Nat), k_ = s.Sess.n - i ∧ (i ≤ s.Sess.n) ∧ (∀ j, j < i → (fun q : SessR => decide (q.Name = p)) (gat encSessR s.Sess.xs j) = false) ∧ Sub [(10, .int .i64 i)] f) ((fun (i : Nat) => s.Sess.n - i) (0)) ?_ ?_
 ·refine ⟨0, rfl, ?_, ?_, ⟨rfl, trivial⟩⟩
  · exact Nat.zero_le _
  · exact fun j hj => absurd hj (by omega)
 ·clear hs3
  rintro _ f w ⟨i, rfl, p0, p1, hG⟩ hF hs5
  refine WC.sub _ (hG.app hF) ?_
  clear hG hF
  refine WC.rr tbk hs5 [] rfl trivial ?_
  refine WC.seq (fun K6 hK6 => ?_)
  refine WC.cond rfl (fun h7 => ?_) (fun h7 => ?_)
  ·have qh7 := h7
   try simp only [bf, within_iff, within_not] at qh7
   refine WC.skip ?_
   refine hK6 _ _ ?_
   refine WC.seq (fun K8 hK8 => ?_)
   refine WC.block ?_
   refine WC.sr ?_
   refine WL.run tbk 1 hs5 [] rfl trivial ?_
   refine WL.val rfl rfl rfl (Run.idxN Try.runUnderlying64 Try.sizeOf90 rfl rfl rfl ?_ ?_ ?_) ?_
   · exact SlF.some_ (SlF.st0 f_s.Sess.sl hs5)
   · omega
   · omega
   refine WL.val rfl rfl rfl (Run.loadA Try.isAgg90 Try.sizeOf90 rfl rfl (SlF.whole (SlF.st0 f_s.Sess.sl hs5) ?_)) ?_
   · omega
   refine WL.al hs5 Try.zeroValue90 rfl rfl (fun b9 _ hs10 => ?_)
   refine WL.run tbk 1 hs10 [] rfl trivial ?_
   refine WL.st tbk hs10 0 rfl rfl (fun _ hs11 => ?_)
   refine WL.nil ?_
   refine WC.rr tbk hs11 [0] rfl ⟨rfl, trivial⟩ ?_
   refine WC.cond rfl (fun h12 => ?_) (fun h12 => ?_)
   ·have qh12 := h12
    try simp only [bf, within_iff, within_not] at qh12
    refine WC.rr tbk hs11 [] rfl trivial ?_
    refine WC.ret ?_
    refine ibR (tkR (tkR (ibR (tkR ?_))))
    clear hK8 hK4
    refine retV1 rfl (resV.tmp rfl) ?_
    refine ⟨congrArg Ending.returned ?_, hs11.nil⟩
    rw [show s.dat.Sess = s.Sess.xs.map SessR.dat from rfl, findI_map]; exact congrArg (Value.int _) (findI_some (F := encSessR) (p := (fun q : SessR => decide (q.Name = p))) (xs := s.Sess.xs) (by omega) p1 h12).symm
   ·have qh12 := h12
    try simp only [bf, within_iff, within_not] at qh12
    refine WC.skip ?_
    refine hK8 _ _ ?_
    refine WC.region ?_
    refine WL.run tbk 2 hs11 [] rfl ⟨by omega, trivial⟩ ?_
    refine WL.nil ?_
    refine tkN ?_
    refine ⟨⟨rfl, rfl, rfl, rfl, rfl, rfl, trivial⟩, (hs11.drop (by repeat (first | exact List.Sublist.refl _ | exact List.sublist_append_left _ _ | exact List.Sublist.trans (List.sublist_append_left _ _) (List.sublist_append_left _ _) | apply List.Sublist.cons | refine List.Sublist.trans ?_ (List.sublist_append_right _ _)))), _, ?_, i + 1, rfl, ?_, ?_, ⟨rfl, trivial⟩⟩
    · omega
    · omega
    · intro j hj; rcases Nat.lt_or_ge j i with h_ | h_
      · exact p1 j h_
      · obtain rfl : j = i := by omega
        exact h12
  ·have qh7 := h7
   try simp only [bf, within_iff, within_not] at qh7
   refine WC.exit ?_
   refine hK4 _ _ ?_
   refine WC.rr tbk hs5 [] rfl trivial ?_
   refine WC.ret ?_
   refine retV1 rfl (resV.tmp rfl) ?_
   refine ⟨congrArg Ending.returned ?_, hs5.nil⟩
   rw [show s.dat.Sess = s.Sess.xs.map SessR.dat from rfl, findI_map]; exact congrArg (Value.int _) (findI_none (F := encSessR) (p := (fun q : SessR => decide (q.Name = p))) (xs := s.Sess.xs) (fun j hj => p1 j (by omega))).symm
theorem c_impl_SessOf_1 (q : SessR) (b_p : Nat) (p : Int) (w : World) (f_q : okSessR 549755813888 w q) (f_p : SlF encI w (some ⟨b_p, 0, none⟩) 1 [p]) :
    Calls Try.prog 48 #[.agg #[.string q.Name, .slice q.Wins.A q.Wins.n q.Wins.c, i64 q.Active], .pointer (some ⟨b_p, 0, none⟩)] w fun e w' => e = .returned (.bool (hasI q.Wins.xs p)) ∧ St w [] [] w' := by
 have nz_q_Name := f_q.Name_z
 have nb_q_Wins := f_q.Wins_n
 have nl_q_Wins := f_q.Wins.len
 refine enter (vs := [.agg #[.string q.Name, .slice q.Wins.A q.Wins.n q.Wins.c, i64 q.Active], .pointer (some ⟨b_p, 0, none⟩)]) 8 Try.func48 rfl Try.ntmps48 rfl rfl ?_
 have hs1 := St.init w
 refine WC.sr ?_
 refine WL.bx hs1 rfl (fun b2 _ hs3 => ?_)
 refine WL.run tbk 1 hs3 [] rfl trivial ?_
 refine WL.nil ?_
 refine WC.sr ?_
 refine WL.run tbk 2 hs3 [0] rfl ⟨rfl, trivial⟩ ?_
 refine WL.val rfl rfl rfl (Run.load Try.isAgg3 rfl rfl (SlF.var (SlF.st0 f_p hs3) rfl)) ?_
 refine WL.call rfl rfl rfl (Run.call Try.call49 rfl rfl rfl) (c_slices_Contains_int_int _ _ _ _ _ _ (SlF.st0 f_q.Wins hs3) ?_) ?_
 · first | assumption | rfl | omega
 rintro _ whs4 ⟨rfl, hs4⟩
 replace hs4 := hs3.call0 hs4
 refine ⟨_, rfl, ?_⟩
 refine WL.run tbk 1 hs4 [] rfl trivial ?_
 refine WL.nil ?_
 refine WC.ret ?_
 refine retV1 rfl (resV.tmp rfl) ?_
 refine ⟨congrArg Ending.returned ?_, hs4.nil⟩
 rfl
theorem c_slices_IndexFunc_impl_Sess_impl_Sess_SessOf (A_s : Option Addr) (n_s c_s : Nat) (s : List SessR) (b_p : Nat) (p : Int) (w : World) (f_s : SlN encSessR (okSessR 549755813888) w A_s n_s s) (f_p : SlF encI w (some ⟨b_p, 0, none⟩) 1 [p]) (hn : n_s ≤ 549755813888) :
    Calls Try.prog 43 #[.slice A_s n_s c_s, .func (.func 48) #[] #[.pointer (some ⟨b_p, 0, none⟩)]] w fun e w' => e = .returned (.int .i64 (findI (fun q => hasI q.Wins.xs p) s)) ∧ St w [] [] w' := by
 refine enter (vs := [.slice A_s n_s c_s, .func (.func 48) #[] #[.pointer (some ⟨b_p, 0, none⟩)]]) 19 Try.func43 rfl Try.ntmps43 rfl rfl ?_
 have hs1 := St.init w
 refine WC.rr tbk hs1 [] rfl trivial ?_
 refine WC.seq (fun K2 hK2 => ?_)
 refine WC.rr tbk hs1 [] rfl trivial ?_
 refine WC.block ?_
 refine WC.loopS [(0, _), (1, _), (6, _), (7, _)] ⟨rfl, rfl, rfl, rfl, trivial⟩ hs1 (fun k_ f w' => ∃ (i : Nat), k_ = n_s - i ∧ (i ≤ n_s) ∧ (∀ j, j < i → (fun q => hasI q.Wins.xs p) (gat encSessR s j) = false) ∧ Sub [(8, .int .i64 i)] f) ((fun (i : Nat) => n_s - i) (0)) ?_ ?_
 ·refine ⟨0, rfl, ?_, ?_, ⟨rfl, trivial⟩⟩
  · exact Nat.zero_le _
  · exact fun j hj => absurd hj (by omega)
 ·clear hs1
  rintro _ f w ⟨i, rfl, p0, p1, hG⟩ hF hs3
  refine WC.sub _ (hG.app hF) ?_
  clear hG hF
  refine WC.rr tbk hs3 [] rfl trivial ?_
  refine WC.seq (fun K4 hK4 => ?_)
  refine WC.cond rfl (fun h5 => ?_) (fun h5 => ?_)
  ·have qh5 := h5
   try simp only [decide_eq_true_eq, decide_eq_false_iff_not] at qh5
   refine WC.skip ?_
   refine hK4 _ _ ?_
   refine WC.seq (fun K6 hK6 => ?_)
   refine WC.block ?_
   refine WC.rr tbk hs3 [] rfl trivial ?_
   refine WC.sr ?_
   refine WL.run tbk 3 hs3 [] rfl trivial ?_
   refine WL.val rfl rfl rfl (Run.idxN Try.runUnderlying64 Try.sizeOf90 rfl rfl rfl ?_ ?_ ?_) ?_
   · exact SlF.some_ (SlF.st0 f_s.sl hs3)
   · omega
   · omega
   refine WL.val rfl rfl rfl (Run.loadA Try.isAgg90 Try.sizeOf90 rfl rfl (SlF.whole (SlF.st0 f_s.sl hs3) ?_)) ?_
   · omega
   refine WL.call rfl rfl rfl (Run.callC Try.call48 rfl rfl rfl) (c_impl_SessOf_1 (gat encSessR s i) _ _ _ (okSessR.st0 (SlN.nth f_s (by omega)) hs3) (SlF.st0 f_p hs3)) ?_
   rintro _ whs7 ⟨rfl, hs7⟩
   replace hs7 := hs3.call0 hs7
   refine ⟨_, rfl, ?_⟩
   refine WL.nil ?_
   refine WC.cond rfl (fun h8 => ?_) (fun h8 => ?_)
   ·have qh8 := h8
    try simp only [decide_eq_true_eq, decide_eq_false_iff_not] at qh8
    refine WC.rr tbk hs7 [] rfl trivial ?_
    refine WC.ret ?_
    refine ibR (tkR (tkR (ibR (tkR ?_))))
    clear hK6 hK2
    refine retV1 rfl (resV.tmp rfl) ?_
    refine ⟨congrArg Ending.returned ?_, hs7.nil⟩
    rw [findI_some (F := encSessR) (by rw [f_s.len]; omega) p1 h8]
   ·have qh8 := h8
    try simp only [decide_eq_true_eq, decide_eq_false_iff_not] at qh8
    refine WC.skip ?_
    refine hK6 _ _ ?_
    refine WC.region ?_
    refine WL.run tbk 2 hs7 [] rfl ⟨by omega, trivial⟩ ?_
    refine WL.nil ?_
    refine tkN ?_
    refine ⟨⟨rfl, rfl, rfl, rfl, trivial⟩, hs7, _, ?_, i + 1, rfl, ?_, ?_, ⟨rfl, trivial⟩⟩
    · omega
    · omega
    · intro j hj; rcases Nat.lt_or_ge j i with h_ | h_
      · exact p1 j h_
      · obtain rfl : j = i := by omega
        exact h8
  ·have qh5 := h5
   try simp only [decide_eq_true_eq, decide_eq_false_iff_not] at qh5
   refine WC.exit ?_
   refine hK2 _ _ ?_
   refine WC.rr tbk hs3 [] rfl trivial ?_
   refine WC.ret ?_
   refine retV1 rfl (resV.tmp rfl) ?_
   refine ⟨congrArg Ending.returned ?_, hs3.nil⟩
   rw [findI_none (F := encSessR) (fun j hj => p1 j (by rw [f_s.len] at hj; omega))]
theorem c_impl_SessOf (s : StateR) (p : Int) (w : World) (f_s : okStateR 549755813888 w s) :
    Calls Try.prog 23 #[.agg #[i64 s.W, i64 s.H, i64 s.Limit, i64 s.Next, .slice s.Panes.A s.Panes.n s.Panes.c, .slice s.Wins.A s.Wins.n s.Wins.c, .slice s.Sess.A s.Sess.n s.Sess.c], i64 p] w fun e w' => e = .returned (.int .i64 (findI (fun q : SessD => hasI q.Wins p) s.dat.Sess)) ∧ St w [] [] w' := by
 have nb_s_Panes := f_s.Panes_n
 have nl_s_Panes := f_s.Panes.sl.len
 have nb_s_Wins := f_s.Wins_n
 have nl_s_Wins := f_s.Wins.sl.len
 have nb_s_Sess := f_s.Sess_n
 have nl_s_Sess := f_s.Sess.sl.len
 refine enter (vs := [.agg #[i64 s.W, i64 s.H, i64 s.Limit, i64 s.Next, .slice s.Panes.A s.Panes.n s.Panes.c, .slice s.Wins.A s.Wins.n s.Wins.c, .slice s.Sess.A s.Sess.n s.Sess.c], i64 p]) 9 Try.func23 rfl Try.ntmps23 rfl rfl ?_
 have hs1 := St.init w
 refine WC.sr ?_
 refine WL.bx hs1 rfl (fun b2 _ hs3 => ?_)
 refine WL.bx hs3 rfl (fun b4 _ hs5 => ?_)
 refine WL.run tbk 1 hs5 [] rfl trivial ?_
 refine WL.nil ?_
 refine WC.sr ?_
 refine WL.run tbk 2 hs5 [1] rfl ⟨rfl, trivial⟩ ?_
 refine WL.val rfl rfl rfl (Run.makeFunc rfl rfl) ?_
 refine WL.call rfl rfl rfl (Run.call Try.call43 rfl rfl rfl) (c_slices_IndexFunc_impl_Sess_impl_Sess_SessOf _ _ _ _ _ _ _ (SlN.st0 okSessR.st0 f_s.Sess hs5) (SlF.own1 (hs5.own _ (nthL_mem (i := 0) rfl)).1) ?_) ?_
 · first | assumption | rfl | omega
 rintro _ whs6 ⟨rfl, hs6⟩
 replace hs6 := hs5.call0 hs6
 refine ⟨_, rfl, ?_⟩
 refine WL.run tbk 1 hs6 [] rfl trivial ?_
 refine WL.nil ?_
 refine WC.ret ?_
 refine retV1 rfl (resV.tmp rfl) ?_
 refine ⟨congrArg Ending.returned ?_, hs6.nil⟩
 rw [show s.dat.Sess = s.Sess.xs.map SessR.dat from rfl, findI_map]; rfl
theorem c_spec_SessOf (s : StateR) (p : Int) (w : World) (f_s : okStateR 549755813888 w s) :
    Calls Try.prog 22 #[.agg #[i64 s.W, i64 s.H, i64 s.Limit, i64 s.Next, .slice s.Panes.A s.Panes.n s.Panes.c, .slice s.Wins.A s.Wins.n s.Wins.c, .slice s.Sess.A s.Sess.n s.Sess.c], i64 p] w fun e w' => e = .returned (.int .i64 (findI (fun q : SessD => hasI q.Wins p) s.dat.Sess)) ∧ St w [] [] w' := by
 have nb_s_Panes := f_s.Panes_n
 have nl_s_Panes := f_s.Panes.sl.len
 have nb_s_Wins := f_s.Wins_n
 have nl_s_Wins := f_s.Wins.sl.len
 have nb_s_Sess := f_s.Sess_n
 have nl_s_Sess := f_s.Sess.sl.len
 refine enter (vs := [.agg #[i64 s.W, i64 s.H, i64 s.Limit, i64 s.Next, .slice s.Panes.A s.Panes.n s.Panes.c, .slice s.Wins.A s.Wins.n s.Wins.c, .slice s.Sess.A s.Sess.n s.Sess.c], i64 p]) 21 Try.func22 rfl Try.ntmps22 rfl rfl ?_
 have hs1 := St.init w
 refine WC.sr ?_
 refine WL.bx hs1 rfl (fun b2 _ hs3 => ?_)
 refine WL.run tbk 1 hs3 [] rfl trivial ?_
 refine WL.nil ?_
 refine WC.seq (fun K4 hK4 => ?_)
 refine WC.rr tbk hs3 [0] rfl ⟨rfl, trivial⟩ ?_
 refine WC.block ?_
 refine WC.loopS [(0, _), (1, _), (2, _), (7, _), (8, _), (9, _)] ⟨rfl, rfl, rfl, rfl, rfl, rfl, trivial⟩ hs3 (fun k_ f w' => ∃ (i : Nat), k_ = s.Sess.n - i ∧ (i ≤ s.Sess.n) ∧ (∀ j, j < i → (fun q : SessR => hasI q.Wins.xs p) (gat encSessR s.Sess.xs j) = false) ∧ Sub [(10, .int .i64 i)] f) ((fun (i : Nat) => s.Sess.n - i) (0)) ?_ ?_
 ·refine ⟨0, rfl, ?_, ?_, ⟨rfl, trivial⟩⟩
  · exact Nat.zero_le _
  · exact fun j hj => absurd hj (by omega)
 ·clear hs3
  rintro _ f w ⟨i, rfl, p0, p1, hG⟩ hF hs5
  refine WC.sub _ (hG.app hF) ?_
  clear hG hF
  refine WC.rr tbk hs5 [] rfl trivial ?_
  refine WC.seq (fun K6 hK6 => ?_)
  refine WC.cond rfl (fun h7 => ?_) (fun h7 => ?_)
  ·have qh7 := h7
   try simp only [bf, within_iff, within_not] at qh7
   have hnth := (SlN.nth f_s.Sess (show i < s.Sess.n by omega)).Wins_n
   refine WC.skip ?_
   refine hK6 _ _ ?_
   refine WC.seq (fun K8 hK8 => ?_)
   refine WC.block ?_
   refine WC.sr ?_
   refine WL.run tbk 1 hs5 [] rfl trivial ?_
   refine WL.val rfl rfl rfl (Run.idxN Try.runUnderlying64 Try.sizeOf90 rfl rfl rfl ?_ ?_ ?_) ?_
   · exact SlF.some_ (SlF.st0 f_s.Sess.sl hs5)
   · omega
   · omega
   refine WL.val rfl rfl rfl (Run.loadA Try.isAgg90 Try.sizeOf90 rfl rfl (SlF.whole (SlF.st0 f_s.Sess.sl hs5) ?_)) ?_
   · omega
   refine WL.al hs5 Try.zeroValue90 rfl rfl (fun b9 _ hs10 => ?_)
   refine WL.run tbk 1 hs10 [] rfl trivial ?_
   refine WL.st tbk hs10 0 rfl rfl (fun _ hs11 => ?_)
   refine WL.nil ?_
   refine WC.sr ?_
   refine WL.run tbk 3 hs11 [0] rfl ⟨rfl, trivial⟩ ?_
   refine WL.call rfl rfl rfl (Run.call Try.call47 rfl rfl rfl) (c_spec_l02HasInt _ _ _ _ _ _ (SlF.st0 (SlN.nth f_s.Sess (by omega)).Wins hs11) ?_) ?_
   · first | assumption | rfl | omega
   rintro _ whs12 ⟨rfl, hs12⟩
   replace hs12 := hs11.call0 hs12
   refine ⟨_, rfl, ?_⟩
   refine WL.nil ?_
   refine WC.cond rfl (fun h13 => ?_) (fun h13 => ?_)
   ·have qh13 := h13
    try simp only [bf, within_iff, within_not] at qh13
    refine WC.rr tbk hs12 [] rfl trivial ?_
    refine WC.ret ?_
    refine ibR (tkR (tkR (ibR (tkR ?_))))
    clear hK8 hK4
    refine retV1 rfl (resV.tmp rfl) ?_
    refine ⟨congrArg Ending.returned ?_, hs12.nil⟩
    rw [show s.dat.Sess = s.Sess.xs.map SessR.dat from rfl, findI_map]; exact congrArg (Value.int _) (findI_some (F := encSessR) (p := (fun q : SessR => hasI q.Wins.xs p)) (xs := s.Sess.xs) (by omega) p1 h13).symm
   ·have qh13 := h13
    try simp only [bf, within_iff, within_not] at qh13
    refine WC.skip ?_
    refine hK8 _ _ ?_
    refine WC.region ?_
    refine WL.run tbk 2 hs12 [] rfl ⟨by omega, trivial⟩ ?_
    refine WL.nil ?_
    refine tkN ?_
    refine ⟨⟨rfl, rfl, rfl, rfl, rfl, rfl, trivial⟩, (hs12.drop (by repeat (first | exact List.Sublist.refl _ | exact List.sublist_append_left _ _ | exact List.Sublist.trans (List.sublist_append_left _ _) (List.sublist_append_left _ _) | apply List.Sublist.cons | refine List.Sublist.trans ?_ (List.sublist_append_right _ _)))), _, ?_, i + 1, rfl, ?_, ?_, ⟨rfl, trivial⟩⟩
    · omega
    · omega
    · intro j hj; rcases Nat.lt_or_ge j i with h_ | h_
      · exact p1 j h_
      · obtain rfl : j = i := by omega
        exact h13
  ·have qh7 := h7
   try simp only [bf, within_iff, within_not] at qh7
   refine WC.exit ?_
   refine hK4 _ _ ?_
   refine WC.rr tbk hs5 [] rfl trivial ?_
   refine WC.ret ?_
   refine retV1 rfl (resV.tmp rfl) ?_
   refine ⟨congrArg Ending.returned ?_, hs5.nil⟩
   rw [show s.dat.Sess = s.Sess.xs.map SessR.dat from rfl, findI_map]; exact congrArg (Value.int _) (findI_none (F := encSessR) (p := (fun q : SessR => hasI q.Wins.xs p)) (xs := s.Sess.xs) (fun j hj => p1 j (by omega))).symm
end Go.Proofs.Ytmkgffhdbagmjaa
