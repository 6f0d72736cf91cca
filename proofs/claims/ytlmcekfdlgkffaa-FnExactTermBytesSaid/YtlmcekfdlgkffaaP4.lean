/- Walks of Go functions, printed by a program (wip/gen). -/
import Derived.Test.YtlmcekfdlgkffaaP3
namespace Go.Proofs.Ytlmcekfdlgkffaa
open Go Go.RowKit
set_option linter.unusedVariables false
set_option linter.unusedSimpArgs false
theorem c_impl_areArgs_1 (n : Int) (w : World) :
    Calls Try.prog 166 #[i64 n] w fun e w' => e = .returned (.bool (!within n 0 9999)) ∧ St w [] [] w' := by
 refine enter (vs := [i64 n]) 6 Try.func166 rfl Try.ntmps166 rfl rfl ?_
 have hs1 := St.init w
 refine WC.rr tbk hs1 [] rfl trivial ?_
 refine WC.sr ?_
 refine WL.run tbk 1 hs1 [] rfl trivial ?_
 refine WL.call rfl rfl rfl (Run.call Try.call72 rfl rfl rfl) (c_impl_within _ _ _ _) ?_
 rintro _ whs2 ⟨rfl, hs2⟩
 replace hs2 := hs1.call0 hs2
 refine ⟨_, rfl, ?_⟩
 refine WL.run tbk 2 hs2 [] rfl trivial ?_
 refine WL.nil ?_
 refine WC.ret ?_
 refine retV1 rfl (resV.tmp rfl) ?_
 refine ⟨congrArg Ending.returned ?_, hs2.nil⟩
 rfl
theorem c_slices_IndexFunc_int_int (A_s : Option Addr) (n_s c_s : Nat) (s : List Int) (w : World) (f_s : SlF encI w A_s n_s s) (hn : n_s ≤ 1099511627776) :
    Calls Try.prog 201 #[.slice A_s n_s c_s, .func (.func 166) #[] #[]] w fun e w' => e = .returned (.int .i64 (findI (fun n => !within n 0 9999) s)) ∧ St w [] [] w' := by
 refine enter (vs := [.slice A_s n_s c_s, .func (.func 166) #[] #[]]) 19 Try.func201 rfl Try.ntmps201 rfl rfl ?_
 have hs1 := St.init w
 refine WC.rr tbk hs1 [] rfl trivial ?_
 refine WC.seq (fun K2 hK2 => ?_)
 refine WC.rr tbk hs1 [] rfl trivial ?_
 refine WC.block ?_
 refine WC.loopS [(0, _), (1, _), (7, _)] ⟨rfl, rfl, rfl, trivial⟩ hs1 (fun k_ f w' => ∃ (i : Nat), k_ = n_s - i ∧ (i ≤ n_s) ∧ (∀ j, j < i → (fun n => !within n 0 9999) (gat encI s j) = false) ∧ Sub [(8, .int .i64 i)] f) ((fun (i : Nat) => n_s - i) (0)) ?_ ?_
 ·refine ⟨0, rfl, ?_, ?_, ⟨rfl, trivial⟩⟩
  · exact Nat.zero_le _
  · exact fun j hj => absurd hj (by omega)
 ·clear hs1
  rintro _ f w ⟨i, rfl, p0, p1, hG⟩ hF hs3
  refine WC.sub _ (hG.app hF) ?_
  clear hG hF
  refine WC.rr tbk hs3 [] rfl trivial ?_
  refine WC.seq (fun K4 hK4 => ?_)
  refine WC.cond rfl (fun h5 => ?_) (fun h5 => ?_)
  ·have qh5 := h5
   try simp only [decide_eq_true_eq, decide_eq_false_iff_not] at qh5
   refine WC.skip ?_
   refine hK4 _ _ ?_
   refine WC.seq (fun K6 hK6 => ?_)
   refine WC.block ?_
   refine WC.rr tbk hs3 [] rfl trivial ?_
   refine WC.sr ?_
   refine WL.run tbk 3 hs3 [] rfl trivial ?_
   refine WL.val rfl rfl rfl (Run.idxN Try.runUnderlying22 Try.sizeOf3 rfl rfl rfl ?_ ?_ ?_) ?_
   · exact SlF.some_ (SlF.st0 f_s hs3)
   · omega
   · omega
   refine WL.val rfl rfl rfl (Run.load Try.isAgg3 rfl rfl (SlF.one1 (SlF.st0 f_s hs3) ?_ rfl)) ?_
   · omega
   refine WL.call rfl rfl rfl (Run.call Try.call166 rfl rfl rfl) (c_impl_areArgs_1 _ _) ?_
   rintro _ whs7 ⟨rfl, hs7⟩
   replace hs7 := hs3.call0 hs7
   refine ⟨_, rfl, ?_⟩
   refine WL.nil ?_
   refine WC.cond rfl (fun h8 => ?_) (fun h8 => ?_)
   ·have qh8 := h8
    try simp only [decide_eq_true_eq, decide_eq_false_iff_not] at qh8
    refine WC.rr tbk hs7 [] rfl trivial ?_
    refine WC.ret ?_
    refine ibR (tkR (tkR (ibR (tkR ?_))))
    clear hK6 hK2
    refine retV1 rfl (resV.tmp rfl) ?_
    refine ⟨congrArg Ending.returned ?_, hs7.nil⟩
    rw [findI_some (F := encI) (by rw [f_s.len]; omega) p1 h8]
   ·have qh8 := h8
    try simp only [decide_eq_true_eq, decide_eq_false_iff_not] at qh8
    refine WC.skip ?_
    refine hK6 _ _ ?_
    refine WC.region ?_
    refine WL.run tbk 2 hs7 [] rfl ⟨by omega, trivial⟩ ?_
    refine WL.nil ?_
    refine tkN ?_
    refine ⟨⟨rfl, rfl, rfl, trivial⟩, hs7, _, ?_, i + 1, rfl, ?_, ?_, ⟨rfl, trivial⟩⟩
    · omega
    · omega
    · intro j hj; rcases Nat.lt_or_ge j i with h_ | h_
      · exact p1 j h_
      · obtain rfl : j = i := by omega
        exact h8
  ·have qh5 := h5
   try simp only [decide_eq_true_eq, decide_eq_false_iff_not] at qh5
   refine WC.exit ?_
   refine hK2 _ _ ?_
   refine WC.rr tbk hs3 [] rfl trivial ?_
   refine WC.ret ?_
   refine retV1 rfl (resV.tmp rfl) ?_
   refine ⟨congrArg Ending.returned ?_, hs3.nil⟩
   rw [findI_none (F := encI) (fun j hj => p1 j (by rw [f_s.len] at hj; omega))]
theorem c_slices_ContainsFunc_int_int (A_s : Option Addr) (n_s c_s : Nat) (s : List Int) (w : World) (f_s : SlF encI w A_s n_s s) (hn : n_s ≤ 549755813888) :
    Calls Try.prog 165 #[.slice A_s n_s c_s, .func (.func 166) #[] #[]] w fun e w' => e = .returned (.bool (decide (0 ≤ findI (fun n => !within n 0 9999) s))) ∧ St w [] [] w' := by
 refine enter (vs := [.slice A_s n_s c_s, .func (.func 166) #[] #[]]) 9 Try.func165 rfl Try.ntmps165 rfl rfl ?_
 have hs1 := St.init w
 refine WC.rr tbk hs1 [] rfl trivial ?_
 refine WC.sr ?_
 refine WL.run tbk 2 hs1 [] rfl trivial ?_
 refine WL.call rfl rfl rfl (Run.call Try.call201 rfl rfl rfl) (c_slices_IndexFunc_int_int _ _ _ _ _ (SlF.st0 f_s hs1) ?_) ?_
 · first | assumption | rfl | omega
 rintro _ whs2 ⟨rfl, hs2⟩
 replace hs2 := hs1.call0 hs2
 refine ⟨_, rfl, ?_⟩
 refine WL.run tbk 2 hs2 [] rfl trivial ?_
 refine WL.nil ?_
 refine WC.ret ?_
 refine retV1 rfl (resV.tmp rfl) ?_
 refine ⟨congrArg Ending.returned ?_, hs2.nil⟩
 rfl
theorem c_impl_areArgs (A_l : Option Addr) (n_l c_l : Nat) (l : List Int) (w : World) (f_l : SlF encI w A_l n_l l) (hn : n_l ≤ 549755813888) :
    Calls Try.prog 114 #[.slice A_l n_l c_l] w fun e w' => e = .returned (.bool (areArgs l)) ∧ St w [] [] w' := by
 refine enter (vs := [.slice A_l n_l c_l]) 11 Try.func114 rfl Try.ntmps114 rfl rfl ?_
 have hs1 := St.init w
 refine WC.rr tbk hs1 [] rfl trivial ?_
 refine WC.sr ?_
 refine WL.run tbk 4 hs1 [] rfl trivial ?_
 apply WL.gA 3 Acts.nil hs1 rfl
 ·intro g2 J3
  have qg2 := g2
  try simp only [bf, within_iff, within_not] at qg2
  refine WL.runA tbk 1 (Acts.nil.cons (j := 3) rfl g2) hs1 [] rfl trivial ?_
  refine WL.call (wantT rfl g2) rfl rfl (Run.call Try.call165 rfl rfl rfl) (c_slices_ContainsFunc_int_int _ _ _ _ _ (SlF.st0 f_l hs1) ?_) ?_
  · first | assumption | rfl | omega
  rintro _ whs4 ⟨rfl, hs4⟩
  replace hs4 := hs1.call0 hs4
  refine ⟨_, rfl, ?_⟩
  refine WL.runA tbk 1 (Acts.nil.cons (j := 3) rfl g2) hs4 [] rfl trivial ?_
  exact WL.eA 3 Acts.nil J3 hs4 g2 rfl rfl
 ·intro _ hs5
  refine WL.run tbk 1 hs5 [] rfl trivial ?_
  refine WL.nil ?_
  refine WC.ret ?_
  refine retV1 rfl (resV.tmp rfl) ?_
  refine ⟨congrArg Ending.returned ?_, hs5.nil⟩
  rw [all_find, ← f_l.len]; unfold areArgs; rw [show decide ((l.length : Int) ≤ 8) = decide (l.length ≤ 8) from by rw [decide_eq_decide]; omega]
theorem c_spec_l08Keeps (n : Int) (w : World) :
    Calls Try.prog 134 #[i64 n] w fun e w' => e = .returned (.bool (decide (n = 2) || decide (n = 3))) ∧ St w [] [] w' := by
 refine enter (vs := [i64 n]) 9 Try.func134 rfl Try.ntmps134 rfl rfl ?_
 have hs1 := St.init w
 refine WC.rr tbk hs1 [] rfl trivial ?_
 refine WC.sr ?_
 refine WL.run tbk 3 hs1 [] rfl trivial ?_
 refine WL.pO tbk 2 Acts.nil hs1 [] rfl rfl rfl rfl (fun g_ => trivial) ?_
 refine WL.run tbk 1 hs1 [] rfl trivial ?_
 refine WL.nil ?_
 refine WC.ret ?_
 refine retV1 rfl (resV.tmp rfl) ?_
 refine ⟨congrArg Ending.returned ?_, hs1.nil⟩
 rfl
theorem c_impl_VpOk (p : VpR) (w : World) (f_p : okVpR 549755813888 w p) :
    Calls Try.prog 71 #[.agg #[i64 p.State, .bool p.Mark, .slice p.Args.A p.Args.n p.Args.c, .slice p.Part.A p.Part.n p.Part.c]] w fun e w' => e = .returned (.bool (vpOk p.dat)) ∧ St w [] [] w' := by
 have nb_p_Args := f_p.Args_n
 have nl_p_Args := f_p.Args.len
 have nb_p_Part := f_p.Part_n
 have nl_p_Part := f_p.Part.len
 have hal := f_p.Args.len
 have hpl := f_p.Part.len
 have e1 : decide ((p.Args.n : Int) = 0) = decide (p.dat.Args.length = 0) := by rw [decide_eq_decide]; show _ ↔ p.Args.xs.length = 0; omega
 have e2 : decide ((p.Part.n : Int) = 0) = decide (p.dat.Part.length = 0) := by rw [decide_eq_decide]; show _ ↔ p.Part.xs.length = 0; omega
 refine enter (vs := [.agg #[i64 p.State, .bool p.Mark, .slice p.Args.A p.Args.n p.Args.c, .slice p.Part.A p.Part.n p.Part.c]]) 56 Try.func71 rfl Try.ntmps71 rfl rfl ?_
 have hs1 := St.init w
 refine WC.sr ?_
 refine WL.bx hs1 rfl (fun b2 _ hs3 => ?_)
 refine WL.run tbk 1 hs3 [] rfl trivial ?_
 refine WL.nil ?_
 refine WC.seq (fun K4 hK4 => ?_)
 refine WC.rr tbk hs3 [0] rfl ⟨rfl, trivial⟩ ?_
 refine WC.block ?_
 refine WC.rr tbk hs3 [] rfl trivial ?_
 refine WC.cD rfl (fun qh5 => ?_) (fun qh5 => ?_)
 ·refine WC.sr ?_
  refine WL.run tbk 4 hs3 [0] rfl ⟨rfl, trivial⟩ ?_
  refine WL.pA tbk 4 Acts.nil hs3 [0] rfl rfl rfl rfl (fun g_ => ⟨rfl, trivial⟩) ?_
  refine WL.run tbk 1 hs3 [] rfl trivial ?_
  apply WL.gA 9 Acts.nil hs3 rfl
  ·intro g6 J7
   have qg6 := g6
   try simp only [bf, within_iff, within_not] at qg6
   refine WL.runA tbk 5 (Acts.nil.cons (j := 9) rfl g6) hs3 [0] rfl ⟨rfl, trivial⟩ ?_
   apply WL.gO 3 (Acts.nil.cons (j := 9) rfl g6) hs3 rfl
   ·intro g8 J9
    have qg8 := g8
    try simp only [bf, within_iff, within_not] at qg8
    refine WL.runA tbk 2 (Acts.nil.cons (j := 14) rfl g8) hs3 [0] rfl ⟨rfl, trivial⟩ ?_
    refine WL.call (wantF rfl g8) rfl rfl (Run.call Try.call137 rfl rfl rfl) (c_impl_RuneBegin _ _ _ _ _ (SlF.st0 f_p.Part hs3) f_p.Part_c ?_) ?_
    · first | assumption | rfl | omega
    rintro _ whs10 ⟨rfl, hs10⟩
    replace hs10 := hs3.call0 hs10
    refine ⟨_, rfl, ?_⟩
    exact WL.eO 3 (Acts.nil.cons (j := 9) rfl g6) J9 hs10 g8 rfl rfl
   ·intro _ hs11
    exact WL.eA 6 Acts.nil J7 hs11 g6 rfl rfl
  ·intro _ hs12
   refine WL.run tbk 1 hs12 [] rfl trivial ?_
   refine WL.nil ?_
   refine WC.ret ?_
   refine ibR (tkR ?_)
   clear hK4
   refine retV1 rfl (resV.tmp rfl) ?_
   refine ⟨congrArg Ending.returned ?_, hs12.nil⟩
   rw [e1, e2]; unfold vpOk; rw [if_pos (by show p.State = 0; omega)]; rfl
 ·refine WC.rr tbk hs3 [] rfl trivial ?_
  refine WC.cD rfl (fun qh13 => ?_) (fun qh13 => ?_)
  ·refine WC.sr ?_
   refine WL.run tbk 4 hs3 [0] rfl ⟨rfl, trivial⟩ ?_
   refine WL.pA tbk 4 Acts.nil hs3 [0] rfl rfl rfl rfl (fun g_ => ⟨rfl, trivial⟩) ?_
   refine WL.run tbk 1 hs3 [] rfl trivial ?_
   refine WL.pA tbk 4 Acts.nil hs3 [0] rfl rfl rfl rfl (fun g_ => ⟨rfl, trivial⟩) ?_
   refine WL.run tbk 1 hs3 [] rfl trivial ?_
   refine WL.nil ?_
   refine WC.ret ?_
   refine ibR (tkR ?_)
   clear hK4
   refine retV1 rfl (resV.tmp rfl) ?_
   refine ⟨congrArg Ending.returned ?_, hs3.nil⟩
   rw [e1, e2]; unfold vpOk; rw [if_neg (by show ¬ p.State = 0; omega), if_pos (by show p.State = 1; omega)]; rfl
  ·refine WC.seq (fun K14 hK14 => ?_)
   refine WC.rr tbk hs3 [] rfl trivial ?_
   refine WC.cD rfl (fun qh15 => ?_) (fun qh15 => ?_)
   ·refine WC.skip ?_
    refine hK14 _ _ ?_
    refine WC.condT rfl (decide_eq_true qh15) ?_
    refine WC.sr ?_
    refine WL.run tbk 2 hs3 [0] rfl ⟨rfl, trivial⟩ ?_
    refine WL.call rfl rfl rfl (Run.call Try.call114 rfl rfl rfl) (c_impl_areArgs _ _ _ _ _ (SlF.st0 f_p.Args hs3) ?_) ?_
    · first | assumption | rfl | omega
    rintro _ whs17 ⟨rfl, hs17⟩
    replace hs17 := hs3.call0 hs17
    refine ⟨_, rfl, ?_⟩
    refine WL.run tbk 1 hs17 [] rfl trivial ?_
    refine WL.pA tbk 4 Acts.nil hs17 [0] rfl rfl rfl rfl (fun g_ => ⟨rfl, trivial⟩) ?_
    refine WL.run tbk 1 hs17 [] rfl trivial ?_
    refine WL.nil ?_
    refine WC.ret ?_
    refine ibR (tkR ?_)
    clear hK4
    refine retV1 rfl (resV.tmp rfl) ?_
    refine ⟨congrArg Ending.returned ?_, hs17.nil⟩
    rw [vpOk_csi (.inl (by show p.State = 2; omega)), e2]; rfl
   ·refine WC.region ?_
    refine WL.run tbk 2 hs3 [] rfl trivial ?_
    refine WL.nil ?_
    refine hK14 _ _ ?_
    refine WC.cD rfl (fun qh18 => ?_) (fun qh18 => ?_)
    ·refine WC.sr ?_
     refine WL.run tbk 2 hs3 [0] rfl ⟨rfl, trivial⟩ ?_
     refine WL.call rfl rfl rfl (Run.call Try.call114 rfl rfl rfl) (c_impl_areArgs _ _ _ _ _ (SlF.st0 f_p.Args hs3) ?_) ?_
     · first | assumption | rfl | omega
     rintro _ whs19 ⟨rfl, hs19⟩
     replace hs19 := hs3.call0 hs19
     refine ⟨_, rfl, ?_⟩
     refine WL.run tbk 1 hs19 [] rfl trivial ?_
     refine WL.pA tbk 4 Acts.nil hs19 [0] rfl rfl rfl rfl (fun g_ => ⟨rfl, trivial⟩) ?_
     refine WL.run tbk 1 hs19 [] rfl trivial ?_
     refine WL.nil ?_
     refine WC.ret ?_
     refine ibR (tkR ?_)
     clear hK4
     refine retV1 rfl (resV.tmp rfl) ?_
     refine ⟨congrArg Ending.returned ?_, hs19.nil⟩
     rw [vpOk_csi (.inr (by show p.State = 3; omega)), e2]; rfl
    ·refine WC.skip ?_
     refine hK4 _ _ ?_
     refine WC.rr tbk hs3 [] rfl trivial ?_
     refine WC.ret ?_
     refine retV1 rfl (resV.tmp rfl) ?_
     refine ⟨congrArg Ending.returned ?_, hs3.nil⟩
     unfold vpOk; rw [if_neg (by show ¬ p.State = 0; omega), if_neg (by show ¬ p.State = 1; omega), if_neg (by show ¬ (p.State = 2 ∨ p.State = 3); omega)]
theorem c_spec_VpOk (p : VpR) (w : World) (f_p : okVpR 549755813888 w p) :
    Calls Try.prog 66 #[.agg #[i64 p.State, .bool p.Mark, .slice p.Args.A p.Args.n p.Args.c, .slice p.Part.A p.Part.n p.Part.c]] w fun e w' => e = .returned (.bool (vpOk p.dat)) ∧ St w [] [] w' := by
 have nb_p_Args := f_p.Args_n
 have nl_p_Args := f_p.Args.len
 have nb_p_Part := f_p.Part_n
 have nl_p_Part := f_p.Part.len
 have hal := f_p.Args.len
 have hpl := f_p.Part.len
 have e1 : decide ((p.Args.n : Int) = 0) = decide (p.dat.Args.length = 0) := by rw [decide_eq_decide]; show _ ↔ p.Args.xs.length = 0; omega
 have e2 : decide ((p.Part.n : Int) = 0) = decide (p.dat.Part.length = 0) := by rw [decide_eq_decide]; show _ ↔ p.Part.xs.length = 0; omega
 refine enter (vs := [.agg #[i64 p.State, .bool p.Mark, .slice p.Args.A p.Args.n p.Args.c, .slice p.Part.A p.Part.n p.Part.c]]) 63 Try.func66 rfl Try.ntmps66 rfl rfl ?_
 have hs1 := St.init w
 refine WC.sr ?_
 refine WL.bx hs1 rfl (fun b2 _ hs3 => ?_)
 refine WL.run tbk 1 hs3 [] rfl trivial ?_
 refine WL.nil ?_
 refine WC.seq (fun K4 hK4 => ?_)
 refine WC.sr ?_
 refine WL.run tbk 4 hs3 [0] rfl ⟨rfl, trivial⟩ ?_
 refine WL.pO tbk 3 Acts.nil hs3 [0] rfl rfl rfl rfl (fun g_ => ⟨rfl, trivial⟩) ?_
 refine WL.run tbk 1 hs3 [] rfl trivial ?_
 refine WL.pO tbk 4 Acts.nil hs3 [0] rfl rfl rfl rfl (fun g_ => ⟨rfl, trivial⟩) ?_
 refine WL.run tbk 1 hs3 [] rfl trivial ?_
 apply WL.gO 14 Acts.nil hs3 rfl
 ·intro g5 J6
  have qg5 := g5
  try simp only [bf, within_iff, within_not] at qg5
  refine WL.runA tbk 2 (Acts.nil.cons (j := 14) rfl g5) hs3 [0] rfl ⟨rfl, trivial⟩ ?_
  refine WL.call (wantF rfl g5) rfl rfl (Run.call Try.call134 rfl rfl rfl) (c_spec_l08Keeps _ _) ?_
  rintro _ whs7 ⟨rfl, hs7⟩
  replace hs7 := hs3.call0 hs7
  refine ⟨_, rfl, ?_⟩
  refine WL.runA tbk 2 (Acts.nil.cons (j := 14) rfl g5) hs7 [] rfl trivial ?_
  apply WL.gA 8 (Acts.nil.cons (j := 14) rfl g5) hs7 rfl
  ·intro g8 J9
   have qg8 := g8
   try simp only [bf, within_iff, within_not] at qg8
   refine WL.runA tbk 3 (Acts.nil.cons (j := 19) rfl g8) hs7 [0] rfl ⟨rfl, trivial⟩ ?_
   refine WL.pO tbk 4 (Acts.nil.cons (j := 19) rfl g8) hs7 [0] rfl rfl rfl rfl (fun g_ => ⟨rfl, trivial⟩) ?_
   exact WL.eA 4 (Acts.nil.cons (j := 14) rfl g5) J9 hs7 g8 rfl rfl
  ·intro _ hs10
   exact WL.eO 6 Acts.nil J6 hs10 g5 rfl rfl
 ·intro _ hs11
  refine WL.nil ?_
  refine WC.cond rfl (fun h12 => ?_) (fun h12 => ?_)
  ·have qh12 := h12
   try simp only [bf, within_iff, within_not] at qh12
   have hbad : vpBad p.dat = true := by unfold vpBad; rw [show p.dat.Args.length = p.Args.n from hal]; exact h12
   refine WC.rr tbk hs11 [] rfl trivial ?_
   refine WC.ret ?_
   refine tkR ?_
   clear hK4
   refine retV1 rfl (resV.tmp rfl) ?_
   refine ⟨congrArg Ending.returned ?_, hs11.nil⟩
   rw [vpOk_bad hbad]
  ·have qh12 := h12
   try simp only [bf, within_iff, within_not] at qh12
   have hbad : vpBad p.dat = false := by unfold vpBad; rw [show p.dat.Args.length = p.Args.n from hal]; exact h12
   refine WC.skip ?_
   refine hK4 _ _ ?_
   refine WC.seq (fun K13 hK13 => ?_)
   refine WC.rr tbk hs11 [0] rfl ⟨rfl, trivial⟩ ?_
   refine WC.block ?_
   refine WC.loopS [(1, _), (34, _), (36, _), (37, _)] ⟨rfl, rfl, rfl, rfl, trivial⟩ hs11 (fun k_ f w' => ∃ (i : Nat), k_ = p.Args.n - i ∧ (i ≤ p.Args.n) ∧ (∀ j, j < i → within (gat encI p.Args.xs j) 0 9999 = true) ∧ Sub [(38, .int .i64 i)] f) ((fun (i : Nat) => p.Args.n - i) (0)) ?_ ?_
   ·refine ⟨0, rfl, ?_, ?_, ⟨rfl, trivial⟩⟩
    · exact Nat.zero_le _
    · exact fun j hj => absurd hj (by omega)
   ·clear hs11
    rintro _ f w ⟨i, rfl, p0, p1, hG⟩ hF hs14
    refine WC.sub _ (hG.app hF) ?_
    clear hG hF
    refine WC.rr tbk hs14 [] rfl trivial ?_
    refine WC.seq (fun K15 hK15 => ?_)
    refine WC.cD rfl (fun qh16 => ?_) (fun qh16 => ?_)
    ·refine WC.skip ?_
     refine hK15 _ _ ?_
     refine WC.seq (fun K17 hK17 => ?_)
     refine WC.block ?_
     refine WC.sr ?_
     refine WL.val rfl rfl rfl (Run.idxN Try.runUnderlying22 Try.sizeOf3 rfl rfl rfl ?_ ?_ ?_) ?_
     · exact SlF.some_ (SlF.st0 f_p.Args hs14)
     · omega
     · omega
     refine WL.val rfl rfl rfl (Run.load Try.isAgg3 rfl rfl (SlF.one1 (SlF.st0 f_p.Args hs14) ?_ rfl)) ?_
     · omega
     refine WL.run tbk 1 hs14 [] rfl trivial ?_
     refine WL.nil ?_
     refine WC.sr ?_
     refine WL.run tbk 3 hs14 [] rfl trivial ?_
     refine WL.pO tbk 2 Acts.nil hs14 [] rfl rfl rfl rfl (fun g_ => trivial) ?_
     refine WL.nil ?_
     refine WC.cond rfl (fun h18 => ?_) (fun h18 => ?_)
     ·have qh18 := h18
      try simp only [bf, within_iff, within_not] at qh18
      refine WC.rr tbk hs14 [] rfl trivial ?_
      refine WC.ret ?_
      refine ibR (tkR (tkR (ibR (tkR ?_))))
      clear hK17 hK13
      refine retV1 rfl (resV.tmp rfl) ?_
      refine ⟨congrArg Ending.returned ?_, hs14.nil⟩
      rw [vpOk_arg (v := p.dat) (j := i) (by show i < p.Args.xs.length; omega) (by rw [← Bool.not_eq_true, within_iff]; show ¬ (0 ≤ gat encI p.Args.xs i ∧ gat encI p.Args.xs i ≤ 9999); simp at qh18; omega)]
     ·have qh18 := h18
      try simp only [bf, within_iff, within_not] at qh18
      refine WC.skip ?_
      refine hK17 _ _ ?_
      refine WC.region ?_
      refine WL.run tbk 2 hs14 [] rfl ⟨by omega, trivial⟩ ?_
      refine WL.nil ?_
      refine tkN ?_
      refine ⟨⟨rfl, rfl, rfl, rfl, trivial⟩, hs14, _, ?_, i + 1, rfl, ?_, ?_, ⟨rfl, trivial⟩⟩
      · omega
      · omega
      · intro j hj; rcases Nat.lt_or_ge j i with h_ | h_
        · exact p1 j h_
        · obtain rfl : j = i := by omega
          rw [within_iff]; simp at qh18; omega
    ·refine WC.exit ?_
     refine hK13 _ _ ?_
     refine WC.sr ?_
     refine WL.run tbk 5 hs14 [0] rfl ⟨rfl, trivial⟩ ?_
     apply WL.gO 8 Acts.nil hs14 rfl
     ·intro g19 J20
      have qg19 := g19
      try simp only [bf, within_iff, within_not] at qg19
      refine WL.runA tbk 4 (Acts.nil.cons (j := 4) rfl g19) hs14 [0] rfl ⟨rfl, trivial⟩ ?_
      apply WL.gA 3 (Acts.nil.cons (j := 4) rfl g19) hs14 rfl
      ·intro g21 J22
       have qg21 := g21
       try simp only [bf, within_iff, within_not] at qg21
       refine WL.runA tbk 2 (Acts.nil.cons (j := 8) rfl g21) hs14 [0] rfl ⟨rfl, trivial⟩ ?_
       refine WL.call (wantT rfl g21) rfl rfl (Run.call Try.call135 rfl rfl rfl) (c_spec_RuneBegin _ _ _ _ _ (SlF.st0 f_p.Part hs14) f_p.Part_c ?_) ?_
       · first | assumption | rfl | omega
       rintro _ whs23 ⟨rfl, hs23⟩
       replace hs23 := hs14.call0 hs23
       refine ⟨_, rfl, ?_⟩
       exact WL.eA 3 (Acts.nil.cons (j := 4) rfl g19) J22 hs23 g21 rfl rfl
      ·intro _ hs24
       exact WL.eO 5 Acts.nil J20 hs24 g19 rfl rfl
     ·intro _ hs25
      refine WL.run tbk 1 hs25 [] rfl trivial ?_
      refine WL.nil ?_
      refine WC.ret ?_
      refine retV1 rfl (resV.tmp rfl) ?_
      refine ⟨congrArg Ending.returned ?_, hs25.nil⟩
      rw [vpOk_end hbad (fun j hj => p1 j (by have : j < p.Args.xs.length := hj; omega)), e2]; rfl
end Go.Proofs.Ytlmcekfdlgkffaa
