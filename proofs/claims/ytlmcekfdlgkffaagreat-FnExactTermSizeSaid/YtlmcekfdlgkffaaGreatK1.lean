/- Walks of Go functions, printed by a program (wip/gen). -/
import Derived.Test.YtlmcekfdlgkffaaGreatG1
namespace Go.Proofs.YtlmcekfdlgkffaaGreat
open Go Go.RowKit
set_option linter.unusedVariables false
set_option linter.unusedSimpArgs false
theorem c_spec_Shows (n : Int) (w : World) :
    Calls Tryz.prog 213 #[i64 n] w fun e w' => e = .returned (.bool (shows n)) ∧ St w [] [] w' := by
 refine enter (vs := [i64 n]) 25 Tryz.func213 rfl Tryz.ntmps213 rfl rfl ?_
 have hs1 := St.init w
 refine WC.rr tbk hs1 [] rfl trivial ?_
 refine WC.sr ?_
 refine WL.run tbk 3 hs1 [] rfl trivial ?_
 refine WL.pA tbk 2 Acts.nil hs1 [] rfl rfl rfl rfl (fun g_ => trivial) ?_
 refine WL.run tbk 1 hs1 [] rfl trivial ?_
 apply WL.gO 14 Acts.nil hs1 rfl
 ·intro g2 J3
  have qg2 := g2
  try simp only [bf, within_iff, within_not] at qg2
  refine WL.runA tbk 3 (Acts.nil.cons (j := 6) rfl g2) hs1 [] rfl trivial ?_
  refine WL.pA tbk 2 (Acts.nil.cons (j := 6) rfl g2) hs1 [] rfl rfl rfl rfl (fun g_ => trivial) ?_
  refine WL.runA tbk 1 (Acts.nil.cons (j := 6) rfl g2) hs1 [] rfl trivial ?_
  apply WL.gA 6 (Acts.nil.cons (j := 6) rfl g2) hs1 rfl
  ·intro g4 J5
   have qg4 := g4
   try simp only [bf, within_iff, within_not] at qg4
   refine WL.runA tbk 3 (Acts.nil.cons (j := 13) rfl g4) hs1 [] rfl trivial ?_
   refine WL.pO tbk 2 (Acts.nil.cons (j := 13) rfl g4) hs1 [] rfl rfl rfl rfl (fun g_ => trivial) ?_
   exact WL.eA 4 (Acts.nil.cons (j := 6) rfl g2) J5 hs1 g4 rfl rfl
  ·intro _ hs6
   exact WL.eO 6 Acts.nil J3 hs6 g2 rfl rfl
 ·intro _ hs7
  refine WL.run tbk 1 hs7 [] rfl trivial ?_
  refine WL.nil ?_
  refine WC.ret ?_
  refine retV1 rfl (resV.tmp rfl) ?_
  refine ⟨congrArg Ending.returned ?_, hs7.nil⟩
  refine congrArg Value.bool ?_; rw [Bool.eq_iff_iff]; simp [shows, within] <;> omega
theorem c_impl_AttrOk (a_Fg : Int) (a_Bg : Int) (a_Bold : Bool) (a_Under : Bool) (a_Turn : Bool) (w : World) :
    Calls Tryz.prog 121 #[.agg #[i64 a_Fg, i64 a_Bg, .bool a_Bold, .bool a_Under, .bool a_Turn]] w fun e w' => e = .returned (.bool (attrOk a_Fg a_Bg)) ∧ St w [] [] w' := by
 refine enter (vs := [.agg #[i64 a_Fg, i64 a_Bg, .bool a_Bold, .bool a_Under, .bool a_Turn]]) 11 Tryz.func121 rfl Tryz.ntmps121 rfl rfl ?_
 have hs1 := St.init w
 refine WC.sr ?_
 refine WL.bx hs1 rfl (fun b2 _ hs3 => ?_)
 refine WL.run tbk 1 hs3 [] rfl trivial ?_
 refine WL.nil ?_
 refine WC.sr ?_
 refine WL.run tbk 2 hs3 [0] rfl ⟨rfl, trivial⟩ ?_
 refine WL.call rfl rfl rfl (Run.call Tryz.call78 rfl rfl rfl) (c_impl_within _ _ _ _) ?_
 rintro _ whs4 ⟨rfl, hs4⟩
 replace hs4 := hs3.call0 hs4
 refine ⟨_, rfl, ?_⟩
 refine WL.run tbk 1 hs4 [] rfl trivial ?_
 apply WL.gA 3 Acts.nil hs4 rfl
 ·intro g5 J6
  have qg5 := g5
  try simp only [bf, within_iff, within_not] at qg5
  refine WL.runA tbk 2 (Acts.nil.cons (j := 3) rfl g5) hs4 [0] rfl ⟨rfl, trivial⟩ ?_
  refine WL.call (wantT rfl g5) rfl rfl (Run.call Tryz.call78 rfl rfl rfl) (c_impl_within _ _ _ _) ?_
  rintro _ whs7 ⟨rfl, hs7⟩
  replace hs7 := hs4.call0 hs7
  refine ⟨_, rfl, ?_⟩
  exact WL.eA 3 Acts.nil J6 hs7 g5 rfl rfl
 ·intro _ hs8
  refine WL.run tbk 1 hs8 [] rfl trivial ?_
  refine WL.nil ?_
  refine WC.ret ?_
  refine retV1 rfl (resV.tmp rfl) ?_
  refine ⟨congrArg Ending.returned ?_, hs8.nil⟩
  rfl
theorem c_spec_AttrOk (a_Fg : Int) (a_Bg : Int) (a_Bold : Bool) (a_Under : Bool) (a_Turn : Bool) (w : World) :
    Calls Tryz.prog 167 #[.agg #[i64 a_Fg, i64 a_Bg, .bool a_Bold, .bool a_Under, .bool a_Turn]] w fun e w' => e = .returned (.bool (attrOk a_Fg a_Bg)) ∧ St w [] [] w' := by
 refine enter (vs := [.agg #[i64 a_Fg, i64 a_Bg, .bool a_Bold, .bool a_Under, .bool a_Turn]]) 21 Tryz.func167 rfl Tryz.ntmps167 rfl rfl ?_
 have hs1 := St.init w
 refine WC.sr ?_
 refine WL.bx hs1 rfl (fun b2 _ hs3 => ?_)
 refine WL.run tbk 1 hs3 [] rfl trivial ?_
 refine WL.nil ?_
 refine WC.sr ?_
 refine WL.run tbk 4 hs3 [0] rfl ⟨rfl, trivial⟩ ?_
 refine WL.pA tbk 3 Acts.nil hs3 [0] rfl rfl rfl rfl (fun g_ => ⟨rfl, trivial⟩) ?_
 refine WL.run tbk 1 hs3 [] rfl trivial ?_
 refine WL.pA tbk 3 Acts.nil hs3 [0] rfl rfl rfl rfl (fun g_ => ⟨rfl, trivial⟩) ?_
 refine WL.run tbk 1 hs3 [] rfl trivial ?_
 refine WL.pA tbk 3 Acts.nil hs3 [0] rfl rfl rfl rfl (fun g_ => ⟨rfl, trivial⟩) ?_
 refine WL.run tbk 1 hs3 [] rfl trivial ?_
 refine WL.nil ?_
 refine WC.ret ?_
 refine retV1 rfl (resV.tmp rfl) ?_
 refine ⟨congrArg Ending.returned ?_, hs3.nil⟩
 simp [attrOk, within, Bool.and_assoc]
theorem c_impl_CellOk (c_R : Int) (c_A_Fg : Int) (c_A_Bg : Int) (c_A_Bold : Bool) (c_A_Under : Bool) (c_A_Turn : Bool) (w : World) :
    Calls Tryz.prog 81 #[.agg #[i64 c_R, i64 c_A_Fg, i64 c_A_Bg, .bool c_A_Bold, .bool c_A_Under, .bool c_A_Turn]] w fun e w' => e = .returned (.bool (cellOk ⟨c_R, ⟨c_A_Fg, c_A_Bg, c_A_Bold, c_A_Under, c_A_Turn⟩⟩)) ∧ St w [] [] w' := by
 refine enter (vs := [.agg #[i64 c_R, i64 c_A_Fg, i64 c_A_Bg, .bool c_A_Bold, .bool c_A_Under, .bool c_A_Turn]]) 11 Tryz.func81 rfl Tryz.ntmps81 rfl rfl ?_
 have hs1 := St.init w
 refine WC.sr ?_
 refine WL.bx hs1 rfl (fun b2 _ hs3 => ?_)
 refine WL.run tbk 1 hs3 [] rfl trivial ?_
 refine WL.nil ?_
 refine WC.sr ?_
 refine WL.run tbk 2 hs3 [0] rfl ⟨rfl, trivial⟩ ?_
 refine WL.call rfl rfl rfl (Run.call Tryz.call163 rfl rfl rfl) (c_impl_Shows _ _) ?_
 rintro _ whs4 ⟨rfl, hs4⟩
 replace hs4 := hs3.call0 hs4
 refine ⟨_, rfl, ?_⟩
 refine WL.run tbk 1 hs4 [] rfl trivial ?_
 apply WL.gA 3 Acts.nil hs4 rfl
 ·intro g5 J6
  have qg5 := g5
  try simp only [bf, within_iff, within_not] at qg5
  refine WL.runA tbk 2 (Acts.nil.cons (j := 3) rfl g5) hs4 [0] rfl ⟨rfl, trivial⟩ ?_
  refine WL.call (wantT rfl g5) rfl rfl (Run.call Tryz.call121 rfl rfl rfl) (c_impl_AttrOk _ _ _ _ _ _) ?_
  rintro _ whs7 ⟨rfl, hs7⟩
  replace hs7 := hs4.call0 hs7
  refine ⟨_, rfl, ?_⟩
  exact WL.eA 3 Acts.nil J6 hs7 g5 rfl rfl
 ·intro _ hs8
  refine WL.run tbk 1 hs8 [] rfl trivial ?_
  refine WL.nil ?_
  refine WC.ret ?_
  refine retV1 rfl (resV.tmp rfl) ?_
  refine ⟨congrArg Ending.returned ?_, hs8.nil⟩
  rfl
theorem c_spec_CellOk (c_R : Int) (c_A_Fg : Int) (c_A_Bg : Int) (c_A_Bold : Bool) (c_A_Under : Bool) (c_A_Turn : Bool) (w : World) :
    Calls Tryz.prog 227 #[.agg #[i64 c_R, i64 c_A_Fg, i64 c_A_Bg, .bool c_A_Bold, .bool c_A_Under, .bool c_A_Turn]] w fun e w' => e = .returned (.bool (cellOk ⟨c_R, ⟨c_A_Fg, c_A_Bg, c_A_Bold, c_A_Under, c_A_Turn⟩⟩)) ∧ St w [] [] w' := by
 refine enter (vs := [.agg #[i64 c_R, i64 c_A_Fg, i64 c_A_Bg, .bool c_A_Bold, .bool c_A_Under, .bool c_A_Turn]]) 11 Tryz.func227 rfl Tryz.ntmps227 rfl rfl ?_
 have hs1 := St.init w
 refine WC.sr ?_
 refine WL.bx hs1 rfl (fun b2 _ hs3 => ?_)
 refine WL.run tbk 1 hs3 [] rfl trivial ?_
 refine WL.nil ?_
 refine WC.sr ?_
 refine WL.run tbk 2 hs3 [0] rfl ⟨rfl, trivial⟩ ?_
 refine WL.call rfl rfl rfl (Run.call Tryz.call213 rfl rfl rfl) (c_spec_Shows _ _) ?_
 rintro _ whs4 ⟨rfl, hs4⟩
 replace hs4 := hs3.call0 hs4
 refine ⟨_, rfl, ?_⟩
 refine WL.run tbk 1 hs4 [] rfl trivial ?_
 apply WL.gA 3 Acts.nil hs4 rfl
 ·intro g5 J6
  have qg5 := g5
  try simp only [bf, within_iff, within_not] at qg5
  refine WL.runA tbk 2 (Acts.nil.cons (j := 3) rfl g5) hs4 [0] rfl ⟨rfl, trivial⟩ ?_
  refine WL.call (wantT rfl g5) rfl rfl (Run.call Tryz.call167 rfl rfl rfl) (c_spec_AttrOk _ _ _ _ _ _) ?_
  rintro _ whs7 ⟨rfl, hs7⟩
  replace hs7 := hs4.call0 hs7
  refine ⟨_, rfl, ?_⟩
  exact WL.eA 3 Acts.nil J6 hs7 g5 rfl rfl
 ·intro _ hs8
  refine WL.run tbk 1 hs8 [] rfl trivial ?_
  refine WL.nil ?_
  refine WC.ret ?_
  refine retV1 rfl (resV.tmp rfl) ?_
  refine ⟨congrArg Ending.returned ?_, hs8.nil⟩
  rfl
theorem c_impl_areCells_1 (c_R : Int) (c_A_Fg : Int) (c_A_Bg : Int) (c_A_Bold : Bool) (c_A_Under : Bool) (c_A_Turn : Bool) (w : World) :
    Calls Tryz.prog 161 #[.agg #[i64 c_R, i64 c_A_Fg, i64 c_A_Bg, .bool c_A_Bold, .bool c_A_Under, .bool c_A_Turn]] w fun e w' => e = .returned (.bool (!cellOk ⟨c_R, ⟨c_A_Fg, c_A_Bg, c_A_Bold, c_A_Under, c_A_Turn⟩⟩)) ∧ St w [] [] w' := by
 refine enter (vs := [.agg #[i64 c_R, i64 c_A_Fg, i64 c_A_Bg, .bool c_A_Bold, .bool c_A_Under, .bool c_A_Turn]]) 6 Tryz.func161 rfl Tryz.ntmps161 rfl rfl ?_
 have hs1 := St.init w
 refine WC.sr ?_
 refine WL.bx hs1 rfl (fun b2 _ hs3 => ?_)
 refine WL.run tbk 1 hs3 [] rfl trivial ?_
 refine WL.nil ?_
 refine WC.sr ?_
 refine WL.run tbk 1 hs3 [0] rfl ⟨rfl, trivial⟩ ?_
 refine WL.call rfl rfl rfl (Run.call Tryz.call81 rfl rfl rfl) (c_impl_CellOk _ _ _ _ _ _ _) ?_
 rintro _ whs4 ⟨rfl, hs4⟩
 replace hs4 := hs3.call0 hs4
 refine ⟨_, rfl, ?_⟩
 refine WL.run tbk 2 hs4 [] rfl trivial ?_
 refine WL.nil ?_
 refine WC.ret ?_
 refine retV1 rfl (resV.tmp rfl) ?_
 refine ⟨congrArg Ending.returned ?_, hs4.nil⟩
 rfl
theorem c_slices_IndexFunc_impl_Cell_impl_Cell (A_s : Option Addr) (n_s c_s : Nat) (s : List CellD) (w : World) (f_s : SlF encCell w A_s n_s s) (hn : n_s ≤ 1099511627776) :
    Calls Tryz.prog 229 #[.slice A_s n_s c_s, .func (.func 161) #[] #[]] w fun e w' => e = .returned (.int .i64 (findI (fun c => !cellOk c) s)) ∧ St w [] [] w' := by
 refine enter (vs := [.slice A_s n_s c_s, .func (.func 161) #[] #[]]) 19 Tryz.func229 rfl Tryz.ntmps229 rfl rfl ?_
 have hs1 := St.init w
 refine WC.rr tbk hs1 [] rfl trivial ?_
 refine WC.seq (fun K2 hK2 => ?_)
 refine WC.rr tbk hs1 [] rfl trivial ?_
 refine WC.block ?_
 refine WC.loopS [(0, _), (1, _), (6, _), (7, _)] ⟨rfl, rfl, rfl, rfl, trivial⟩ hs1 (fun k_ f w' => ∃ (i : Nat), k_ = n_s - i ∧ (i ≤ n_s) ∧ (∀ j, j < i → (fun c => !cellOk c) (gat encCell s j) = false) ∧ Sub [(8, .int .i64 i)] f) ((fun (i : Nat) => n_s - i) (0)) ?_ ?_
 ·refine ⟨0, rfl, ?_, ?_, ⟨rfl, trivial⟩⟩
  · exact Nat.zero_le _
  · exact fun j hj => absurd hj (by omega)
 ·clear hs1
  rintro _ f w ⟨i, rfl, p0, p1, hG⟩ hF hs3
  refine WC.sub _ (hG.app hF) ?_
  clear hG hF
  refine WC.rr tbk hs3 [] rfl trivial ?_
  refine WC.seq (fun K4 hK4 => ?_)
  refine WC.cond rfl (fun h5 => ?_) (fun h5 => ?_)
  ·have qh5 := h5
   try simp only [decide_eq_true_eq, decide_eq_false_iff_not] at qh5
   refine WC.skip ?_
   refine hK4 _ _ ?_
   refine WC.seq (fun K6 hK6 => ?_)
   refine WC.block ?_
   refine WC.rr tbk hs3 [] rfl trivial ?_
   refine WC.sr ?_
   refine WL.run tbk 3 hs3 [] rfl trivial ?_
   refine WL.val rfl rfl rfl (Run.idxN Tryz.runUnderlying38 Tryz.sizeOf65 rfl rfl rfl ?_ ?_ ?_) ?_
   · exact SlF.some_ (SlF.st0 f_s hs3)
   · omega
   · omega
   refine WL.val rfl rfl rfl (Run.loadA Tryz.isAgg65 Tryz.sizeOf65 rfl rfl (SlF.whole (SlF.st0 f_s hs3) ?_)) ?_
   · omega
   refine WL.call rfl rfl rfl (Run.call Tryz.call161 rfl rfl rfl) (c_impl_areCells_1 _ _ _ _ _ _ _) ?_
   rintro _ whs7 ⟨rfl, hs7⟩
   replace hs7 := hs3.call0 hs7
   refine ⟨_, rfl, ?_⟩
   refine WL.nil ?_
   refine WC.cond rfl (fun h8 => ?_) (fun h8 => ?_)
   ·have qh8 := h8
    try simp only [decide_eq_true_eq, decide_eq_false_iff_not] at qh8
    refine WC.rr tbk hs7 [] rfl trivial ?_
    refine WC.ret ?_
    refine ibR (tkR (tkR (ibR (tkR ?_))))
    clear hK6 hK2
    refine retV1 rfl (resV.tmp rfl) ?_
    refine ⟨congrArg Ending.returned ?_, hs7.nil⟩
    rw [findI_some (F := encCell) (by rw [f_s.len]; omega) p1 h8]
   ·have qh8 := h8
    try simp only [decide_eq_true_eq, decide_eq_false_iff_not] at qh8
    refine WC.skip ?_
    refine hK6 _ _ ?_
    refine WC.region ?_
    refine WL.run tbk 2 hs7 [] rfl ⟨by omega, trivial⟩ ?_
    refine WL.nil ?_
    refine tkN ?_
    refine ⟨⟨rfl, rfl, rfl, rfl, trivial⟩, hs7, _, ?_, i + 1, rfl, ?_, ?_, ⟨rfl, trivial⟩⟩
    · omega
    · omega
    · intro j hj; rcases Nat.lt_or_ge j i with h_ | h_
      · exact p1 j h_
      · obtain rfl : j = i := by omega
        exact h8
  ·have qh5 := h5
   try simp only [decide_eq_true_eq, decide_eq_false_iff_not] at qh5
   refine WC.exit ?_
   refine hK2 _ _ ?_
   refine WC.rr tbk hs3 [] rfl trivial ?_
   refine WC.ret ?_
   refine retV1 rfl (resV.tmp rfl) ?_
   refine ⟨congrArg Ending.returned ?_, hs3.nil⟩
   rw [findI_none (F := encCell) (fun j hj => p1 j (by rw [f_s.len] at hj; omega))]
theorem c_slices_ContainsFunc_impl_Cell_impl_Cell (A_s : Option Addr) (n_s c_s : Nat) (s : List CellD) (w : World) (f_s : SlF encCell w A_s n_s s) (hn : n_s ≤ 1099511627776) :
    Calls Tryz.prog 160 #[.slice A_s n_s c_s, .func (.func 161) #[] #[]] w fun e w' => e = .returned (.bool (decide (0 ≤ findI (fun c => !cellOk c) s))) ∧ St w [] [] w' := by
 refine enter (vs := [.slice A_s n_s c_s, .func (.func 161) #[] #[]]) 9 Tryz.func160 rfl Tryz.ntmps160 rfl rfl ?_
 have hs1 := St.init w
 refine WC.rr tbk hs1 [] rfl trivial ?_
 refine WC.sr ?_
 refine WL.run tbk 2 hs1 [] rfl trivial ?_
 refine WL.call rfl rfl rfl (Run.call Tryz.call229 rfl rfl rfl) (c_slices_IndexFunc_impl_Cell_impl_Cell _ _ _ _ _ (SlF.st0 f_s hs1) ?_) ?_
 · first | assumption | rfl | omega
 rintro _ whs2 ⟨rfl, hs2⟩
 replace hs2 := hs1.call0 hs2
 refine ⟨_, rfl, ?_⟩
 refine WL.run tbk 2 hs2 [] rfl trivial ?_
 refine WL.nil ?_
 refine WC.ret ?_
 refine retV1 rfl (resV.tmp rfl) ?_
 refine ⟨congrArg Ending.returned ?_, hs2.nil⟩
 rfl
theorem c_impl_areCells (A_l : Option Addr) (n_l c_l : Nat) (l : List CellD) (w : World) (f_l : SlF encCell w A_l n_l l) (hn : n_l ≤ 1099511627776) :
    Calls Tryz.prog 76 #[.slice A_l n_l c_l] w fun e w' => e = .returned (.bool (cellsOk l)) ∧ St w [] [] w' := by
 refine enter (vs := [.slice A_l n_l c_l]) 6 Tryz.func76 rfl Tryz.ntmps76 rfl rfl ?_
 have hs1 := St.init w
 refine WC.rr tbk hs1 [] rfl trivial ?_
 refine WC.sr ?_
 refine WL.run tbk 1 hs1 [] rfl trivial ?_
 refine WL.call rfl rfl rfl (Run.call Tryz.call160 rfl rfl rfl) (c_slices_ContainsFunc_impl_Cell_impl_Cell _ _ _ _ _ (SlF.st0 f_l hs1) ?_) ?_
 · first | assumption | rfl | omega
 rintro _ whs2 ⟨rfl, hs2⟩
 replace hs2 := hs1.call0 hs2
 refine ⟨_, rfl, ?_⟩
 refine WL.run tbk 2 hs2 [] rfl trivial ?_
 refine WL.nil ?_
 refine WC.ret ?_
 refine retV1 rfl (resV.tmp rfl) ?_
 refine ⟨congrArg Ending.returned ?_, hs2.nil⟩
 rw [cellsOk_find]
end Go.Proofs.YtlmcekfdlgkffaaGreat
