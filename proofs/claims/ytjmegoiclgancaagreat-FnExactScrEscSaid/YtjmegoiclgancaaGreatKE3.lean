/-
  What the proof stands on, part 3.
-/
import Derived.Test.YtjmegoiclgancaaGreatKE2
namespace Go.Proofs.YtjmegoiclgancaaGreat
open Go Go.RowKit
set_option linter.unusedVariables false
set_option linter.unusedSimpArgs false
theorem mixed : Tryz.prog.follows .mixedOrders = true := by kernel_rfl
theorem info_3 : Tryz.prog.info? 3 = some Tryz.t3 := by kernel_rfl
theorem info_75 : Tryz.prog.info? 75 = some Tryz.t75 := by kernel_rfl
theorem c_impl_within (n lo hi : Int) (w : World) :
    Calls Tryz.prog 97 #[i64 n, i64 lo, i64 hi] w fun e w' => e = .returned (.bool (within n lo hi)) ∧ St w [] [] w' := by
 refine enter (vs := [i64 n, i64 lo, i64 hi]) 15 Tryz.func97 rfl Tryz.ntmps97 rfl rfl ?_
 have hs1 := St.init w
 refine WC.rr tbk hs1 [] rfl trivial ?_
 refine WC.sr ?_
 refine WL.run tbk 4 hs1 [] rfl trivial ?_
 refine WL.pA tbk 3 Acts.nil hs1 [] rfl rfl rfl rfl (fun g_ => trivial) ?_
 refine WL.run tbk 1 hs1 [] rfl trivial ?_
 refine WL.nil ?_
 refine WC.ret ?_
 refine retV1 rfl (resV.tmp rfl) ?_
 refine ⟨congrArg Ending.returned ?_, hs1.nil⟩
 rfl
theorem c_impl_Shows (n : Int) (w : World) :
    Calls Tryz.prog 171 #[i64 n] w fun e w' => e = .returned (.bool (shows n)) ∧ St w [] [] w' := by
 refine enter (vs := [i64 n]) 14 Tryz.func171 rfl Tryz.ntmps171 rfl rfl ?_
 have hs1 := St.init w
 refine WC.rr tbk hs1 [] rfl trivial ?_
 refine WC.sr ?_
 refine WL.run tbk 1 hs1 [] rfl trivial ?_
 refine WL.call rfl rfl rfl (Run.call Tryz.call97 rfl rfl rfl) (c_impl_within _ _ _ _) ?_
 rintro _ whs2 ⟨rfl, hs2⟩
 replace hs2 := hs1.call0 hs2
 refine ⟨_, rfl, ?_⟩
 refine WL.run tbk 1 hs2 [] rfl trivial ?_
 apply WL.gO 7 Acts.nil hs2 rfl
 ·intro g3 J4
  have qg3 := g3
  try simp only [bf, within_iff, within_not] at qg3
  refine WL.runA tbk 1 (Acts.nil.cons (j := 2) rfl g3) hs2 [] rfl trivial ?_
  refine WL.call (wantF rfl g3) rfl rfl (Run.call Tryz.call97 rfl rfl rfl) (c_impl_within _ _ _ _) ?_
  rintro _ whs5 ⟨rfl, hs5⟩
  replace hs5 := hs2.call0 hs5
  refine ⟨_, rfl, ?_⟩
  refine WL.runA tbk 1 (Acts.nil.cons (j := 2) rfl g3) hs5 [] rfl trivial ?_
  apply WL.gA 3 (Acts.nil.cons (j := 2) rfl g3) hs5 rfl
  ·intro g6 J7
   have qg6 := g6
   try simp only [bf, within_iff, within_not] at qg6
   refine WL.runA tbk 1 (Acts.nil.cons (j := 5) rfl g6) hs5 [] rfl trivial ?_
   refine WL.call (wantT rfl g6) rfl rfl (Run.call Tryz.call97 rfl rfl rfl) (c_impl_within _ _ _ _) ?_
   rintro _ whs8 ⟨rfl, hs8⟩
   replace hs8 := hs5.call0 hs8
   refine ⟨_, rfl, ?_⟩
   refine WL.runA tbk 1 (Acts.nil.cons (j := 5) rfl g6) hs8 [] rfl trivial ?_
   exact WL.eA 3 (Acts.nil.cons (j := 2) rfl g3) J7 hs8 g6 rfl rfl
  ·intro _ hs9
   exact WL.eO 4 Acts.nil J4 hs9 g3 rfl rfl
 ·intro _ hs10
  refine WL.run tbk 1 hs10 [] rfl trivial ?_
  refine WL.nil ?_
  refine WC.ret ?_
  refine retV1 rfl (resV.tmp rfl) ?_
  refine ⟨congrArg Ending.returned ?_, hs10.nil⟩
  rfl
theorem c_laws_toAttr (a_Fg : Int) (a_Bg : Int) (a_Bold : Bool) (a_Under : Bool) (a_Turn : Bool) (w : World) :
    Calls Tryz.prog 72 #[.agg #[i64 a_Fg, i64 a_Bg, .bool a_Bold, .bool a_Under, .bool a_Turn]] w fun e w' => e = .returned (.agg #[i64 a_Fg, i64 a_Bg, .bool a_Bold, .bool a_Under, .bool a_Turn]) ∧ St w [] [] w' := by
 refine enter (vs := [.agg #[i64 a_Fg, i64 a_Bg, .bool a_Bold, .bool a_Under, .bool a_Turn]]) 20 Tryz.func72 rfl Tryz.ntmps72 rfl rfl ?_
 have hs1 := St.init w
 refine WC.sr ?_
 refine WL.bx hs1 rfl (fun b2 _ hs3 => ?_)
 refine WL.al hs3 Tryz.zeroValue30 rfl rfl (fun b4 _ hs5 => ?_)
 refine WL.nil ?_
 refine WC.sr ?_
 refine WL.al hs5 Tryz.zeroValue30 rfl rfl (fun b6 _ hs7 => ?_)
 refine WL.nil ?_
 refine WC.sr ?_
 refine WL.run tbk 3 hs7 [2] rfl ⟨rfl, trivial⟩ ?_
 refine WL.st tbk hs7 0 rfl rfl (fun _ hs8 => ?_)
 refine WL.nil ?_
 refine WC.sr ?_
 refine WL.run tbk 3 hs8 [2] rfl ⟨rfl, trivial⟩ ?_
 refine WL.st tbk hs8 0 rfl rfl (fun _ hs9 => ?_)
 refine WL.nil ?_
 refine WC.sr ?_
 refine WL.run tbk 3 hs9 [2] rfl ⟨rfl, trivial⟩ ?_
 refine WL.st tbk hs9 0 rfl rfl (fun _ hs10 => ?_)
 refine WL.nil ?_
 refine WC.sr ?_
 refine WL.run tbk 3 hs10 [2] rfl ⟨rfl, trivial⟩ ?_
 refine WL.st tbk hs10 0 rfl rfl (fun _ hs11 => ?_)
 refine WL.nil ?_
 refine WC.sr ?_
 refine WL.run tbk 3 hs11 [2] rfl ⟨rfl, trivial⟩ ?_
 refine WL.st tbk hs11 0 rfl rfl (fun _ hs12 => ?_)
 refine WL.nil ?_
 refine WC.sr ?_
 refine WL.run tbk 1 hs12 [0] rfl ⟨rfl, trivial⟩ ?_
 refine WL.st tbk hs12 1 rfl rfl (fun _ hs13 => ?_)
 refine WL.nil ?_
 refine WC.ret ?_
 refine retV1 rfl (resV.cellA tbk hs13 1 rfl rfl rfl rfl) ?_
 refine ⟨congrArg Ending.returned ?_, hs13.nil⟩
 rfl
theorem c_laws_toCell (a_R : Int) (a_A_Fg : Int) (a_A_Bg : Int) (a_A_Bold : Bool) (a_A_Under : Bool) (a_A_Turn : Bool) (w : World) :
    Calls Tryz.prog 205 #[.agg #[i64 a_R, i64 a_A_Fg, i64 a_A_Bg, .bool a_A_Bold, .bool a_A_Under, .bool a_A_Turn]] w fun e w' => e = .returned (.agg #[i64 a_R, i64 a_A_Fg, i64 a_A_Bg, .bool a_A_Bold, .bool a_A_Under, .bool a_A_Turn]) ∧ St w [] [] w' := by
 refine enter (vs := [.agg #[i64 a_R, i64 a_A_Fg, i64 a_A_Bg, .bool a_A_Bold, .bool a_A_Under, .bool a_A_Turn]]) 12 Tryz.func205 rfl Tryz.ntmps205 rfl rfl ?_
 have hs1 := St.init w
 refine WC.sr ?_
 refine WL.bx hs1 rfl (fun b2 _ hs3 => ?_)
 refine WL.al hs3 Tryz.zeroValue75 rfl rfl (fun b4 _ hs5 => ?_)
 refine WL.nil ?_
 refine WC.sr ?_
 refine WL.al hs5 Tryz.zeroValue75 rfl rfl (fun b6 _ hs7 => ?_)
 refine WL.nil ?_
 refine WC.sr ?_
 refine WL.run tbk 3 hs7 [2] rfl ⟨rfl, trivial⟩ ?_
 refine WL.st tbk hs7 0 rfl rfl (fun _ hs8 => ?_)
 refine WL.nil ?_
 refine WC.sr ?_
 refine WL.run tbk 2 hs8 [2] rfl ⟨rfl, trivial⟩ ?_
 refine WL.call rfl rfl rfl (Run.call Tryz.call72 rfl rfl rfl) (c_laws_toAttr _ _ _ _ _ _) ?_
 rintro _ whs9 ⟨rfl, hs9⟩
 replace hs9 := hs8.call0 hs9
 refine ⟨_, rfl, ?_⟩
 refine WL.run tbk 1 hs9 [] rfl trivial ?_
 refine WL.st tbk hs9 0 rfl rfl (fun _ hs10 => ?_)
 refine WL.nil ?_
 refine WC.sr ?_
 refine WL.run tbk 1 hs10 [0] rfl ⟨rfl, trivial⟩ ?_
 refine WL.st tbk hs10 1 rfl rfl (fun _ hs11 => ?_)
 refine WL.nil ?_
 refine WC.ret ?_
 refine retV1 rfl (resV.cellA tbk hs11 1 rfl rfl rfl rfl) ?_
 refine ⟨congrArg Ending.returned ?_, hs11.nil⟩
 rfl
theorem c_laws_eqAttr (a_Fg : Int) (a_Bg : Int) (a_Bold : Bool) (a_Under : Bool) (a_Turn : Bool) (b_Fg : Int) (b_Bg : Int) (b_Bold : Bool) (b_Under : Bool) (b_Turn : Bool) (w : World) (hab : (⟨a_Fg, a_Bg, a_Bold, a_Under, a_Turn⟩ : AttrD) = (⟨b_Fg, b_Bg, b_Bold, b_Under, b_Turn⟩ : AttrD)) :
    Calls Tryz.prog 78 #[.agg #[i64 a_Fg, i64 a_Bg, .bool a_Bold, .bool a_Under, .bool a_Turn], .agg #[i64 b_Fg, i64 b_Bg, .bool b_Bold, .bool b_Under, .bool b_Turn]] w fun e w' => e = .returned (.bool true) ∧ St w [] [] w' := by
 cases hab
 refine enter (vs := [.agg #[i64 a_Fg, i64 a_Bg, .bool a_Bold, .bool a_Under, .bool a_Turn], .agg #[i64 a_Fg, i64 a_Bg, .bool a_Bold, .bool a_Under, .bool a_Turn]]) 30 Tryz.func78 rfl Tryz.ntmps78 rfl rfl ?_
 have hs1 := St.init w
 refine WC.sr ?_
 refine WL.bx hs1 rfl (fun b2 _ hs3 => ?_)
 refine WL.bx hs3 rfl (fun b4 _ hs5 => ?_)
 refine WL.run tbk 1 hs5 [] rfl trivial ?_
 refine WL.nil ?_
 refine WC.seq (fun K6 hK6 => ?_)
 refine WC.rr tbk hs5 [1, 0] rfl ⟨rfl, rfl, trivial⟩ ?_
 refine WC.condF rfl (by simp) ?_
 refine WC.skip ?_
 refine hK6 _ _ ?_
 refine WC.seq (fun K8 hK8 => ?_)
 refine WC.rr tbk hs5 [1, 0] rfl ⟨rfl, rfl, trivial⟩ ?_
 refine WC.condF rfl (by simp) ?_
 refine WC.skip ?_
 refine hK8 _ _ ?_
 refine WC.seq (fun K10 hK10 => ?_)
 refine WC.rr tbk hs5 [1, 0] rfl ⟨rfl, rfl, trivial⟩ ?_
 refine WC.condF rfl (by simp) ?_
 refine WC.skip ?_
 refine hK10 _ _ ?_
 refine WC.seq (fun K12 hK12 => ?_)
 refine WC.rr tbk hs5 [1, 0] rfl ⟨rfl, rfl, trivial⟩ ?_
 refine WC.condF rfl (by simp) ?_
 refine WC.skip ?_
 refine hK12 _ _ ?_
 refine WC.seq (fun K14 hK14 => ?_)
 refine WC.rr tbk hs5 [1, 0] rfl ⟨rfl, rfl, trivial⟩ ?_
 refine WC.condF rfl (by simp) ?_
 refine WC.skip ?_
 refine hK14 _ _ ?_
 refine WC.rr tbk hs5 [] rfl trivial ?_
 refine WC.ret ?_
 refine retV1 rfl (resV.tmp rfl) ?_
 refine ⟨congrArg Ending.returned ?_, hs5.nil⟩
 rfl
theorem c_laws_eqCell (a_R : Int) (a_A_Fg : Int) (a_A_Bg : Int) (a_A_Bold : Bool) (a_A_Under : Bool) (a_A_Turn : Bool) (b_R : Int) (b_A_Fg : Int) (b_A_Bg : Int) (b_A_Bold : Bool) (b_A_Under : Bool) (b_A_Turn : Bool) (w : World) (hab : (⟨a_R, ⟨a_A_Fg, a_A_Bg, a_A_Bold, a_A_Under, a_A_Turn⟩⟩ : CellD) = (⟨b_R, ⟨b_A_Fg, b_A_Bg, b_A_Bold, b_A_Under, b_A_Turn⟩⟩ : CellD)) :
    Calls Tryz.prog 217 #[.agg #[i64 a_R, i64 a_A_Fg, i64 a_A_Bg, .bool a_A_Bold, .bool a_A_Under, .bool a_A_Turn], .agg #[i64 b_R, i64 b_A_Fg, i64 b_A_Bg, .bool b_A_Bold, .bool b_A_Under, .bool b_A_Turn]] w fun e w' => e = .returned (.bool true) ∧ St w [] [] w' := by
 cases hab
 refine enter (vs := [.agg #[i64 a_R, i64 a_A_Fg, i64 a_A_Bg, .bool a_A_Bold, .bool a_A_Under, .bool a_A_Turn], .agg #[i64 a_R, i64 a_A_Fg, i64 a_A_Bg, .bool a_A_Bold, .bool a_A_Under, .bool a_A_Turn]]) 16 Tryz.func217 rfl Tryz.ntmps217 rfl rfl ?_
 have hs1 := St.init w
 refine WC.sr ?_
 refine WL.bx hs1 rfl (fun b2 _ hs3 => ?_)
 refine WL.bx hs3 rfl (fun b4 _ hs5 => ?_)
 refine WL.run tbk 1 hs5 [] rfl trivial ?_
 refine WL.nil ?_
 refine WC.seq (fun K6 hK6 => ?_)
 refine WC.rr tbk hs5 [1, 0] rfl ⟨rfl, rfl, trivial⟩ ?_
 refine WC.condF rfl (by simp) ?_
 refine WC.skip ?_
 refine hK6 _ _ ?_
 refine WC.seq (fun K8 hK8 => ?_)
 refine WC.sr ?_
 refine WL.run tbk 4 hs5 [1, 0] rfl ⟨rfl, rfl, trivial⟩ ?_
 refine WL.call rfl rfl rfl (Run.call Tryz.call78 rfl rfl rfl) (c_laws_eqAttr _ _ _ _ _ _ _ _ _ _ _ ?_) ?_
 · first | assumption | rfl | omega
 rintro _ whs9 ⟨rfl, hs9⟩
 replace hs9 := hs5.call0 hs9
 refine ⟨_, rfl, ?_⟩
 refine WL.run tbk 1 hs9 [] rfl trivial ?_
 refine WL.nil ?_
 refine WC.condF rfl (by simp) ?_
 refine WC.skip ?_
 refine hK8 _ _ ?_
 refine WC.rr tbk hs9 [] rfl trivial ?_
 refine WC.ret ?_
 refine retV1 rfl (resV.tmp rfl) ?_
 refine ⟨congrArg Ending.returned ?_, hs9.nil⟩
 rfl
theorem c_laws_toCellS (A_a : Option Addr) (n_a c_a : Nat) (a : List CellD) (w : World) (f_a : SlF encCell w A_a n_a a) (hn : n_a ≤ 1099511627776) :
    Calls Tryz.prog 148 #[.slice A_a n_a c_a] w fun e w' => ∃ A c L1, e = .returned (.slice A (a).length c) ∧ St w [] L1 w' ∧ OwnF encCell 75 (.slice A (a).length c) (a) L1 := by
 refine enter (vs := [.slice A_a n_a c_a]) 23 Tryz.func148 rfl Tryz.ntmps148 rfl rfl ?_
 have hs1 := St.init w
 refine WC.rr tbk hs1 [] rfl trivial ?_
 refine WC.sr ?_
 refine WL.run tbk 2 hs1 [] rfl trivial ?_
 refine WL.makeF (F := encCell) hs1 Tryz.underlying26 info_75 rfl rfl rfl rfl rfl rfl rfl rfl rfl ?_ ?_ (fun A5 c6 L2 whs3 hs3 ho4 => ?_)
 · have e_ : Tryz.t75.bytes = 32 := rfl
   rw [e_]; omega
 · omega
 refine WL.run tbk 1 hs3 [] rfl trivial ?_
 refine WL.nil ?_
 refine WC.seq (fun K7 hK7 => ?_)
 refine WC.rr tbk hs3 [] rfl trivial ?_
 refine WC.block ?_
 refine WC.loopO [(0, _), (2, _)] ⟨rfl, rfl, trivial⟩ hs3 (fun k_ f L_ => ∃ (i : Nat) (A8 : Option Addr) (c9 : Nat), k_ = n_a - i ∧ (i ≤ n_a) ∧ OwnF encCell 75 (.slice A8 (n_a) c9) (fillG encCell a i) L_ ∧ Sub [(3, .slice A8 (n_a) c9), (4, .int .i64 i)] f) (((fun (i : Nat) => n_a - i) (0))) ?_ ?_
 ·refine ⟨0, _, _, rfl, ?_, (fillG_zero f_a.len ▸ ho4), ⟨rfl, rfl, trivial⟩⟩
  · exact Nat.zero_le _
 ·clear hs3
  rintro _ f w L10 ⟨i, A8, c9, rfl, p0, ho11, hG⟩ hF hs12
  refine WC.sub _ (hG.app hF) ?_
  clear hG hF
  refine WC.seq (fun K13 hK13 => ?_)
  refine WC.rr tbk hs12 [] rfl trivial ?_
  refine WC.cond rfl (fun h14 => ?_) (fun h14 => ?_)
  ·have qh14 := h14
   try simp only [bf, within_iff, within_not] at qh14
   refine WC.skip ?_
   refine hK13 _ _ ?_
   refine WC.seq (fun K15 hK15 => ?_)
   refine WC.block ?_
   refine WC.region ?_
   refine WL.run tbk 4 hs12 [] rfl trivial ?_
   refine WL.val rfl rfl rfl (Run.idxN Tryz.runUnderlying44 Tryz.sizeOf216 rfl rfl rfl ?_ ?_ ?_) ?_
   · exact SlF.some_ (SlF.st0 f_a hs12)
   · omega
   · omega
   refine WL.val rfl rfl rfl (Run.loadA Tryz.isAgg216 Tryz.sizeOf216 rfl rfl (SlF.whole (SlF.st0 f_a hs12) ?_)) ?_
   · omega
   refine WL.call rfl rfl rfl (Run.call Tryz.call205 rfl rfl rfl) (c_laws_toCell _ _ _ _ _ _ _) ?_
   rintro _ whs16 ⟨rfl, hs16⟩
   replace hs16 := hs12.call0 hs16
   refine ⟨_, rfl, ?_⟩
   refine WL.val rfl rfl rfl (Run.idxN Tryz.runUnderlying26 Tryz.sizeOf75 rfl rfl rfl ?_ ?_ ?_) ?_
   · exact SlF.some_ (SlF.ofOwn ho11 (fun p_ hp_ => (hs16.own p_ (List.mem_append_left _ hp_)).1))
   · omega
   · omega
   refine WL.storeF1 (x' := _) hs16 ho11 Tryz.sizeOf75 rfl rfl rfl rfl rfl rfl rfl rfl rfl ?_ rfl (fun L17 whs18 hs18 ho19 _ => ?_)
   · omega
   refine WL.nil ?_
   refine hK15 _ _ ?_
   refine WC.region ?_
   refine WL.run tbk 3 hs18 [] rfl ⟨by omega, trivial⟩ ?_
   refine WL.nil ?_
   refine tkN ?_
   rw [fillG_set (i := i) (by rw [f_a.len]; omega) (by simp) (by simp)] at ho19
   refine ⟨⟨rfl, rfl, trivial⟩, _, hs18, _, ?_, i + 1, _, _, rfl, ?_, ho19, ⟨rfl, rfl, trivial⟩⟩
   · omega
   · omega
  ·have qh14 := h14
   try simp only [bf, within_iff, within_not] at qh14
   refine WC.exit ?_
   refine hK7 _ _ ?_
   refine WC.rr tbk hs12 [] rfl trivial ?_
   refine WC.ret ?_
   refine retV1 rfl (resV.tmp rfl) ?_
   have hx_ := OwnF.eqOf (xs := a) ho11 (fillG_full (by rw [f_a.len]; omega))
   have hy_ := ho11
   rw [hx_] at hy_
   obtain ⟨A_, c_, hz_⟩ := hy_.shape
   exact ⟨A_, c_, _, congrArg Ending.returned hz_, (St.keep1 hs12), hz_ ▸ hy_⟩
theorem c_laws_eqCellS (A_a : Option Addr) (n_a c_a : Nat) (a : List CellD) (A_b : Option Addr) (n_b c_b : Nat) (b : List CellD) (w : World) (f_a : SlF encCell w A_a n_a a) (f_b : SlF encCell w A_b n_b b) (hn : n_a ≤ 1099511627776) (hab : a = b) :
    Calls Tryz.prog 158 #[.slice A_a n_a c_a, .slice A_b n_b c_b] w fun e w' => e = .returned (.bool true) ∧ St w [] [] w' := by
 subst hab
 obtain rfl : n_a = n_b := f_a.len.symm.trans f_b.len
 refine enter (vs := [.slice A_a n_a c_a, .slice A_b n_a c_b]) 27 Tryz.func158 rfl Tryz.ntmps158 rfl rfl ?_
 have hs1 := St.init w
 refine WC.rr tbk hs1 [] rfl trivial ?_
 refine WC.seq (fun K2 hK2 => ?_)
 refine WC.rr tbk hs1 [] rfl trivial ?_
 refine WC.condF rfl (by simp) ?_
 refine WC.skip ?_
 refine hK2 _ _ ?_
 refine WC.seq (fun K4 hK4 => ?_)
 refine WC.rr tbk hs1 [] rfl trivial ?_
 refine WC.block ?_
 refine WC.loopS [(0, _), (1, _), (10, _)] ⟨rfl, rfl, rfl, trivial⟩ hs1 (fun k_ f w' => ∃ (i : Nat), k_ = n_a - i ∧ (i ≤ n_a) ∧ Sub [(5, .int .i64 i)] f) ((fun (i : Nat) => n_a - i) (0)) ?_ ?_
 ·refine ⟨0, rfl, ?_, ⟨rfl, trivial⟩⟩
  · exact Nat.zero_le _
 ·clear hs1
  rintro _ f w ⟨i, rfl, p0, hG⟩ hF hs5
  refine WC.sub _ (hG.app hF) ?_
  clear hG hF
  refine WC.seq (fun K6 hK6 => ?_)
  refine WC.rr tbk hs5 [] rfl trivial ?_
  refine WC.cD rfl (fun qh7 => ?_) (fun qh7 => ?_)
  ·refine WC.skip ?_
   refine hK6 _ _ ?_
   refine WC.seq (fun K8 hK8 => ?_)
   refine WC.block ?_
   refine WC.sq hs5 mixed (by kernel_rfl) ?_
   refine WQ.run tbk 2 [] rfl trivial ?_
   refine WQ.val rfl rfl rfl (fun w_ hs_ => (Run.idxN Tryz.runUnderlying26 Tryz.sizeOf75 rfl rfl rfl ?_ ?_ ?_)) ?_
   · exact SlF.some_ (SlF.st0 f_a (hs_ : St _ _ _ _))
   · omega
   · omega
   refine WQ.val rfl rfl rfl (fun w_ hs_ => (Run.loadA Tryz.isAgg75 Tryz.sizeOf75 rfl rfl (SlF.whole (SlF.st0 f_a (hs_ : St _ _ _ _)) ?_))) ?_
   · omega
   refine WQ.run tbk 2 [] rfl trivial ?_
   refine WQ.val rfl rfl rfl (fun w_ hs_ => (Run.idxN Tryz.runUnderlying26 Tryz.sizeOf75 rfl rfl rfl ?_ ?_ ?_)) ?_
   · exact SlF.some_ (SlF.st0 f_b (hs_ : St _ _ _ _))
   · omega
   · omega
   refine WQ.val rfl rfl rfl (fun w_ hs_ => (Run.loadA Tryz.isAgg75 Tryz.sizeOf75 rfl rfl (SlF.whole (SlF.st0 f_b (hs_ : St _ _ _ _)) ?_))) ?_
   · omega
   refine WQ.call rfl rfl rfl (fun w_ hs_ => (Run.call Tryz.call217 rfl rfl rfl)) (fun w_ hs_ => (c_laws_eqCell _ _ _ _ _ _ _ _ _ _ _ _ _ ?_).mono fun e_ w_ h_ => ⟨h_.1, (hs_ : St _ _ _ _).call0 h_.2⟩) ?_
   · first | assumption | rfl | omega
   refine WQ.run tbk 1 [] rfl trivial ?_
   refine WQ.nil (fun _ (hs9 : St _ _ _ _) => ?_)
   refine WC.condF rfl (by simp) ?_
   refine WC.skip ?_
   refine hK8 _ _ ?_
   refine WC.region ?_
   refine WL.run tbk 3 hs9 [] rfl ⟨by omega, trivial⟩ ?_
   refine WL.nil ?_
   refine tkN ?_
   refine ⟨⟨rfl, rfl, rfl, trivial⟩, hs9, _, ?_, i + 1, rfl, ?_, ⟨rfl, trivial⟩⟩
   · omega
   · omega
  ·refine WC.exit ?_
   refine hK4 _ _ ?_
   refine WC.rr tbk hs5 [] rfl trivial ?_
   refine WC.ret ?_
   refine retV1 rfl (resV.tmp rfl) ?_
   refine ⟨congrArg Ending.returned ?_, hs5.nil⟩
   rfl
theorem c_laws_szCellS (A_a : Option Addr) (n_a c_a : Nat) (a : List CellD) (left : Int) (w : World) (f_a : SlF encCell w A_a n_a a) (h1 : 0 ≤ left) (h2 : left ≤ 1048576) (h3 : n_a ≤ 9223372036854775807) :
    Calls Tryz.prog 136 #[.slice A_a n_a c_a, i64 left] w fun e w' => e = .returned (.int .i64 (szR left n_a)) ∧ St w [] [] w' := by
 refine enter (vs := [.slice A_a n_a c_a, i64 left]) 12 Tryz.func136 rfl Tryz.ntmps136 rfl rfl ?_
 have hs1 := St.init w
 refine WC.rr tbk hs1 [] rfl trivial ?_
 refine WC.rr tbk hs1 [] rfl ⟨by omega, trivial⟩ ?_
 refine WC.seq (fun K2 hK2 => ?_)
 refine WC.rr tbk hs1 [] rfl trivial ?_
 refine WC.cD rfl (fun qh3 => ?_) (fun qh3 => ?_)
 ·refine WC.rr tbk hs1 [] rfl trivial ?_
  refine WC.ret ?_
  refine tkR ?_
  clear hK2
  refine retV1 rfl (resV.tmp rfl) ?_
  refine ⟨congrArg Ending.returned ?_, hs1.nil⟩
  simp only [szR]; rw [if_neg (by omega)]
 ·refine WC.skip ?_
  refine hK2 _ _ ?_
  refine WC.rr tbk hs1 [] rfl trivial ?_
  refine WC.ret ?_
  refine retV1 rfl (resV.tmp rfl) ?_
  refine ⟨congrArg Ending.returned ?_, hs1.nil⟩
  simp only [szR]; rw [if_pos (by omega)]
theorem c_laws_eqIntS (A_a : Option Addr) (n_a c_a : Nat) (a : List Int) (A_b : Option Addr) (n_b c_b : Nat) (b : List Int) (w : World) (f_a : SlF encI w A_a n_a a) (f_b : SlF encI w A_b n_b b) (hn : n_a ≤ 1099511627776) (hab : a = b) :
    Calls Tryz.prog 33 #[.slice A_a n_a c_a, .slice A_b n_b c_b] w fun e w' => e = .returned (.bool true) ∧ St w [] [] w' := by
 subst hab
 obtain rfl : n_a = n_b := f_a.len.symm.trans f_b.len
 refine enter (vs := [.slice A_a n_a c_a, .slice A_b n_a c_b]) 26 Tryz.func33 rfl Tryz.ntmps33 rfl rfl ?_
 have hs1 := St.init w
 refine WC.rr tbk hs1 [] rfl trivial ?_
 refine WC.seq (fun K2 hK2 => ?_)
 refine WC.rr tbk hs1 [] rfl trivial ?_
 refine WC.condF rfl (by simp) ?_
 refine WC.skip ?_
 refine hK2 _ _ ?_
 refine WC.seq (fun K4 hK4 => ?_)
 refine WC.rr tbk hs1 [] rfl trivial ?_
 refine WC.block ?_
 refine WC.loopS [(0, _), (1, _), (10, _)] ⟨rfl, rfl, rfl, trivial⟩ hs1 (fun k_ f w' => ∃ (i : Nat), k_ = n_a - i ∧ (i ≤ n_a) ∧ Sub [(5, .int .i64 i)] f) ((fun (i : Nat) => n_a - i) (0)) ?_ ?_
 ·refine ⟨0, rfl, ?_, ⟨rfl, trivial⟩⟩
  · exact Nat.zero_le _
 ·clear hs1
  rintro _ f w ⟨i, rfl, p0, hG⟩ hF hs5
  refine WC.sub _ (hG.app hF) ?_
  clear hG hF
  refine WC.seq (fun K6 hK6 => ?_)
  refine WC.rr tbk hs5 [] rfl trivial ?_
  refine WC.cD rfl (fun qh7 => ?_) (fun qh7 => ?_)
  ·refine WC.skip ?_
   refine hK6 _ _ ?_
   refine WC.seq (fun K8 hK8 => ?_)
   refine WC.block ?_
   refine WC.sq hs5 mixed (by kernel_rfl) ?_
   refine WQ.run tbk 2 [] rfl trivial ?_
   refine WQ.val rfl rfl rfl (fun w_ hs_ => (Run.idxN Tryz.runUnderlying23 Tryz.sizeOf3 rfl rfl rfl ?_ ?_ ?_)) ?_
   · exact SlF.some_ (SlF.st0 f_a (hs_ : St _ _ _ _))
   · omega
   · omega
   refine WQ.val rfl rfl rfl (fun w_ hs_ => (Run.load Tryz.isAgg3 rfl rfl (SlF.one1 (SlF.st0 f_a (hs_ : St _ _ _ _)) ?_ rfl))) ?_
   · omega
   refine WQ.run tbk 2 [] rfl trivial ?_
   refine WQ.val rfl rfl rfl (fun w_ hs_ => (Run.idxN Tryz.runUnderlying23 Tryz.sizeOf3 rfl rfl rfl ?_ ?_ ?_)) ?_
   · exact SlF.some_ (SlF.st0 f_b (hs_ : St _ _ _ _))
   · omega
   · omega
   refine WQ.val rfl rfl rfl (fun w_ hs_ => (Run.load Tryz.isAgg3 rfl rfl (SlF.one1 (SlF.st0 f_b (hs_ : St _ _ _ _)) ?_ rfl))) ?_
   · omega
   refine WQ.run tbk 1 [] rfl trivial ?_
   refine WQ.nil (fun _ (hs9 : St _ _ _ _) => ?_)
   refine WC.condF rfl (by simp) ?_
   refine WC.skip ?_
   refine hK8 _ _ ?_
   refine WC.region ?_
   refine WL.run tbk 3 hs9 [] rfl ⟨by omega, trivial⟩ ?_
   refine WL.nil ?_
   refine tkN ?_
   refine ⟨⟨rfl, rfl, rfl, trivial⟩, hs9, _, ?_, i + 1, rfl, ?_, ⟨rfl, trivial⟩⟩
   · omega
   · omega
  ·refine WC.exit ?_
   refine hK4 _ _ ?_
   refine WC.rr tbk hs5 [] rfl trivial ?_
   refine WC.ret ?_
   refine retV1 rfl (resV.tmp rfl) ?_
   refine ⟨congrArg Ending.returned ?_, hs5.nil⟩
   rfl
theorem c_laws_szIntS (A_a : Option Addr) (n_a c_a : Nat) (a : List Int) (left : Int) (w : World) (f_a : SlF encI w A_a n_a a) (h1 : 0 ≤ left) (h2 : left ≤ 1048576) (h3 : n_a ≤ 9223372036854775807) :
    Calls Tryz.prog 61 #[.slice A_a n_a c_a, i64 left] w fun e w' => e = .returned (.int .i64 (szR left n_a)) ∧ St w [] [] w' := by
 refine enter (vs := [.slice A_a n_a c_a, i64 left]) 12 Tryz.func61 rfl Tryz.ntmps61 rfl rfl ?_
 have hs1 := St.init w
 refine WC.rr tbk hs1 [] rfl trivial ?_
 refine WC.rr tbk hs1 [] rfl ⟨by omega, trivial⟩ ?_
 refine WC.seq (fun K2 hK2 => ?_)
 refine WC.rr tbk hs1 [] rfl trivial ?_
 refine WC.cD rfl (fun qh3 => ?_) (fun qh3 => ?_)
 ·refine WC.rr tbk hs1 [] rfl trivial ?_
  refine WC.ret ?_
  refine tkR ?_
  clear hK2
  refine retV1 rfl (resV.tmp rfl) ?_
  refine ⟨congrArg Ending.returned ?_, hs1.nil⟩
  simp only [szR]; rw [if_neg (by omega)]
 ·refine WC.skip ?_
  refine hK2 _ _ ?_
  refine WC.rr tbk hs1 [] rfl trivial ?_
  refine WC.ret ?_
  refine retV1 rfl (resV.tmp rfl) ?_
  refine ⟨congrArg Ending.returned ?_, hs1.nil⟩
  simp only [szR]; rw [if_pos (by omega)]
theorem c_laws_toIntS (A_a : Option Addr) (n_a c_a : Nat) (a : List Int) (w : World) (f_a : SlF encI w A_a n_a a) (hn : n_a ≤ 1099511627776) :
    Calls Tryz.prog 31 #[.slice A_a n_a c_a] w fun e w' => ∃ A c L1, e = .returned (.slice A (a).length c) ∧ St w [] L1 w' ∧ OwnF encI 3 (.slice A (a).length c) (a) L1 := by
 refine enter (vs := [.slice A_a n_a c_a]) 22 Tryz.func31 rfl Tryz.ntmps31 rfl rfl ?_
 have hs1 := St.init w
 refine WC.rr tbk hs1 [] rfl trivial ?_
 refine WC.sr ?_
 refine WL.run tbk 2 hs1 [] rfl trivial ?_
 refine WL.makeF (F := encI) hs1 Tryz.underlying23 info_3 rfl rfl rfl rfl rfl rfl rfl rfl rfl ?_ ?_ (fun A5 c6 L2 whs3 hs3 ho4 => ?_)
 · have e_ : Tryz.t3.bytes = 8 := rfl
   rw [e_]; omega
 · omega
 refine WL.run tbk 1 hs3 [] rfl trivial ?_
 refine WL.nil ?_
 refine WC.seq (fun K7 hK7 => ?_)
 refine WC.rr tbk hs3 [] rfl trivial ?_
 refine WC.block ?_
 refine WC.loopO [(0, _), (2, _)] ⟨rfl, rfl, trivial⟩ hs3 (fun k_ f L_ => ∃ (i : Nat) (A8 : Option Addr) (c9 : Nat), k_ = n_a - i ∧ (i ≤ n_a) ∧ OwnF encI 3 (.slice A8 (n_a) c9) (fillG encI a i) L_ ∧ Sub [(3, .slice A8 (n_a) c9), (4, .int .i64 i)] f) (((fun (i : Nat) => n_a - i) (0))) ?_ ?_
 ·refine ⟨0, _, _, rfl, ?_, (fillG_zero f_a.len ▸ ho4), ⟨rfl, rfl, trivial⟩⟩
  · exact Nat.zero_le _
 ·clear hs3
  rintro _ f w L10 ⟨i, A8, c9, rfl, p0, ho11, hG⟩ hF hs12
  refine WC.sub _ (hG.app hF) ?_
  clear hG hF
  refine WC.seq (fun K13 hK13 => ?_)
  refine WC.rr tbk hs12 [] rfl trivial ?_
  refine WC.cond rfl (fun h14 => ?_) (fun h14 => ?_)
  ·have qh14 := h14
   try simp only [bf, within_iff, within_not] at qh14
   refine WC.skip ?_
   refine hK13 _ _ ?_
   refine WC.seq (fun K15 hK15 => ?_)
   refine WC.block ?_
   refine WC.region ?_
   refine WL.run tbk 4 hs12 [] rfl trivial ?_
   refine WL.val rfl rfl rfl (Run.idxN Tryz.runUnderlying23 Tryz.sizeOf3 rfl rfl rfl ?_ ?_ ?_) ?_
   · exact SlF.some_ (SlF.st0 f_a hs12)
   · omega
   · omega
   refine WL.val rfl rfl rfl (Run.load Tryz.isAgg3 rfl rfl (SlF.one1 (SlF.st0 f_a hs12) ?_ rfl)) ?_
   · omega
   refine WL.val rfl rfl rfl (Run.idxN Tryz.runUnderlying23 Tryz.sizeOf3 rfl rfl rfl ?_ ?_ ?_) ?_
   · exact SlF.some_ (SlF.ofOwn ho11 (fun p_ hp_ => (hs12.own p_ (List.mem_append_left _ hp_)).1))
   · omega
   · omega
   refine WL.storeF1 (x' := _) hs12 ho11 Tryz.sizeOf3 rfl rfl rfl rfl rfl rfl rfl rfl rfl ?_ rfl (fun L16 whs17 hs17 ho18 _ => ?_)
   · omega
   refine WL.nil ?_
   refine hK15 _ _ ?_
   refine WC.region ?_
   refine WL.run tbk 3 hs17 [] rfl ⟨by omega, trivial⟩ ?_
   refine WL.nil ?_
   refine tkN ?_
   rw [fillG_set (i := i) (by rw [f_a.len]; omega) (by simp) (by simp)] at ho18
   refine ⟨⟨rfl, rfl, trivial⟩, _, hs17, _, ?_, i + 1, _, _, rfl, ?_, ho18, ⟨rfl, rfl, trivial⟩⟩
   · omega
   · omega
  ·have qh14 := h14
   try simp only [bf, within_iff, within_not] at qh14
   refine WC.exit ?_
   refine hK7 _ _ ?_
   refine WC.rr tbk hs12 [] rfl trivial ?_
   refine WC.ret ?_
   refine retV1 rfl (resV.tmp rfl) ?_
   have hx_ := OwnF.eqOf (xs := a) ho11 (fillG_full (by rw [f_a.len]; omega))
   have hy_ := ho11
   rw [hx_] at hy_
   obtain ⟨A_, c_, hz_⟩ := hy_.shape
   exact ⟨A_, c_, _, congrArg Ending.returned hz_, (St.keep1 hs12), hz_ ▸ hy_⟩
theorem c_laws_markCellS (v_a : Value) (a : List CellD) (L_a : Hp) (k : Int) (w : World) (o_a : OwnF encCell 75 v_a a L_a) (h_a : ∀ p, p ∈ L_a → w.heap[p.1]? = some p.2) (h1 : 0 ≤ k) (h2 : k ≤ 1099511627776) (h3 : a.length ≤ 1099511627776) :
    Calls Tryz.prog 160 #[v_a, i64 k] w fun e w' => ∃ L1, e = .returned (.int .i64 (k + 6 * a.length)) ∧ St w (L_a.map (·.1)) L1 w' ∧ OwnF encCell 75 v_a (marks mkCell 6 k a.length) L1 := by
 obtain ⟨A_a, c_a, rfl⟩ := o_a.shape
 refine enter (vs := [.slice A_a a.length c_a, i64 k]) 66 Tryz.func160 rfl Tryz.ntmps160 rfl rfl ?_
 have hs1 := St.lent1 w L_a o_a h_a
 refine WC.rr tbk hs1 [] rfl trivial ?_
 refine WC.seq (fun K2 hK2 => ?_)
 refine WC.rr tbk hs1 [] rfl trivial ?_
 refine WC.block ?_
 refine WC.loopO [(4, _)] ⟨rfl, trivial⟩ hs1 (fun k_ f L_ => ∃ (i : Nat) (q : Int), k_ = a.length - i ∧ (i ≤ a.length) ∧ (q = k + 6 * i) ∧ OwnF encCell 75 (.slice A_a (a.length) c_a) (fillM mkCell 6 k a i) L_ ∧ Sub [(0, .slice A_a (a.length) c_a), (5, .int .i64 i), (1, .int .i64 q)] f) (((fun (i : Nat) (q : Int) => a.length - i) (0) (k))) ?_ ?_
 ·refine ⟨0, k, rfl, ?_, ?_, (fillM_zero.symm ▸ o_a), ⟨rfl, rfl, rfl, trivial⟩⟩
  · exact Nat.zero_le _
  · simp
 ·clear hs1
  rintro _ f w L5 ⟨i, q, rfl, p0, p1, ho6, hG⟩ hF hs7
  refine WC.sub _ (hG.app hF) ?_
  clear hG hF
  have hfl : (fillM mkCell 6 k a i).length = a.length := fillM_len p0
  have hq : k + ((6 : Nat) : Int) * (i : Int) = q := by omega
  refine WC.seq (fun K8 hK8 => ?_)
  refine WC.rr tbk hs7 [] rfl trivial ?_
  refine WC.cond rfl (fun h9 => ?_) (fun h9 => ?_)
  ·have qh9 := h9
   try simp only [bf, within_iff, within_not] at qh9
   refine WC.skip ?_
   refine hK8 _ _ ?_
   refine WC.seq (fun K10 hK10 => ?_)
   refine WC.block ?_
   refine WC.sr ?_
   refine WL.run tbk 3 hs7 [] rfl trivial ?_
   refine WL.val rfl rfl rfl (Run.idxN Tryz.runUnderlying26 Tryz.sizeOf75 rfl rfl rfl ?_ ?_ ?_) ?_
   · exact SlF.some_ (SlF.ofOwn ho6 (fun p_ hp_ => (hs7.own p_ (List.mem_append_left _ hp_)).1))
   · omega
   · omega
   refine WL.val rfl rfl rfl (Run.fieldO Tryz.runUnderlying75 rfl rfl rfl Tryz.sizeOf3 rfl) ?_
   refine WL.storeF (x' := ⟨q, ⟨(gat encCell (fillM mkCell 6 k a i) i).A.Fg, (gat encCell (fillM mkCell 6 k a i) i).A.Bg, (gat encCell (fillM mkCell 6 k a i) i).A.Bold, (gat encCell (fillM mkCell 6 k a i) i).A.Under, (gat encCell (fillM mkCell 6 k a i) i).A.Turn⟩⟩) hs7 ho6 Tryz.sizeOf3 rfl rfl rfl rfl rfl rfl rfl rfl rfl ?_ (by first | rfl | (rw [gat_set (by (try simp only [List.length_set]); omega) rfl]; rfl)) (fun L11 whs12 hs12 ho13 _ => ?_)
   · omega
   refine WL.nil ?_
   refine WC.rr tbk hs12 [] rfl ⟨by omega, trivial⟩ ?_
   refine WC.sr ?_
   refine WL.run tbk 3 hs12 [] rfl trivial ?_
   refine WL.val rfl rfl rfl (Run.idxN Tryz.runUnderlying26 Tryz.sizeOf75 rfl rfl rfl ?_ ?_ ?_) ?_
   · exact SlF.some_ (SlF.ofOwn ho13 (fun p_ hp_ => (hs12.own p_ (List.mem_append_left _ hp_)).1))
   · omega
   · omega
   refine WL.val rfl rfl rfl (Run.fieldO Tryz.runUnderlying75 rfl rfl rfl Tryz.sizeOf30 rfl) ?_
   refine WL.val rfl rfl rfl (Run.fieldE Tryz.runUnderlying30 rfl rfl rfl Tryz.sizeOf3 rfl) ?_
   refine WL.storeF (x' := ⟨q, ⟨(q + 1), (gat encCell (fillM mkCell 6 k a i) i).A.Bg, (gat encCell (fillM mkCell 6 k a i) i).A.Bold, (gat encCell (fillM mkCell 6 k a i) i).A.Under, (gat encCell (fillM mkCell 6 k a i) i).A.Turn⟩⟩) hs12 ho13 Tryz.sizeOf3 rfl rfl rfl rfl rfl rfl rfl rfl rfl ?_ (by first | rfl | (rw [gat_set (by (try simp only [List.length_set]); omega) rfl]; rfl)) (fun L14 whs15 hs15 ho16 _ => ?_)
   · omega
   refine WL.nil ?_
   refine WC.rr tbk hs15 [] rfl ⟨by omega, trivial⟩ ?_
   refine WC.sr ?_
   refine WL.run tbk 3 hs15 [] rfl trivial ?_
   refine WL.val rfl rfl rfl (Run.idxN Tryz.runUnderlying26 Tryz.sizeOf75 rfl rfl rfl ?_ ?_ ?_) ?_
   · exact SlF.some_ (SlF.ofOwn ho16 (fun p_ hp_ => (hs15.own p_ (List.mem_append_left _ hp_)).1))
   · omega
   · omega
   refine WL.val rfl rfl rfl (Run.fieldO Tryz.runUnderlying75 rfl rfl rfl Tryz.sizeOf30 rfl) ?_
   refine WL.val rfl rfl rfl (Run.fieldE Tryz.runUnderlying30 rfl rfl rfl Tryz.sizeOf3 rfl) ?_
   refine WL.storeF (x' := ⟨q, ⟨(q + 1), (q + 1 + 1), (gat encCell (fillM mkCell 6 k a i) i).A.Bold, (gat encCell (fillM mkCell 6 k a i) i).A.Under, (gat encCell (fillM mkCell 6 k a i) i).A.Turn⟩⟩) hs15 ho16 Tryz.sizeOf3 rfl rfl rfl rfl rfl rfl rfl rfl rfl ?_ (by first | rfl | (rw [gat_set (by (try simp only [List.length_set]); omega) rfl]; rfl)) (fun L17 whs18 hs18 ho19 _ => ?_)
   · omega
   refine WL.nil ?_
   refine WC.rr tbk hs18 [] rfl ⟨by omega, trivial⟩ ?_
   refine WC.sr ?_
   refine WL.run tbk 3 hs18 [] rfl trivial ?_
   refine WL.val rfl rfl rfl (Run.rem rfl rfl rfl ?_ ?_) ?_
   · omega
   · omega
   refine WL.run tbk 1 hs18 [] rfl trivial ?_
   refine WL.val rfl rfl rfl (Run.idxN Tryz.runUnderlying26 Tryz.sizeOf75 rfl rfl rfl ?_ ?_ ?_) ?_
   · exact SlF.some_ (SlF.ofOwn ho19 (fun p_ hp_ => (hs18.own p_ (List.mem_append_left _ hp_)).1))
   · omega
   · omega
   refine WL.val rfl rfl rfl (Run.fieldO Tryz.runUnderlying75 rfl rfl rfl Tryz.sizeOf30 rfl) ?_
   refine WL.val rfl rfl rfl (Run.fieldE Tryz.runUnderlying30 rfl rfl rfl Tryz.sizeOf4 rfl) ?_
   refine WL.storeF (x' := ⟨q, ⟨(q + 1), (q + 1 + 1), decide ((q + 1 + 1 + 1) % 3 = 0), (gat encCell (fillM mkCell 6 k a i) i).A.Under, (gat encCell (fillM mkCell 6 k a i) i).A.Turn⟩⟩) hs18 ho19 Tryz.sizeOf4 rfl rfl rfl rfl rfl rfl rfl rfl rfl ?_ (by first | rfl | (rw [gat_set (by (try simp only [List.length_set]); omega) rfl]; rfl)) (fun L20 whs21 hs21 ho22 _ => ?_)
   · omega
   refine WL.nil ?_
   refine WC.rr tbk hs21 [] rfl ⟨by omega, trivial⟩ ?_
   refine WC.sr ?_
   refine WL.run tbk 3 hs21 [] rfl trivial ?_
   refine WL.val rfl rfl rfl (Run.rem rfl rfl rfl ?_ ?_) ?_
   · omega
   · omega
   refine WL.run tbk 1 hs21 [] rfl trivial ?_
   refine WL.val rfl rfl rfl (Run.idxN Tryz.runUnderlying26 Tryz.sizeOf75 rfl rfl rfl ?_ ?_ ?_) ?_
   · exact SlF.some_ (SlF.ofOwn ho22 (fun p_ hp_ => (hs21.own p_ (List.mem_append_left _ hp_)).1))
   · omega
   · omega
   refine WL.val rfl rfl rfl (Run.fieldO Tryz.runUnderlying75 rfl rfl rfl Tryz.sizeOf30 rfl) ?_
   refine WL.val rfl rfl rfl (Run.fieldE Tryz.runUnderlying30 rfl rfl rfl Tryz.sizeOf4 rfl) ?_
   refine WL.storeF (x' := ⟨q, ⟨(q + 1), (q + 1 + 1), decide ((q + 1 + 1 + 1) % 3 = 0), decide ((q + 1 + 1 + 1 + 1) % 3 = 0), (gat encCell (fillM mkCell 6 k a i) i).A.Turn⟩⟩) hs21 ho22 Tryz.sizeOf4 rfl rfl rfl rfl rfl rfl rfl rfl rfl ?_ (by first | rfl | (rw [gat_set (by (try simp only [List.length_set]); omega) rfl]; rfl)) (fun L23 whs24 hs24 ho25 _ => ?_)
   · omega
   refine WL.nil ?_
   refine WC.rr tbk hs24 [] rfl ⟨by omega, trivial⟩ ?_
   refine WC.sr ?_
   refine WL.run tbk 3 hs24 [] rfl trivial ?_
   refine WL.val rfl rfl rfl (Run.rem rfl rfl rfl ?_ ?_) ?_
   · omega
   · omega
   refine WL.run tbk 1 hs24 [] rfl trivial ?_
   refine WL.val rfl rfl rfl (Run.idxN Tryz.runUnderlying26 Tryz.sizeOf75 rfl rfl rfl ?_ ?_ ?_) ?_
   · exact SlF.some_ (SlF.ofOwn ho25 (fun p_ hp_ => (hs24.own p_ (List.mem_append_left _ hp_)).1))
   · omega
   · omega
   refine WL.val rfl rfl rfl (Run.fieldO Tryz.runUnderlying75 rfl rfl rfl Tryz.sizeOf30 rfl) ?_
   refine WL.val rfl rfl rfl (Run.fieldE Tryz.runUnderlying30 rfl rfl rfl Tryz.sizeOf4 rfl) ?_
   refine WL.storeF (x' := ⟨q, ⟨(q + 1), (q + 1 + 1), decide ((q + 1 + 1 + 1) % 3 = 0), decide ((q + 1 + 1 + 1 + 1) % 3 = 0), decide ((q + 1 + 1 + 1 + 1 + 1) % 3 = 0)⟩⟩) hs24 ho25 Tryz.sizeOf4 rfl rfl rfl rfl rfl rfl rfl rfl rfl ?_ (by first | rfl | (rw [gat_set (by (try simp only [List.length_set]); omega) rfl]; rfl)) (fun L26 whs27 hs27 ho28 _ => ?_)
   · omega
   refine WL.nil ?_
   refine WC.region ?_
   refine WL.run tbk 3 hs27 [] rfl ⟨by omega, trivial⟩ ?_
   refine WL.nil ?_
   refine hK10 _ _ ?_
   refine WC.region ?_
   refine WL.run tbk 3 hs27 [] rfl ⟨by omega, trivial⟩ ?_
   refine WL.nil ?_
   refine tkN ?_
   try simp only [List.set_set] at ho28
   rw [fillM_set (i := i) (by omega) (by rw [hq]; rfl) (by simp)] at ho28
   refine ⟨⟨rfl, trivial⟩, _, hs27, _, ?_, i + 1, _, rfl, ?_, ?_, ho28, ⟨rfl, rfl, rfl, trivial⟩⟩
   · omega
   · omega
   · omega
  ·have qh9 := h9
   try simp only [bf, within_iff, within_not] at qh9
   refine WC.exit ?_
   refine hK2 _ _ ?_
   refine WC.rr tbk hs7 [] rfl trivial ?_
   refine WC.ret ?_
   refine retV1 rfl (resV.tmp rfl) ?_
   have hx_ := OwnF.eqOf (xs := marks mkCell 6 k a.length) ho6 (fillM_full (by omega))
   have hi_ : i = a.length := by omega
   refine ⟨_, ?_, (St.keep1 hs7), hx_ ▸ ho6⟩
   rw [p1, hi_]
theorem c_laws_heldCellS (A_a : Option Addr) (n_a c_a : Nat) (a : List CellD) (k : Int) (m : Nat) (w : World) (f_a : SlF encCell w A_a n_a a) (hm : a = marks mkCell 6 k m) (h1 : 0 ≤ k) (h2 : k ≤ 1099511627776) (h3 : n_a ≤ 1099511627776) :
    Calls Tryz.prog 161 #[.slice A_a n_a c_a, i64 k] w fun e w' => e = .returned (.int .i64 (k + 6 * m)) ∧ St w [] [] w' := by
 have hnm : n_a = m := by rw [← f_a.len, hm, marks_len]
 subst hnm
 refine enter (vs := [.slice A_a n_a c_a, i64 k]) 78 Tryz.func161 rfl Tryz.ntmps161 rfl rfl ?_
 have hs1 := St.init w
 refine WC.rr tbk hs1 [] rfl trivial ?_
 refine WC.seq (fun K2 hK2 => ?_)
 refine WC.rr tbk hs1 [] rfl trivial ?_
 refine WC.block ?_
 refine WC.loopS [(0, _)] ⟨rfl, trivial⟩ hs1 (fun k_ f w' => ∃ (i : Nat) (q : Int), k_ = n_a - i ∧ (i ≤ n_a) ∧ (q = k + 6 * i) ∧ Sub [(5, .int .i64 i), (1, .int .i64 q)] f) ((fun (i : Nat) (q : Int) => n_a - i) (0) (k)) ?_ ?_
 ·refine ⟨0, k, rfl, ?_, ?_, ⟨rfl, rfl, trivial⟩⟩
  · exact Nat.zero_le _
  · simp
 ·clear hs1
  rintro _ f w ⟨i, q, rfl, p0, p1, hG⟩ hF hs3
  refine WC.sub _ (hG.app hF) ?_
  clear hG hF
  have hq : k + ((6 : Nat) : Int) * (i : Int) = q := by omega
  refine WC.seq (fun K4 hK4 => ?_)
  refine WC.rr tbk hs3 [] rfl trivial ?_
  refine WC.cD rfl (fun qh5 => ?_) (fun qh5 => ?_)
  ·have hg : gat encCell a i = mkCell q := by rw [hm, marks_gat (by omega), hq]
   refine WC.skip ?_
   refine hK4 _ _ ?_
   refine WC.seq (fun K6 hK6 => ?_)
   refine WC.block ?_
   refine WC.seq (fun K7 hK7 => ?_)
   refine WC.sr ?_
   refine WL.run tbk 2 hs3 [] rfl trivial ?_
   refine WL.val rfl rfl rfl (Run.idxN Tryz.runUnderlying26 Tryz.sizeOf75 rfl rfl rfl ?_ ?_ ?_) ?_
   · exact SlF.some_ (SlF.st0 f_a hs3)
   · omega
   · omega
   refine WL.val rfl rfl rfl (Run.fieldO Tryz.runUnderlying75 rfl rfl rfl Tryz.sizeOf3 rfl) ?_
   refine WL.val rfl rfl rfl (Run.load Tryz.isAgg3 rfl rfl (SlF.fld (SlF.st0 f_a hs3) ?_ rfl)) ?_
   · omega
   refine WL.run tbk 2 hs3 [] rfl trivial ?_
   refine WL.nil ?_
   refine WC.condF rfl (by simp [hg, mkCell]) ?_
   refine WC.skip ?_
   refine hK7 _ _ ?_
   refine WC.rr tbk hs3 [] rfl ⟨by omega, trivial⟩ ?_
   refine WC.seq (fun K9 hK9 => ?_)
   refine WC.sr ?_
   refine WL.run tbk 2 hs3 [] rfl trivial ?_
   refine WL.val rfl rfl rfl (Run.idxN Tryz.runUnderlying26 Tryz.sizeOf75 rfl rfl rfl ?_ ?_ ?_) ?_
   · exact SlF.some_ (SlF.st0 f_a hs3)
   · omega
   · omega
   refine WL.val rfl rfl rfl (Run.fieldO Tryz.runUnderlying75 rfl rfl rfl Tryz.sizeOf30 rfl) ?_
   refine WL.val rfl rfl rfl (Run.fieldE Tryz.runUnderlying30 rfl rfl rfl Tryz.sizeOf3 rfl) ?_
   refine WL.val rfl rfl rfl (Run.load Tryz.isAgg3 rfl rfl (SlF.fld (SlF.st0 f_a hs3) ?_ rfl)) ?_
   · omega
   refine WL.run tbk 2 hs3 [] rfl trivial ?_
   refine WL.nil ?_
   refine WC.condF rfl (by simp [hg, mkCell]) ?_
   refine WC.skip ?_
   refine hK9 _ _ ?_
   refine WC.rr tbk hs3 [] rfl ⟨by omega, trivial⟩ ?_
   refine WC.seq (fun K11 hK11 => ?_)
   refine WC.sr ?_
   refine WL.run tbk 2 hs3 [] rfl trivial ?_
   refine WL.val rfl rfl rfl (Run.idxN Tryz.runUnderlying26 Tryz.sizeOf75 rfl rfl rfl ?_ ?_ ?_) ?_
   · exact SlF.some_ (SlF.st0 f_a hs3)
   · omega
   · omega
   refine WL.val rfl rfl rfl (Run.fieldO Tryz.runUnderlying75 rfl rfl rfl Tryz.sizeOf30 rfl) ?_
   refine WL.val rfl rfl rfl (Run.fieldE Tryz.runUnderlying30 rfl rfl rfl Tryz.sizeOf3 rfl) ?_
   refine WL.val rfl rfl rfl (Run.load Tryz.isAgg3 rfl rfl (SlF.fld (SlF.st0 f_a hs3) ?_ rfl)) ?_
   · omega
   refine WL.run tbk 2 hs3 [] rfl trivial ?_
   refine WL.nil ?_
   refine WC.condF rfl (by simp [hg, mkCell]) ?_
   refine WC.skip ?_
   refine hK11 _ _ ?_
   refine WC.rr tbk hs3 [] rfl ⟨by omega, trivial⟩ ?_
   refine WC.seq (fun K13 hK13 => ?_)
   refine WC.sr ?_
   refine WL.run tbk 2 hs3 [] rfl trivial ?_
   refine WL.val rfl rfl rfl (Run.idxN Tryz.runUnderlying26 Tryz.sizeOf75 rfl rfl rfl ?_ ?_ ?_) ?_
   · exact SlF.some_ (SlF.st0 f_a hs3)
   · omega
   · omega
   refine WL.val rfl rfl rfl (Run.fieldO Tryz.runUnderlying75 rfl rfl rfl Tryz.sizeOf30 rfl) ?_
   refine WL.val rfl rfl rfl (Run.fieldE Tryz.runUnderlying30 rfl rfl rfl Tryz.sizeOf4 rfl) ?_
   refine WL.val rfl rfl rfl (Run.load Tryz.isAgg4 rfl rfl (SlF.fld (SlF.st0 f_a hs3) ?_ rfl)) ?_
   · omega
   refine WL.run tbk 1 hs3 [] rfl trivial ?_
   refine WL.val rfl rfl rfl (Run.rem rfl rfl rfl ?_ ?_) ?_
   · omega
   · omega
   refine WL.run tbk 2 hs3 [] rfl trivial ?_
   refine WL.nil ?_
   refine WC.condF rfl (by simp [hg, mkCell]) ?_
   refine WC.skip ?_
   refine hK13 _ _ ?_
   refine WC.rr tbk hs3 [] rfl ⟨by omega, trivial⟩ ?_
   refine WC.seq (fun K15 hK15 => ?_)
   refine WC.sr ?_
   refine WL.run tbk 2 hs3 [] rfl trivial ?_
   refine WL.val rfl rfl rfl (Run.idxN Tryz.runUnderlying26 Tryz.sizeOf75 rfl rfl rfl ?_ ?_ ?_) ?_
   · exact SlF.some_ (SlF.st0 f_a hs3)
   · omega
   · omega
   refine WL.val rfl rfl rfl (Run.fieldO Tryz.runUnderlying75 rfl rfl rfl Tryz.sizeOf30 rfl) ?_
   refine WL.val rfl rfl rfl (Run.fieldE Tryz.runUnderlying30 rfl rfl rfl Tryz.sizeOf4 rfl) ?_
   refine WL.val rfl rfl rfl (Run.load Tryz.isAgg4 rfl rfl (SlF.fld (SlF.st0 f_a hs3) ?_ rfl)) ?_
   · omega
   refine WL.run tbk 1 hs3 [] rfl trivial ?_
   refine WL.val rfl rfl rfl (Run.rem rfl rfl rfl ?_ ?_) ?_
   · omega
   · omega
   refine WL.run tbk 2 hs3 [] rfl trivial ?_
   refine WL.nil ?_
   refine WC.condF rfl (by simp [hg, mkCell]) ?_
   refine WC.skip ?_
   refine hK15 _ _ ?_
   refine WC.rr tbk hs3 [] rfl ⟨by omega, trivial⟩ ?_
   refine WC.seq (fun K17 hK17 => ?_)
   refine WC.sr ?_
   refine WL.run tbk 2 hs3 [] rfl trivial ?_
   refine WL.val rfl rfl rfl (Run.idxN Tryz.runUnderlying26 Tryz.sizeOf75 rfl rfl rfl ?_ ?_ ?_) ?_
   · exact SlF.some_ (SlF.st0 f_a hs3)
   · omega
   · omega
   refine WL.val rfl rfl rfl (Run.fieldO Tryz.runUnderlying75 rfl rfl rfl Tryz.sizeOf30 rfl) ?_
   refine WL.val rfl rfl rfl (Run.fieldE Tryz.runUnderlying30 rfl rfl rfl Tryz.sizeOf4 rfl) ?_
   refine WL.val rfl rfl rfl (Run.load Tryz.isAgg4 rfl rfl (SlF.fld (SlF.st0 f_a hs3) ?_ rfl)) ?_
   · omega
   refine WL.run tbk 1 hs3 [] rfl trivial ?_
   refine WL.val rfl rfl rfl (Run.rem rfl rfl rfl ?_ ?_) ?_
   · omega
   · omega
   refine WL.run tbk 2 hs3 [] rfl trivial ?_
   refine WL.nil ?_
   refine WC.condF rfl (by simp [hg, mkCell]) ?_
   refine WC.skip ?_
   refine hK17 _ _ ?_
   refine WC.region ?_
   refine WL.run tbk 3 hs3 [] rfl ⟨by omega, trivial⟩ ?_
   refine WL.nil ?_
   refine hK6 _ _ ?_
   refine WC.region ?_
   refine WL.run tbk 3 hs3 [] rfl ⟨by omega, trivial⟩ ?_
   refine WL.nil ?_
   refine tkN ?_
   refine ⟨⟨rfl, trivial⟩, hs3, _, ?_, i + 1, _, rfl, ?_, ?_, ⟨rfl, rfl, trivial⟩⟩
   · omega
   · omega
   · omega
  ·refine WC.exit ?_
   refine hK2 _ _ ?_
   refine WC.rr tbk hs3 [] rfl trivial ?_
   refine WC.ret ?_
   refine retV1 rfl (resV.tmp rfl) ?_
   refine ⟨congrArg Ending.returned ?_, hs3.nil⟩
   rw [p1, show i = n_a from by omega]
theorem c_laws_markIntS (v_a : Value) (a : List Int) (L_a : Hp) (k : Int) (w : World) (o_a : OwnF encI 3 v_a a L_a) (h_a : ∀ p, p ∈ L_a → w.heap[p.1]? = some p.2) (h1 : 0 ≤ k) (h2 : k ≤ 1099511627776) (h3 : a.length ≤ 1099511627776) :
    Calls Tryz.prog 34 #[v_a, i64 k] w fun e w' => ∃ L1, e = .returned (.int .i64 (k + 1 * a.length)) ∧ St w (L_a.map (·.1)) L1 w' ∧ OwnF encI 3 v_a (marks (fun k => k) 1 k a.length) L1 := by
 obtain ⟨A_a, c_a, rfl⟩ := o_a.shape
 refine enter (vs := [.slice A_a a.length c_a, i64 k]) 19 Tryz.func34 rfl Tryz.ntmps34 rfl rfl ?_
 have hs1 := St.lent1 w L_a o_a h_a
 refine WC.rr tbk hs1 [] rfl trivial ?_
 refine WC.seq (fun K2 hK2 => ?_)
 refine WC.rr tbk hs1 [] rfl trivial ?_
 refine WC.block ?_
 refine WC.loopO [(4, _)] ⟨rfl, trivial⟩ hs1 (fun k_ f L_ => ∃ (i : Nat) (q : Int), k_ = a.length - i ∧ (i ≤ a.length) ∧ (q = k + 1 * i) ∧ OwnF encI 3 (.slice A_a (a.length) c_a) (fillM (fun k => k) 1 k a i) L_ ∧ Sub [(0, .slice A_a (a.length) c_a), (5, .int .i64 i), (1, .int .i64 q)] f) (((fun (i : Nat) (q : Int) => a.length - i) (0) (k))) ?_ ?_
 ·refine ⟨0, k, rfl, ?_, ?_, (fillM_zero.symm ▸ o_a), ⟨rfl, rfl, rfl, trivial⟩⟩
  · exact Nat.zero_le _
  · simp
 ·clear hs1
  rintro _ f w L5 ⟨i, q, rfl, p0, p1, ho6, hG⟩ hF hs7
  refine WC.sub _ (hG.app hF) ?_
  clear hG hF
  have hfl : (fillM (fun k => k) 1 k a i).length = a.length := fillM_len p0
  have hq : k + ((1 : Nat) : Int) * (i : Int) = q := by omega
  refine WC.seq (fun K8 hK8 => ?_)
  refine WC.rr tbk hs7 [] rfl trivial ?_
  refine WC.cond rfl (fun h9 => ?_) (fun h9 => ?_)
  ·have qh9 := h9
   try simp only [bf, within_iff, within_not] at qh9
   refine WC.skip ?_
   refine hK8 _ _ ?_
   refine WC.seq (fun K10 hK10 => ?_)
   refine WC.block ?_
   refine WC.sr ?_
   refine WL.run tbk 3 hs7 [] rfl trivial ?_
   refine WL.val rfl rfl rfl (Run.idxN Tryz.runUnderlying23 Tryz.sizeOf3 rfl rfl rfl ?_ ?_ ?_) ?_
   · exact SlF.some_ (SlF.ofOwn ho6 (fun p_ hp_ => (hs7.own p_ (List.mem_append_left _ hp_)).1))
   · omega
   · omega
   refine WL.storeF1 (x' := _) hs7 ho6 Tryz.sizeOf3 rfl rfl rfl rfl rfl rfl rfl rfl rfl ?_ (by first | rfl | (rw [gat_set (by (try simp only [List.length_set]); omega) rfl]; rfl)) (fun L11 whs12 hs12 ho13 _ => ?_)
   · omega
   refine WL.nil ?_
   refine WC.region ?_
   refine WL.run tbk 3 hs12 [] rfl ⟨by omega, trivial⟩ ?_
   refine WL.nil ?_
   refine hK10 _ _ ?_
   refine WC.region ?_
   refine WL.run tbk 3 hs12 [] rfl ⟨by omega, trivial⟩ ?_
   refine WL.nil ?_
   refine tkN ?_
   try simp only [List.set_set] at ho13
   rw [fillM_set (i := i) (by omega) (by rw [hq]) (by simp)] at ho13
   refine ⟨⟨rfl, trivial⟩, _, hs12, _, ?_, i + 1, _, rfl, ?_, ?_, ho13, ⟨rfl, rfl, rfl, trivial⟩⟩
   · omega
   · omega
   · omega
  ·have qh9 := h9
   try simp only [bf, within_iff, within_not] at qh9
   refine WC.exit ?_
   refine hK2 _ _ ?_
   refine WC.rr tbk hs7 [] rfl trivial ?_
   refine WC.ret ?_
   refine retV1 rfl (resV.tmp rfl) ?_
   have hx_ := OwnF.eqOf (xs := marks (fun k => k) 1 k a.length) ho6 (fillM_full (by omega))
   have hi_ : i = a.length := by omega
   refine ⟨_, ?_, (St.keep1 hs7), hx_ ▸ ho6⟩
   rw [p1, hi_]
theorem c_laws_heldIntS (A_a : Option Addr) (n_a c_a : Nat) (a : List Int) (k : Int) (m : Nat) (w : World) (f_a : SlF encI w A_a n_a a) (hm : a = marks (fun k => k) 1 k m) (h1 : 0 ≤ k) (h2 : k ≤ 1099511627776) (h3 : n_a ≤ 1099511627776) :
    Calls Tryz.prog 83 #[.slice A_a n_a c_a, i64 k] w fun e w' => e = .returned (.int .i64 (k + 1 * m)) ∧ St w [] [] w' := by
 have hnm : n_a = m := by rw [← f_a.len, hm, marks_len]
 subst hnm
 refine enter (vs := [.slice A_a n_a c_a, i64 k]) 21 Tryz.func83 rfl Tryz.ntmps83 rfl rfl ?_
 have hs1 := St.init w
 refine WC.rr tbk hs1 [] rfl trivial ?_
 refine WC.seq (fun K2 hK2 => ?_)
 refine WC.rr tbk hs1 [] rfl trivial ?_
 refine WC.block ?_
 refine WC.loopS [(0, _)] ⟨rfl, trivial⟩ hs1 (fun k_ f w' => ∃ (i : Nat) (q : Int), k_ = n_a - i ∧ (i ≤ n_a) ∧ (q = k + 1 * i) ∧ Sub [(5, .int .i64 i), (1, .int .i64 q)] f) ((fun (i : Nat) (q : Int) => n_a - i) (0) (k)) ?_ ?_
 ·refine ⟨0, k, rfl, ?_, ?_, ⟨rfl, rfl, trivial⟩⟩
  · exact Nat.zero_le _
  · simp
 ·clear hs1
  rintro _ f w ⟨i, q, rfl, p0, p1, hG⟩ hF hs3
  refine WC.sub _ (hG.app hF) ?_
  clear hG hF
  have hq : k + ((1 : Nat) : Int) * (i : Int) = q := by omega
  refine WC.seq (fun K4 hK4 => ?_)
  refine WC.rr tbk hs3 [] rfl trivial ?_
  refine WC.cD rfl (fun qh5 => ?_) (fun qh5 => ?_)
  ·have hg : gat encI a i = (fun k => k) q := by rw [hm, marks_gat (by omega), hq]
   refine WC.skip ?_
   refine hK4 _ _ ?_
   refine WC.seq (fun K6 hK6 => ?_)
   refine WC.block ?_
   refine WC.seq (fun K7 hK7 => ?_)
   refine WC.sr ?_
   refine WL.run tbk 2 hs3 [] rfl trivial ?_
   refine WL.val rfl rfl rfl (Run.idxN Tryz.runUnderlying23 Tryz.sizeOf3 rfl rfl rfl ?_ ?_ ?_) ?_
   · exact SlF.some_ (SlF.st0 f_a hs3)
   · omega
   · omega
   refine WL.val rfl rfl rfl (Run.load Tryz.isAgg3 rfl rfl (SlF.one1 (SlF.st0 f_a hs3) ?_ rfl)) ?_
   · omega
   refine WL.run tbk 2 hs3 [] rfl trivial ?_
   refine WL.nil ?_
   refine WC.condF rfl (by simp [hg]) ?_
   refine WC.skip ?_
   refine hK7 _ _ ?_
   refine WC.region ?_
   refine WL.run tbk 3 hs3 [] rfl ⟨by omega, trivial⟩ ?_
   refine WL.nil ?_
   refine hK6 _ _ ?_
   refine WC.region ?_
   refine WL.run tbk 3 hs3 [] rfl ⟨by omega, trivial⟩ ?_
   refine WL.nil ?_
   refine tkN ?_
   refine ⟨⟨rfl, trivial⟩, hs3, _, ?_, i + 1, _, rfl, ?_, ?_, ⟨rfl, rfl, trivial⟩⟩
   · omega
   · omega
   · omega
  ·refine WC.exit ?_
   refine hK2 _ _ ?_
   refine WC.rr tbk hs3 [] rfl trivial ?_
   refine WC.ret ?_
   refine retV1 rfl (resV.tmp rfl) ?_
   refine ⟨congrArg Ending.returned ?_, hs3.nil⟩
   rw [p1, show i = n_a from by omega]
end Go.Proofs.YtjmegoiclgancaaGreat
namespace Go.Proofs.YtjmegoiclgancaaGreat
open Go Go.RowKit
set_option linter.unusedVariables false
set_option linter.unusedSimpArgs false
set_option maxHeartbeats 4000000 in
theorem c_laws_toGrid (a : GridR) (w : World) (f_a : okGridR 549755813888 w a) :
    Calls Tryz.prog 71 #[.agg #[i64 a.W, i64 a.H, .slice a.Cells.A a.Cells.n a.Cells.c]] w fun e w' => ∃ r L1, e = .returned (.agg #[i64 r.W, i64 r.H, .slice r.Cells.A r.Cells.n r.Cells.c]) ∧ St w [] L1 w' ∧ ownGridR r L1 ∧ r.dat = a.dat := by
 have nb_a_Cells := f_a.Cells_n
 have nl_a_Cells := f_a.Cells.len
 refine enter (vs := [.agg #[i64 a.W, i64 a.H, .slice a.Cells.A a.Cells.n a.Cells.c]]) 15 Tryz.func71 rfl Tryz.ntmps71 rfl rfl ?_
 have hs1 := St.init w
 refine WC.sr ?_
 refine WL.bx hs1 rfl (fun b2 _ hs3 => ?_)
 refine WL.al hs3 Tryz.zeroValue28 rfl rfl (fun b4 _ hs5 => ?_)
 refine WL.nil ?_
 refine WC.sr ?_
 refine WL.al hs5 Tryz.zeroValue28 rfl rfl (fun b6 _ hs7 => ?_)
 refine WL.nil ?_
 refine WC.sr ?_
 refine WL.run tbk 3 hs7 [2] rfl ⟨rfl, trivial⟩ ?_
 refine WL.st tbk hs7 0 rfl rfl (fun _ hs8 => ?_)
 refine WL.nil ?_
 refine WC.sr ?_
 refine WL.run tbk 3 hs8 [2] rfl ⟨rfl, trivial⟩ ?_
 refine WL.st tbk hs8 0 rfl rfl (fun _ hs9 => ?_)
 refine WL.nil ?_
 refine WC.sr ?_
 refine WL.run tbk 2 hs9 [2] rfl ⟨rfl, trivial⟩ ?_
 refine WL.call rfl rfl rfl (Run.call Tryz.call148 rfl rfl rfl) (c_laws_toCellS _ _ _ _ _ (SlF.st0 f_a.Cells hs9) ?_) ?_
 · first | assumption | rfl | omega
 rintro _ whs10 ⟨A11, c12, L1_13, rfl, hs10, ho14⟩
 replace hs10 := hs9.callF hs10
 refine ⟨_, rfl, ?_⟩
 replace hs10 := St.back [_, _, _] hs10
 refine WL.run tbk 1 hs10 [] rfl trivial ?_
 refine WL.st tbk hs10 0 rfl rfl (fun _ hs15 => ?_)
 refine WL.nil ?_
 refine WC.sr ?_
 refine WL.run tbk 1 hs15 [0] rfl ⟨rfl, trivial⟩ ?_
 refine WL.st tbk hs15 1 rfl rfl (fun _ hs16 => ?_)
 refine WL.nil ?_
 refine WC.ret ?_
 refine retV1 rfl (resV.cellA tbk hs16 1 rfl rfl rfl rfl) ?_
 refine ⟨⟨a.W, a.H, SlD.of ho14⟩, _, rfl, (St.keep1 (St.perm hs16 (L' := L1_13 ++ _) (perm_front (A := [_, _, _]) (List.Perm.refl _)))), ?_, ?_⟩
 · exact ho14
 · exact GridD.ext' rfl rfl rfl
set_option maxHeartbeats 4000000 in
theorem c_laws_eqGrid (a : GridR) (b : GridR) (w : World) (f_a : okGridR 549755813888 w a) (f_b : okGridR 549755813888 w b) (hab : a.dat = b.dat) :
    Calls Tryz.prog 77 #[.agg #[i64 a.W, i64 a.H, .slice a.Cells.A a.Cells.n a.Cells.c], .agg #[i64 b.W, i64 b.H, .slice b.Cells.A b.Cells.n b.Cells.c]] w fun e w' => e = .returned (.bool true) ∧ St w [] [] w' := by
 have nb_a_Cells := f_a.Cells_n
 have nl_a_Cells := f_a.Cells.len
 have nb_b_Cells := f_b.Cells_n
 have nl_b_Cells := f_b.Cells.len
 have e_W : a.W = b.W := congrArg (fun d : GridD => d.W) hab
 have e_H : a.H = b.H := congrArg (fun d : GridD => d.H) hab
 have e_Cells : a.Cells.xs = b.Cells.xs := congrArg (fun d : GridD => d.Cells) hab
 refine enter (vs := [.agg #[i64 a.W, i64 a.H, .slice a.Cells.A a.Cells.n a.Cells.c], .agg #[i64 b.W, i64 b.H, .slice b.Cells.A b.Cells.n b.Cells.c]]) 21 Tryz.func77 rfl Tryz.ntmps77 rfl rfl ?_
 have hs1 := St.init w
 refine WC.sr ?_
 refine WL.bx hs1 rfl (fun b2 _ hs3 => ?_)
 refine WL.bx hs3 rfl (fun b4 _ hs5 => ?_)
 refine WL.run tbk 1 hs5 [] rfl trivial ?_
 refine WL.nil ?_
 refine WC.seq (fun K6 hK6 => ?_)
 refine WC.rr tbk hs5 [1, 0] rfl ⟨rfl, rfl, trivial⟩ ?_
 refine WC.condF rfl (by simp [e_W, e_H]) ?_
 refine WC.skip ?_
 refine hK6 _ _ ?_
 refine WC.seq (fun K8 hK8 => ?_)
 refine WC.rr tbk hs5 [1, 0] rfl ⟨rfl, rfl, trivial⟩ ?_
 refine WC.condF rfl (by simp [e_W, e_H]) ?_
 refine WC.skip ?_
 refine hK8 _ _ ?_
 refine WC.seq (fun K10 hK10 => ?_)
 refine WC.sr ?_
 refine WL.run tbk 4 hs5 [1, 0] rfl ⟨rfl, rfl, trivial⟩ ?_
 refine WL.call rfl rfl rfl (Run.call Tryz.call158 rfl rfl rfl) (c_laws_eqCellS _ _ _ _ _ _ _ _ _ (SlF.st0 f_a.Cells hs5) (SlF.st0 f_b.Cells hs5) ?_ ?_) ?_
 · first | assumption | rfl | omega
 · first | assumption | rfl | omega
 rintro _ whs11 ⟨rfl, hs11⟩
 replace hs11 := hs5.call0 hs11
 refine ⟨_, rfl, ?_⟩
 refine WL.run tbk 1 hs11 [] rfl trivial ?_
 refine WL.nil ?_
 refine WC.condF rfl (by simp [e_W, e_H]) ?_
 refine WC.skip ?_
 refine hK10 _ _ ?_
 refine WC.rr tbk hs11 [] rfl trivial ?_
 refine WC.ret ?_
 refine retV1 rfl (resV.tmp rfl) ?_
 refine ⟨congrArg Ending.returned ?_, hs11.nil⟩
 rfl
set_option maxHeartbeats 4000000 in
theorem c_laws_szGrid (a : GridR) (left : Int) (w : World) (f_a : okGridR 9223372036854775807 w a) (h1 : 0 ≤ left) (h2 : left ≤ 1048576) :
    Calls Tryz.prog 60 #[.agg #[i64 a.W, i64 a.H, .slice a.Cells.A a.Cells.n a.Cells.c], i64 left] w fun e w' => e = .returned (.int .i64 (szR left (totGrid a.dat))) ∧ St w [] [] w' := by
 have nb_a_Cells := f_a.Cells_n
 have nl_a_Cells := f_a.Cells.len
 refine enter (vs := [.agg #[i64 a.W, i64 a.H, .slice a.Cells.A a.Cells.n a.Cells.c], i64 left]) 12 Tryz.func60 rfl Tryz.ntmps60 rfl rfl ?_
 have hs1 := St.init w
 refine WC.sr ?_
 refine WL.bx hs1 rfl (fun b2 _ hs3 => ?_)
 refine WL.run tbk 1 hs3 [] rfl trivial ?_
 refine WL.nil ?_
 refine WC.sr ?_
 refine WL.run tbk 3 hs3 [0] rfl ⟨rfl, trivial⟩ ?_
 refine WL.call rfl rfl rfl (Run.call Tryz.call136 rfl rfl rfl) (c_laws_szCellS _ _ _ _ _ _ (SlF.st0 f_a.Cells hs3) ?_ ?_ ?_) ?_
 · first | assumption | omega
 · first | assumption | omega | exact szR_b (by assumption) (by omega) (by first | assumption | omega)
 · first | assumption | omega
 rintro _ whs4 ⟨rfl, hs4⟩
 replace hs4 := hs3.call0 hs4
 refine ⟨_, rfl, ?_⟩
 refine WL.run tbk 1 hs4 [] rfl trivial ?_
 refine WL.nil ?_
 refine WC.seq (fun K5 hK5 => ?_)
 refine WC.rr tbk hs4 [] rfl trivial ?_
 refine WC.cD rfl (fun qh6 => ?_) (fun qh6 => ?_)
 ·try have soh6 := szR_ok qh6 (by omega)
  try have sbh6 := szR_b qh6 (by omega) (by first | assumption | omega)
  try have snh6 := szR_no qh6
  refine WC.rr tbk hs4 [] rfl trivial ?_
  refine WC.ret ?_
  refine tkR ?_
  clear hK5
  refine retV1 rfl (resV.tmp rfl) ?_
  refine ⟨congrArg Ending.returned ?_, hs4.nil⟩
  simp only [totGrid, GridR.dat] at *; first | (rw [szR_lt (by omega)]; done) | (refine congrArg (Value.int _) ?_; symm; refine (szR_le ?_).trans ?_ <;> omega) | rfl
 ·try have soh6 := szR_ok qh6 (by omega)
  try have sbh6 := szR_b qh6 (by omega) (by first | assumption | omega)
  try have snh6 := szR_no qh6
  refine WC.skip ?_
  refine hK5 _ _ ?_
  refine WC.rr tbk hs4 [] rfl trivial ?_
  refine WC.ret ?_
  refine retV1 rfl (resV.tmp rfl) ?_
  refine ⟨congrArg Ending.returned ?_, hs4.nil⟩
  simp only [totGrid, GridR.dat] at *; first | (rw [szR_lt (by omega)]; done) | (refine congrArg (Value.int _) ?_; symm; refine (szR_le ?_).trans ?_ <;> omega) | rfl
set_option maxHeartbeats 4000000 in
theorem c_laws_toRow (a : RowR) (w : World) (f_a : okRowR 549755813888 w a) :
    Calls Tryz.prog 149 #[.agg #[.slice a.Cells.A a.Cells.n a.Cells.c]] w fun e w' => ∃ r L1, e = .returned (.agg #[.slice r.Cells.A r.Cells.n r.Cells.c]) ∧ St w [] L1 w' ∧ ownRowR r L1 ∧ r.dat = a.dat := by
 have nb_a_Cells := f_a.Cells_n
 have nl_a_Cells := f_a.Cells.len
 refine enter (vs := [.agg #[.slice a.Cells.A a.Cells.n a.Cells.c]]) 9 Tryz.func149 rfl Tryz.ntmps149 rfl rfl ?_
 have hs1 := St.init w
 refine WC.sr ?_
 refine WL.bx hs1 rfl (fun b2 _ hs3 => ?_)
 refine WL.al hs3 Tryz.zeroValue98 rfl rfl (fun b4 _ hs5 => ?_)
 refine WL.nil ?_
 refine WC.sr ?_
 refine WL.al hs5 Tryz.zeroValue98 rfl rfl (fun b6 _ hs7 => ?_)
 refine WL.nil ?_
 refine WC.sr ?_
 refine WL.run tbk 2 hs7 [2] rfl ⟨rfl, trivial⟩ ?_
 refine WL.call rfl rfl rfl (Run.call Tryz.call148 rfl rfl rfl) (c_laws_toCellS _ _ _ _ _ (SlF.st0 f_a.Cells hs7) ?_) ?_
 · first | assumption | rfl | omega
 rintro _ whs8 ⟨A9, c10, L1_11, rfl, hs8, ho12⟩
 replace hs8 := hs7.callF hs8
 refine ⟨_, rfl, ?_⟩
 replace hs8 := St.back [_, _, _] hs8
 refine WL.run tbk 1 hs8 [] rfl trivial ?_
 refine WL.st tbk hs8 0 rfl rfl (fun _ hs13 => ?_)
 refine WL.nil ?_
 refine WC.sr ?_
 refine WL.run tbk 1 hs13 [0] rfl ⟨rfl, trivial⟩ ?_
 refine WL.st tbk hs13 1 rfl rfl (fun _ hs14 => ?_)
 refine WL.nil ?_
 refine WC.ret ?_
 refine retV1 rfl (resV.cellA tbk hs14 1 rfl rfl rfl rfl) ?_
 refine ⟨⟨SlD.of ho12⟩, _, rfl, (St.keep1 (St.perm hs14 (L' := L1_11 ++ _) (perm_front (A := [_, _, _]) (List.Perm.refl _)))), ?_, ?_⟩
 · exact ho12
 · exact RowD.ext' rfl
set_option maxHeartbeats 4000000 in
theorem c_laws_eqRow (a : RowR) (b : RowR) (w : World) (f_a : okRowR 549755813888 w a) (f_b : okRowR 549755813888 w b) (hab : a.dat = b.dat) :
    Calls Tryz.prog 159 #[.agg #[.slice a.Cells.A a.Cells.n a.Cells.c], .agg #[.slice b.Cells.A b.Cells.n b.Cells.c]] w fun e w' => e = .returned (.bool true) ∧ St w [] [] w' := by
 have nb_a_Cells := f_a.Cells_n
 have nl_a_Cells := f_a.Cells.len
 have nb_b_Cells := f_b.Cells_n
 have nl_b_Cells := f_b.Cells.len
 have e_Cells : a.Cells.xs = b.Cells.xs := congrArg (fun d : RowD => d.Cells) hab
 refine enter (vs := [.agg #[.slice a.Cells.A a.Cells.n a.Cells.c], .agg #[.slice b.Cells.A b.Cells.n b.Cells.c]]) 11 Tryz.func159 rfl Tryz.ntmps159 rfl rfl ?_
 have hs1 := St.init w
 refine WC.sr ?_
 refine WL.bx hs1 rfl (fun b2 _ hs3 => ?_)
 refine WL.bx hs3 rfl (fun b4 _ hs5 => ?_)
 refine WL.run tbk 1 hs5 [] rfl trivial ?_
 refine WL.nil ?_
 refine WC.seq (fun K6 hK6 => ?_)
 refine WC.sr ?_
 refine WL.run tbk 4 hs5 [1, 0] rfl ⟨rfl, rfl, trivial⟩ ?_
 refine WL.call rfl rfl rfl (Run.call Tryz.call158 rfl rfl rfl) (c_laws_eqCellS _ _ _ _ _ _ _ _ _ (SlF.st0 f_a.Cells hs5) (SlF.st0 f_b.Cells hs5) ?_ ?_) ?_
 · first | assumption | rfl | omega
 · first | assumption | rfl | omega
 rintro _ whs7 ⟨rfl, hs7⟩
 replace hs7 := hs5.call0 hs7
 refine ⟨_, rfl, ?_⟩
 refine WL.run tbk 1 hs7 [] rfl trivial ?_
 refine WL.nil ?_
 refine WC.condF rfl (by simp) ?_
 refine WC.skip ?_
 refine hK6 _ _ ?_
 refine WC.rr tbk hs7 [] rfl trivial ?_
 refine WC.ret ?_
 refine retV1 rfl (resV.tmp rfl) ?_
 refine ⟨congrArg Ending.returned ?_, hs7.nil⟩
 rfl
set_option maxHeartbeats 4000000 in
theorem c_laws_szRow (a : RowR) (left : Int) (w : World) (f_a : okRowR 9223372036854775807 w a) (h1 : 0 ≤ left) (h2 : left ≤ 1048576) :
    Calls Tryz.prog 137 #[.agg #[.slice a.Cells.A a.Cells.n a.Cells.c], i64 left] w fun e w' => e = .returned (.int .i64 (szR left (totRow a.dat))) ∧ St w [] [] w' := by
 have nb_a_Cells := f_a.Cells_n
 have nl_a_Cells := f_a.Cells.len
 refine enter (vs := [.agg #[.slice a.Cells.A a.Cells.n a.Cells.c], i64 left]) 12 Tryz.func137 rfl Tryz.ntmps137 rfl rfl ?_
 have hs1 := St.init w
 refine WC.sr ?_
 refine WL.bx hs1 rfl (fun b2 _ hs3 => ?_)
 refine WL.run tbk 1 hs3 [] rfl trivial ?_
 refine WL.nil ?_
 refine WC.sr ?_
 refine WL.run tbk 3 hs3 [0] rfl ⟨rfl, trivial⟩ ?_
 refine WL.call rfl rfl rfl (Run.call Tryz.call136 rfl rfl rfl) (c_laws_szCellS _ _ _ _ _ _ (SlF.st0 f_a.Cells hs3) ?_ ?_ ?_) ?_
 · first | assumption | omega
 · first | assumption | omega | exact szR_b (by assumption) (by omega) (by first | assumption | omega)
 · first | assumption | omega
 rintro _ whs4 ⟨rfl, hs4⟩
 replace hs4 := hs3.call0 hs4
 refine ⟨_, rfl, ?_⟩
 refine WL.run tbk 1 hs4 [] rfl trivial ?_
 refine WL.nil ?_
 refine WC.seq (fun K5 hK5 => ?_)
 refine WC.rr tbk hs4 [] rfl trivial ?_
 refine WC.cD rfl (fun qh6 => ?_) (fun qh6 => ?_)
 ·try have soh6 := szR_ok qh6 (by omega)
  try have sbh6 := szR_b qh6 (by omega) (by first | assumption | omega)
  try have snh6 := szR_no qh6
  refine WC.rr tbk hs4 [] rfl trivial ?_
  refine WC.ret ?_
  refine tkR ?_
  clear hK5
  refine retV1 rfl (resV.tmp rfl) ?_
  refine ⟨congrArg Ending.returned ?_, hs4.nil⟩
  simp only [totRow, RowR.dat] at *; first | (rw [szR_lt (by omega)]; done) | (refine congrArg (Value.int _) ?_; symm; refine (szR_le ?_).trans ?_ <;> omega) | rfl
 ·try have soh6 := szR_ok qh6 (by omega)
  try have sbh6 := szR_b qh6 (by omega) (by first | assumption | omega)
  try have snh6 := szR_no qh6
  refine WC.skip ?_
  refine hK5 _ _ ?_
  refine WC.rr tbk hs4 [] rfl trivial ?_
  refine WC.ret ?_
  refine retV1 rfl (resV.tmp rfl) ?_
  refine ⟨congrArg Ending.returned ?_, hs4.nil⟩
  simp only [totRow, RowR.dat] at *; first | (rw [szR_lt (by omega)]; done) | (refine congrArg (Value.int _) ?_; symm; refine (szR_le ?_).trans ?_ <;> omega) | rfl
end Go.Proofs.YtjmegoiclgancaaGreat
namespace Go.Proofs.YtjmegoiclgancaaGreat
open Go Go.RowKit
set_option linter.unusedVariables false
set_option linter.unusedSimpArgs false
theorem info_98 : Tryz.prog.info? 98 = some Tryz.t98 := by kernel_rfl
theorem c_laws_szRowS (A_a : Option Addr) (n_a c_a : Nat) (a : List RowR) (left : Int) (w : World) (f_a : SlN encRowR (okRowR 9223372036854775807) w A_a n_a a) (h1 : 0 ≤ left) (h2 : left ≤ 1048576) (h3 : n_a ≤ 9223372036854775807) :
    Calls Tryz.prog 62 #[.slice A_a n_a c_a, i64 left] w fun e w' => e = .returned (.int .i64 (szR left (tots totRow (a.map RowR.dat)))) ∧ St w [] [] w' := by
 have hl := f_a.sl.len
 have hT : (tots totRow (a.map RowR.dat) : Int) = n_a + (a.map (fun x => totRow (RowR.dat x))).sum := by rw [tots_map, hl]; omega
 refine enter (vs := [.slice A_a n_a c_a, i64 left]) 27 Tryz.func62 rfl Tryz.ntmps62 rfl rfl ?_
 have hs1 := St.init w
 refine WC.rr tbk hs1 [] rfl trivial ?_
 refine WC.rr tbk hs1 [] rfl ⟨by omega, trivial⟩ ?_
 refine WC.seq (fun K2 hK2 => ?_)
 refine WC.rr tbk hs1 [] rfl trivial ?_
 refine WC.cD rfl (fun qh3 => ?_) (fun qh3 => ?_)
 ·refine WC.rr tbk hs1 [] rfl trivial ?_
  refine WC.ret ?_
  refine tkR ?_
  clear hK2
  refine retV1 rfl (resV.tmp rfl) ?_
  refine ⟨congrArg Ending.returned ?_, hs1.nil⟩
  rw [szR_lt (by omega)]
 ·refine WC.skip ?_
  refine hK2 _ _ ?_
  refine WC.seq (fun K4 hK4 => ?_)
  refine WC.rr tbk hs1 [] rfl trivial ?_
  refine WC.block ?_
  refine WC.loopS [(0, _), (11, _)] ⟨rfl, rfl, trivial⟩ hs1 (fun k_ f w' => ∃ (i : Nat) (q : Int), k_ = n_a - i ∧ (i ≤ n_a) ∧ (0 ≤ q) ∧ (q + n_a + ((a.take i).map (fun x => totRow (RowR.dat x))).sum = left) ∧ Sub [(5, .int .i64 i), (1, .int .i64 q)] f) ((fun (i : Nat) (q : Int) => n_a - i) (0) ((left - n_a))) ?_ ?_
  ·refine ⟨0, (left - n_a), rfl, ?_, ?_, ?_, ⟨rfl, rfl, trivial⟩⟩
   · exact Nat.zero_le _
   · omega
   · simp
  ·clear hs1
   rintro _ f w ⟨i, q, rfl, p0, p1, p2, hG⟩ hF hs5
   refine WC.sub _ (hG.app hF) ?_
   clear hG hF
   refine WC.seq (fun K6 hK6 => ?_)
   refine WC.rr tbk hs5 [] rfl trivial ?_
   refine WC.cD rfl (fun qh7 => ?_) (fun qh7 => ?_)
   ·have hs1 := sum_take (F := encRowR) (f := (fun x => totRow (RowR.dat x))) (l := a) (i := i) (by omega)
    have hs2 := sum_take_le (f := (fun x => totRow (RowR.dat x))) a (i + 1)
    refine WC.skip ?_
    refine hK6 _ _ ?_
    refine WC.seq (fun K8 hK8 => ?_)
    refine WC.block ?_
    refine WC.sr ?_
    refine WL.run tbk 2 hs5 [] rfl trivial ?_
    refine WL.val rfl rfl rfl (Run.idxN Tryz.runUnderlying48 Tryz.sizeOf172 rfl rfl rfl ?_ ?_ ?_) ?_
    · exact SlF.some_ (SlF.st0 f_a.sl hs5)
    · omega
    · omega
    refine WL.val rfl rfl rfl (Run.loadA Tryz.isAgg172 Tryz.sizeOf172 rfl rfl (SlF.whole (SlF.st0 f_a.sl hs5) ?_)) ?_
    · omega
    refine WL.run tbk 1 hs5 [] rfl trivial ?_
    refine WL.call rfl rfl rfl (Run.call Tryz.call137 rfl rfl rfl) (c_laws_szRow (gat encRowR a i) _ _ (okRowR.st0 (SlN.nth f_a (by omega)) hs5) ?_ ?_) ?_
    · first | assumption | omega
    · first | assumption | omega | exact szR_b (by assumption) (by omega) (by first | assumption | omega)
    rintro _ whs9 ⟨rfl, hs9⟩
    replace hs9 := hs5.call0 hs9
    refine ⟨_, rfl, ?_⟩
    refine WL.run tbk 1 hs9 [] rfl trivial ?_
    refine WL.nil ?_
    refine WC.rr tbk hs9 [] rfl trivial ?_
    refine WC.cD rfl (fun qh10 => ?_) (fun qh10 => ?_)
    ·refine WC.rr tbk hs9 [] rfl trivial ?_
     refine WC.ret ?_
     refine ibR (tkR (tkR (ibR (tkR ?_))))
     clear hK8 hK4
     refine retV1 rfl (resV.tmp rfl) ?_
     refine ⟨congrArg Ending.returned ?_, hs9.nil⟩
     have h9 := szR_no qh10
     rw [szR_lt (by omega)]
    ·refine WC.skip ?_
     refine hK8 _ _ ?_
     refine WC.region ?_
     refine WL.run tbk 3 hs9 [] rfl ⟨by omega, trivial⟩ ?_
     refine WL.nil ?_
     refine tkN ?_
     refine ⟨⟨rfl, rfl, trivial⟩, hs9, _, ?_, i + 1, _, rfl, ?_, ?_, ?_, ⟨rfl, rfl, trivial⟩⟩
     · omega
     · omega
     · omega
     · have h9 := szR_ok qh10 (Int.natCast_nonneg _); omega
   ·refine WC.exit ?_
    refine hK4 _ _ ?_
    refine WC.rr tbk hs5 [] rfl trivial ?_
    refine WC.ret ?_
    refine retV1 rfl (resV.tmp rfl) ?_
    refine ⟨congrArg Ending.returned ?_, hs5.nil⟩
    have h9 : a.take i = a := List.take_of_length_le (by omega)
    rw [h9] at p2
    rw [szR_le (by omega)]
    congr 1; omega
theorem c_laws_eqRowS (A_a : Option Addr) (n_a c_a : Nat) (a : List RowR) (A_b : Option Addr) (n_b c_b : Nat) (b : List RowR) (w : World) (f_a : SlN encRowR (okRowR 549755813888) w A_a n_a a) (f_b : SlN encRowR (okRowR 549755813888) w A_b n_b b) (hn : n_a ≤ 549755813888) (hab : a.map RowR.dat = b.map RowR.dat) :
    Calls Tryz.prog 79 #[.slice A_a n_a c_a, .slice A_b n_b c_b] w fun e w' => e = .returned (.bool true) ∧ St w [] [] w' := by
 have hla := f_a.sl.len
 obtain rfl : n_a = n_b := by have h9 := congrArg List.length hab; simp only [List.length_map] at h9; rw [← hla, h9]; exact f_b.sl.len
 refine enter (vs := [.slice A_a n_a c_a, .slice A_b n_a c_b]) 27 Tryz.func79 rfl Tryz.ntmps79 rfl rfl ?_
 have hs1 := St.init w
 refine WC.rr tbk hs1 [] rfl trivial ?_
 refine WC.seq (fun K2 hK2 => ?_)
 refine WC.rr tbk hs1 [] rfl trivial ?_
 refine WC.condF rfl (by simp) ?_
 refine WC.skip ?_
 refine hK2 _ _ ?_
 refine WC.seq (fun K4 hK4 => ?_)
 refine WC.rr tbk hs1 [] rfl trivial ?_
 refine WC.block ?_
 refine WC.loopS [(0, _), (1, _), (10, _)] ⟨rfl, rfl, rfl, trivial⟩ hs1 (fun k_ f w' => ∃ (i : Nat), k_ = n_a - i ∧ (i ≤ n_a) ∧ Sub [(5, .int .i64 i)] f) ((fun (i : Nat) => n_a - i) (0)) ?_ ?_
 ·refine ⟨0, rfl, ?_, ⟨rfl, trivial⟩⟩
  · exact Nat.zero_le _
 ·clear hs1
  rintro _ f w ⟨i, rfl, p0, hG⟩ hF hs5
  refine WC.sub _ (hG.app hF) ?_
  clear hG hF
  refine WC.seq (fun K6 hK6 => ?_)
  refine WC.rr tbk hs5 [] rfl trivial ?_
  refine WC.cD rfl (fun qh7 => ?_) (fun qh7 => ?_)
  ·have hab_ := gat_dat (F := encRowR) (i := i) hab (by omega)
   refine WC.skip ?_
   refine hK6 _ _ ?_
   refine WC.seq (fun K8 hK8 => ?_)
   refine WC.block ?_
   refine WC.sq hs5 mixed (by kernel_rfl) ?_
   refine WQ.run tbk 2 [] rfl trivial ?_
   refine WQ.val rfl rfl rfl (fun w_ hs_ => (Run.idxN Tryz.runUnderlying31 Tryz.sizeOf98 rfl rfl rfl ?_ ?_ ?_)) ?_
   · exact SlF.some_ (SlF.st0 f_a.sl (hs_ : St _ _ _ _))
   · omega
   · omega
   refine WQ.val rfl rfl rfl (fun w_ hs_ => (Run.loadA Tryz.isAgg98 Tryz.sizeOf98 rfl rfl (SlF.whole (SlF.st0 f_a.sl (hs_ : St _ _ _ _)) ?_))) ?_
   · omega
   refine WQ.run tbk 2 [] rfl trivial ?_
   refine WQ.val rfl rfl rfl (fun w_ hs_ => (Run.idxN Tryz.runUnderlying31 Tryz.sizeOf98 rfl rfl rfl ?_ ?_ ?_)) ?_
   · exact SlF.some_ (SlF.st0 f_b.sl (hs_ : St _ _ _ _))
   · omega
   · omega
   refine WQ.val rfl rfl rfl (fun w_ hs_ => (Run.loadA Tryz.isAgg98 Tryz.sizeOf98 rfl rfl (SlF.whole (SlF.st0 f_b.sl (hs_ : St _ _ _ _)) ?_))) ?_
   · omega
   refine WQ.call rfl rfl rfl (fun w_ hs_ => (Run.call Tryz.call159 rfl rfl rfl)) (fun w_ hs_ => (c_laws_eqRow (gat encRowR a i) (gat encRowR b i) _ (okRowR.st0 (SlN.nth f_a (by omega)) (hs_ : St _ _ _ _)) (okRowR.st0 (SlN.nth f_b (by omega)) (hs_ : St _ _ _ _)) ?_).mono fun e_ w_ h_ => ⟨h_.1, (hs_ : St _ _ _ _).call0 h_.2⟩) ?_
   · first | assumption | rfl | omega
   refine WQ.run tbk 1 [] rfl trivial ?_
   refine WQ.nil (fun _ (hs9 : St _ _ _ _) => ?_)
   refine WC.condF rfl (by simp) ?_
   refine WC.skip ?_
   refine hK8 _ _ ?_
   refine WC.region ?_
   refine WL.run tbk 3 hs9 [] rfl ⟨by omega, trivial⟩ ?_
   refine WL.nil ?_
   refine tkN ?_
   refine ⟨⟨rfl, rfl, rfl, trivial⟩, hs9, _, ?_, i + 1, rfl, ?_, ⟨rfl, trivial⟩⟩
   · omega
   · omega
  ·refine WC.exit ?_
   refine hK4 _ _ ?_
   refine WC.rr tbk hs5 [] rfl trivial ?_
   refine WC.ret ?_
   refine retV1 rfl (resV.tmp rfl) ?_
   refine ⟨congrArg Ending.returned ?_, hs5.nil⟩
   rfl
theorem c_laws_toRowS (A_a : Option Addr) (n_a c_a : Nat) (a : List RowR) (w : World) (f_a : SlN encRowR (okRowR 549755813888) w A_a n_a a) (hn : n_a ≤ 549755813888) :
    Calls Tryz.prog 73 #[.slice A_a n_a c_a] w fun e w' => ∃ A c xs L1, e = .returned (.slice A n_a c) ∧ St w [] L1 w' ∧ OwnN encRowR ownRowR 98 (.slice A n_a c) xs L1 ∧ xs.map RowR.dat = a.map RowR.dat := by
 have hl := f_a.sl.len
 refine enter (vs := [.slice A_a n_a c_a]) 23 Tryz.func73 rfl Tryz.ntmps73 rfl rfl ?_
 have hs1 := St.init w
 refine WC.rr tbk hs1 [] rfl trivial ?_
 refine WC.sr ?_
 refine WL.run tbk 2 hs1 [] rfl trivial ?_
 refine WL.makeF (F := encRowR) hs1 Tryz.underlying31 info_98 rfl rfl rfl rfl rfl rfl rfl rfl rfl ?_ ?_ (fun A5 c6 L2 whs3 hs3 ho4 => ?_)
 · have e_ : Tryz.t98.bytes = 24 := rfl
   rw [e_]; omega
 · omega
 obtain ⟨L7, hs8, ho9⟩ := OwnN.new (own := ownRowR) hs3 ho4 (OwnF.nil _ _)
 refine WL.run tbk 1 hs8 [] rfl trivial ?_
 refine WL.nil ?_
 refine WC.seq (fun K10 hK10 => ?_)
 refine WC.rr tbk hs8 [] rfl trivial ?_
 refine WC.block ?_
 refine WC.loopO [(0, _), (2, _)] ⟨rfl, rfl, trivial⟩ hs8 (fun k_ f L_ => ∃ (i : Nat) (ys : List RowR) (A11 : Option Addr) (c12 : Nat), k_ = n_a - i ∧ (i ≤ n_a) ∧ (ys.length = i) ∧ (ys.map RowR.dat = (a.take i).map RowR.dat) ∧ OwnN encRowR ownRowR 98 (.slice A11 (n_a) c12) (ys ++ List.replicate (n_a - i) encRowR.dflt) L_ ∧ Sub [(3, .slice A11 (n_a) c12), (4, .int .i64 i)] f) (((fun (i : Nat) (ys : List RowR) => n_a - i) (0) ([]))) ?_ ?_
 ·refine ⟨0, [], _, _, rfl, ?_, ?_, ?_, (by simpa using ho9), ⟨rfl, rfl, trivial⟩⟩
  · exact Nat.zero_le _
  · rfl
  · rfl
 ·clear hs8
  rintro _ f w L13 ⟨i, ys, A11, c12, rfl, p0, p1, p2, ho14, hG⟩ hF hs15
  refine WC.sub _ (hG.app hF) ?_
  clear hG hF
  have hlen : (ys ++ List.replicate (n_a - i) encRowR.dflt).length = n_a := by simp; omega
  refine WC.seq (fun K16 hK16 => ?_)
  refine WC.rr tbk hs15 [] rfl trivial ?_
  refine WC.cond rfl (fun h17 => ?_) (fun h17 => ?_)
  ·have qh17 := h17
   try simp only [bf, within_iff, within_not] at qh17
   refine WC.skip ?_
   refine hK16 _ _ ?_
   refine WC.seq (fun K18 hK18 => ?_)
   refine WC.block ?_
   refine WC.region ?_
   refine WL.run tbk 4 hs15 [] rfl trivial ?_
   refine WL.val rfl rfl rfl (Run.idxN Tryz.runUnderlying48 Tryz.sizeOf172 rfl rfl rfl ?_ ?_ ?_) ?_
   · exact SlF.some_ (SlF.st0 f_a.sl hs15)
   · omega
   · omega
   refine WL.val rfl rfl rfl (Run.loadA Tryz.isAgg172 Tryz.sizeOf172 rfl rfl (SlF.whole (SlF.st0 f_a.sl hs15) ?_)) ?_
   · omega
   refine WL.call rfl rfl rfl (Run.call Tryz.call149 rfl rfl rfl) (c_laws_toRow (gat encRowR a i) _ (okRowR.st0 (SlN.nth f_a (by omega)) hs15)) ?_
   rintro _ whs19 ⟨r20, L1_21, rfl, hs19, ho22, hd23⟩
   replace hs19 := hs15.callF hs19
   refine ⟨_, rfl, ?_⟩
   refine WL.val rfl rfl rfl (Run.idxN Tryz.runUnderlying31 Tryz.sizeOf98 rfl rfl rfl ?_ ?_ ?_) ?_
   · exact SlF.some_ (OwnN.sl ho14 (fun p_ hp_ => (hs19.own p_ (List.mem_append_right _ (List.mem_append_left _ hp_))).1))
   · omega
   · omega
   obtain ⟨L24, L25, hs28, ho26, ho27⟩ := OwnN.open_ (St.perm hs19 (L' := L13 ++ _) (perm_front (A := L1_21) (List.Perm.refl _))) ho14
   refine WL.storeF1 (x' := r20) hs28 ho26 Tryz.sizeOf98 rfl rfl rfl rfl rfl rfl rfl rfl rfl ?_ rfl (fun L29 whs30 hs30 ho31 _ => ?_)
   · omega
   obtain ⟨L32, hs34, hb33⟩ := Bag.replace (r := r20) (i := i) (St.perm (St.perm hs30 (L' := L1_21 ++ _) (perm_front (A := L29) (perm_front (A := L25) (List.Perm.refl _)))) (L' := L25 ++ _) (perm_front (A := L1_21) (perm_front (A := L29) (List.Perm.refl _)))) ho27 (by omega) ho22
   refine WL.nil ?_
   refine hK18 _ _ ?_
   refine WC.region ?_
   refine WL.run tbk 3 hs34 [] rfl ⟨by omega, trivial⟩ ?_
   refine WL.nil ?_
   refine tkN ?_
   obtain ⟨L36, hs35, ho37⟩ := OwnN.fold (St.perm hs34 (L' := L29 ++ _) (perm_front (A := L32) (List.Perm.refl _))) ho31 hb33
   rw [set_at p1 (by omega)] at ho37
   refine ⟨⟨rfl, rfl, trivial⟩, _, hs35, _, ?_, i + 1, (ys ++ [r20]), _, _, rfl, ?_, ?_, ?_, ho37, ⟨rfl, rfl, trivial⟩⟩
   · omega
   · omega
   · simp; omega
   · rw [List.map_append, p2, map_take_succ (F := encRowR) (by omega)]; congr 1 <;> simp only [List.map_cons, List.map_nil] <;> congr 1 <;> assumption
  ·have qh17 := h17
   try simp only [bf, within_iff, within_not] at qh17
   refine WC.exit ?_
   refine hK10 _ _ ?_
   refine WC.rr tbk hs15 [] rfl trivial ?_
   refine WC.ret ?_
   refine retV1 rfl (resV.tmp rfl) ?_
   have hi_ : i = n_a := by omega
   subst hi_
   have hx_ := ho14
   simp only [Nat.sub_self, List.replicate_zero, List.append_nil] at hx_
   exact ⟨_, _, ys, _, rfl, (St.keep1 hs15), hx_, by rw [p2, List.take_of_length_le (by omega)]⟩
theorem c_laws_markRowS (v_a : Value) (a : List RowR) (L_a : Hp) (k : Int) (w : World) (o_a : OwnN encRowR ownRowR 98 v_a a L_a) (h_a : ∀ p, p ∈ L_a → w.heap[p.1]? = some p.2) (hd_ : ((L_a).map (·.1)).Nodup) (h1 : 0 ≤ k) (h2 : k + cnts cntERow a ≤ 549755813888) (h3 : a.length ≤ 549755813888) :
    Calls Tryz.prog 81 #[v_a, i64 k] w fun e w' => ∃ L1, e = .returned (.int .i64 (k + cnts cntERow a)) ∧ St w (L_a.map (·.1)) L1 w' ∧ OwnN encRowR ownRowR 98 v_a (mrks mkERow cntERow k a) L1 := by
 obtain ⟨A_a, c_a, rfl⟩ := o_a.shape
 have hcn : ∀ x, 0 ≤ cntERow x := fun x => by simp only [cntERow]; omega
 refine enter (vs := [.slice A_a a.length c_a, i64 k]) 20 Tryz.func81 rfl Tryz.ntmps81 rfl rfl ?_
 have hs1 := St.takes1 w L_a h_a hd_
 refine WC.rr tbk hs1 [] rfl trivial ?_
 refine WC.seq (fun K2 hK2 => ?_)
 refine WC.rr tbk hs1 [] rfl trivial ?_
 refine WC.block ?_
 refine WC.loopO [(4, _)] ⟨rfl, trivial⟩ hs1 (fun k_ f L_ => ∃ (i : Nat), k_ = a.length - i ∧ (i ≤ a.length) ∧ OwnN encRowR ownRowR 98 (.slice A_a (a.length) c_a) (mrkTo mkERow cntERow k a i) L_ ∧ Sub [(0, .slice A_a (a.length) c_a), (5, .int .i64 i), (1, .int .i64 (k + cnts cntERow (a.take i)))] f) (((fun (i : Nat) => a.length - i) (0))) ?_ ?_
 ·refine ⟨0, rfl, ?_, (mrkTo_zero.symm ▸ o_a), ⟨rfl, rfl, ?_, trivial⟩⟩
  · exact Nat.zero_le _
  · (refine congrArg some (congrArg (Value.int _) ?_); simp [cnts])
 ·clear hs1
  rintro _ f w L5 ⟨i, rfl, p0, ho6, hG⟩ hF hs7
  refine WC.sub _ (hG.app hF) ?_
  clear hG hF
  have hfl : (mrkTo mkERow cntERow k a i).length = a.length := mrkTo_len p0
  have hq0 := cnts_nonneg (c := cntERow) hcn (a.take i)
  have hq1 := cnts_take_le hcn a i
  refine WC.seq (fun K8 hK8 => ?_)
  refine WC.rr tbk hs7 [] rfl trivial ?_
  refine WC.cond rfl (fun h9 => ?_) (fun h9 => ?_)
  ·have qh9 := h9
   try simp only [bf, within_iff, within_not] at qh9
   have hg := mrkTo_gat (mk := mkERow) (c := cntERow) (F := encRowR) (k := k) (xs := a) (i := i) (by omega)
   have hq2 := cnts_take (c := cntERow) (F := encRowR) (xs := a) (i := i) (by omega)
   have hq3 := cnts_take_le hcn a (i + 1)
   have hq4 := hq2
   simp only [cntERow, ← hg] at hq4
   have hgn : (gat encRowR (mrkTo mkERow cntERow k a i) i) = gat encRowR a i := hg
   refine WC.skip ?_
   refine hK8 _ _ ?_
   refine WC.seq (fun K10 hK10 => ?_)
   refine WC.block ?_
   refine WC.region ?_
   refine WL.run tbk 2 hs7 [] rfl trivial ?_
   refine WL.val rfl rfl rfl (Run.idxN Tryz.runUnderlying31 Tryz.sizeOf98 rfl rfl rfl ?_ ?_ ?_) ?_
   · exact SlF.some_ (OwnN.sl ho6 (fun p_ hp_ => (hs7.own p_ (List.mem_append_left _ hp_)).1))
   · omega
   · omega
   refine WL.val rfl rfl rfl (Run.fieldO Tryz.runUnderlying98 rfl rfl rfl Tryz.sizeOf26 rfl) ?_
   refine WL.val rfl rfl rfl (Run.load Tryz.isAgg26 rfl rfl (SlF.fld (OwnN.sl ho6 (fun p_ hp_ => (hs7.own p_ (List.mem_append_left _ hp_)).1)) ?_ rfl)) ?_
   · omega
   refine WL.run tbk 1 hs7 [] rfl trivial ?_
   obtain ⟨L12, L13, hs16, ho14, ho15⟩ := OwnN.open_ hs7 ho6
   obtain ⟨L17, L18, L19, hs20, ho21, hp22⟩ := Bag.out (F := encRowR) (i := i) (St.perm hs16 (L' := L13 ++ _) (perm_front (A := L12) (List.Perm.refl _))) ho15 (by rw [mrkTo_len (by omega)]; omega)
   refine WL.call rfl rfl rfl (Run.call Tryz.call160 rfl rfl rfl) (c_laws_markCellS _ _ _ _ _ ho21 (fun p_ hp_ => (hs20.own p_ (List.mem_append_left _ hp_)).1) ?_ ?_ ?_) ?_
   · first | assumption | rfl | omega
   · first | assumption | rfl | omega
   · first | assumption | rfl | omega
   rintro _ whs11 ⟨L1_23, rfl, hs11, ho24⟩
   replace hs11 := St.lend hs20 hs11
   refine ⟨_, rfl, ?_⟩
   refine WL.run tbk 1 hs11 [] rfl trivial ?_
   refine WL.nil ?_
   refine hK10 _ _ ?_
   refine WC.region ?_
   refine WL.run tbk 3 hs11 [] rfl ⟨by omega, trivial⟩ ?_
   refine WL.nil ?_
   refine tkN ?_
   obtain ⟨L25, hs26, hb27⟩ := hp22 (mkERow (k + cnts cntERow (a.take i)) (gat encRowR a i)) _ (St.perm (St.perm hs11 (L' := (L17 ++ L19) ++ _) (perm_front (A := L1_23) (List.Perm.refl _))) (L' := L1_23 ++ _) (perm_front (A := (L17 ++ L19)) (List.Perm.refl _))) (by have h_ := ho24; first | exact h_ | (simp only [hg] at h_; exact h_))
   rw [mrkTo_set (F := encRowR) (by omega) rfl] at hb27
   have ho28 := OwnF.recast (ys := mrkTo mkERow cntERow k a (i + 1)) ho14 (by rw [mrkTo_len (by omega)]; (try simp only [List.length_set]); exact hfl.symm) (by rw [← mrkTo_set (F := encRowR) (i := i) (by omega) rfl]; exact rows_set_eq (by rw [mrkTo_len (by omega)]; omega) (by rw [hg]; rfl))
   obtain ⟨L30, hs29, ho31⟩ := OwnN.fold (St.perm hs26 (L' := L12 ++ _) (perm_front (A := L25) (List.Perm.refl _))) ho28 hb27
   refine ⟨⟨rfl, trivial⟩, _, hs29, _, ?_, i + 1, rfl, ?_, ho31, ⟨rfl, rfl, ?_, trivial⟩⟩
   · omega
   · omega
   · (refine congrArg some (congrArg (Value.int _) ?_); rw [cnts_take (F := encRowR) (by omega)]; simp only [cntERow, hg]; omega)
  ·have qh9 := h9
   try simp only [bf, within_iff, within_not] at qh9
   refine WC.exit ?_
   refine hK2 _ _ ?_
   refine WC.rr tbk hs7 [] rfl trivial ?_
   refine WC.ret ?_
   refine retV1 rfl (resV.tmp rfl) ?_
   have hi_ : i = a.length := by omega
   have hx_ := ho6
   rw [mrkTo_full (by omega)] at hx_
   refine ⟨_, ?_, (St.keep1 hs7), hx_⟩
   rw [hi_, List.take_of_length_le (Nat.le_refl _)]
theorem c_laws_heldRowS (A_a : Option Addr) (n_a c_a : Nat) (a : List RowR) (k : Int) (w : World) (f_a : SlN encRowR (okRowR 549755813888) w A_a n_a (mrks mkERow cntERow k a)) (h1 : 0 ≤ k) (h2 : k + cnts cntERow a ≤ 549755813888) (h3 : n_a ≤ 549755813888) :
    Calls Tryz.prog 84 #[.slice A_a n_a c_a, i64 k] w fun e w' => e = .returned (.int .i64 (k + cnts cntERow a)) ∧ St w [] [] w' := by
 have hl : a.length = n_a := by have h_ := f_a.sl.len; simpa [mrks_len] using h_
 have hcn : ∀ x, 0 ≤ cntERow x := fun x => by simp only [cntERow]; omega
 refine enter (vs := [.slice A_a n_a c_a, i64 k]) 22 Tryz.func84 rfl Tryz.ntmps84 rfl rfl ?_
 have hs1 := St.init w
 refine WC.rr tbk hs1 [] rfl trivial ?_
 refine WC.seq (fun K2 hK2 => ?_)
 refine WC.rr tbk hs1 [] rfl trivial ?_
 refine WC.block ?_
 refine WC.loopS [(0, _)] ⟨rfl, trivial⟩ hs1 (fun k_ f w' => ∃ (i : Nat), k_ = n_a - i ∧ (i ≤ n_a) ∧ Sub [(5, .int .i64 i), (1, .int .i64 (k + cnts cntERow (a.take i)))] f) ((fun (i : Nat) => n_a - i) (0)) ?_ ?_
 ·refine ⟨0, rfl, ?_, ⟨rfl, ?_, trivial⟩⟩
  · exact Nat.zero_le _
  · (refine congrArg some (congrArg (Value.int _) ?_); simp [cnts])
 ·clear hs1
  rintro _ f w ⟨i, rfl, p0, hG⟩ hF hs3
  refine WC.sub _ (hG.app hF) ?_
  clear hG hF
  have hq0 := cnts_nonneg (c := cntERow) hcn (a.take i)
  have hq1 := cnts_take_le hcn a i
  refine WC.seq (fun K4 hK4 => ?_)
  refine WC.rr tbk hs3 [] rfl trivial ?_
  refine WC.cD rfl (fun qh5 => ?_) (fun qh5 => ?_)
  ·have hg := mrks_gat (mk := mkERow) (c := cntERow) (F := encRowR) (k := k) (xs := a) (i := i) (by omega)
   have hq2 := cnts_take (c := cntERow) (F := encRowR) (xs := a) (i := i) (by omega)
   have hq3 := cnts_take_le hcn a (i + 1)
   simp only [cntERow] at hq2
   have hng := (SlN.nth f_a (show i < n_a by omega))
   rw [hg] at hng
   have hnl_Cells := hng.Cells.len
   have hnn_Cells := hng.Cells_n
   simp only [mkERow, marks_len, mrks_len] at hnl_Cells hnn_Cells
   have hgn_Cells : (gat encRowR (mrks mkERow cntERow k a) i).Cells.n = (gat encRowR a i).Cells.n := by rw [hg]; rfl
   have hm_Cells : (gat encRowR (mrks mkERow cntERow k a) i).Cells.xs = marks mkCell 6 (k + cnts cntERow (a.take i)) (gat encRowR a i).Cells.xs.length := by rw [hg]; rfl
   refine WC.skip ?_
   refine hK4 _ _ ?_
   refine WC.seq (fun K6 hK6 => ?_)
   refine WC.block ?_
   refine WC.sr ?_
   refine WL.run tbk 2 hs3 [] rfl trivial ?_
   refine WL.val rfl rfl rfl (Run.idxN Tryz.runUnderlying31 Tryz.sizeOf98 rfl rfl rfl ?_ ?_ ?_) ?_
   · exact SlF.some_ (SlF.st0 f_a.sl hs3)
   · omega
   · omega
   refine WL.val rfl rfl rfl (Run.fieldO Tryz.runUnderlying98 rfl rfl rfl Tryz.sizeOf26 rfl) ?_
   refine WL.val rfl rfl rfl (Run.load Tryz.isAgg26 rfl rfl (SlF.fld (SlF.st0 f_a.sl hs3) ?_ rfl)) ?_
   · omega
   refine WL.run tbk 1 hs3 [] rfl trivial ?_
   refine WL.call rfl rfl rfl (Run.call Tryz.call161 rfl rfl rfl) (c_laws_heldCellS _ _ _ _ _ _ _ (SlF.st0 (SlN.nth f_a (by omega)).Cells hs3) hm_Cells ?_ ?_ ?_) ?_
   · first | assumption | rfl | omega
   · first | assumption | rfl | omega
   · first | assumption | rfl | omega
   rintro _ whs7 ⟨rfl, hs7⟩
   replace hs7 := hs3.call0 hs7
   refine ⟨_, rfl, ?_⟩
   refine WL.run tbk 1 hs7 [] rfl trivial ?_
   refine WL.nil ?_
   refine WC.rr tbk hs7 [] rfl trivial ?_
   refine WC.condF rfl (by first | (simp [hg, mkERow]; done) | (simp [hg, mkERow]; omega)) ?_
   refine WC.skip ?_
   refine hK6 _ _ ?_
   refine WC.region ?_
   refine WL.run tbk 3 hs7 [] rfl ⟨by omega, trivial⟩ ?_
   refine WL.nil ?_
   refine tkN ?_
   refine ⟨⟨rfl, trivial⟩, hs7, _, ?_, i + 1, rfl, ?_, ⟨rfl, ?_, trivial⟩⟩
   · omega
   · omega
   · (refine congrArg some (congrArg (Value.int _) ?_); rw [cnts_take (F := encRowR) (by omega)]; simp only [cntERow]; omega)
  ·refine WC.exit ?_
   refine hK2 _ _ ?_
   refine WC.rr tbk hs3 [] rfl trivial ?_
   refine WC.ret ?_
   refine retV1 rfl (resV.tmp rfl) ?_
   refine ⟨congrArg Ending.returned ?_, hs3.nil⟩
   rw [show i = a.length from by omega, List.take_of_length_le (Nat.le_refl _)]
set_option maxHeartbeats 4000000 in
theorem c_laws_markGrid (a : GridR) (L_a : Hp) (k : Int) (w : World) (o_a : ownGridR a L_a) (h_a : ∀ p, p ∈ L_a → w.heap[p.1]? = some p.2) (hd_ : ((L_a).map (·.1)).Nodup) (h1 : 0 ≤ k) (h2 : endGrid k a ≤ 549755813888) :
    Calls Tryz.prog 80 #[.agg #[i64 a.W, i64 a.H, .slice a.Cells.A a.Cells.n a.Cells.c], i64 k] w fun e w' => ∃ L1, e = .returned (.int .i64 (endGrid k a)) ∧ St w (L_a.map (·.1)) L1 w' ∧ ownGridR (markGrid k a) L1 := by
 have hq2 := h2
 simp only [endGrid] at hq2
 refine enter (vs := [.agg #[i64 a.W, i64 a.H, .slice a.Cells.A a.Cells.n a.Cells.c], i64 k]) 10 Tryz.func80 rfl Tryz.ntmps80 rfl rfl ?_
 have hs1 := St.takes1 w L_a h_a hd_
 refine WC.sr ?_
 refine WL.bx hs1 rfl (fun b2 _ hs3 => ?_)
 refine WL.run tbk 1 hs3 [] rfl trivial ?_
 refine WL.nil ?_
 refine WC.sr ?_
 refine WL.run tbk 3 hs3 [0] rfl ⟨rfl, trivial⟩ ?_
 refine WL.call rfl rfl rfl (Run.call Tryz.call160 rfl rfl rfl) (c_laws_markCellS _ _ _ _ _ o_a (fun p_ hp_ => (hs3.own p_ (List.mem_append_right [_] (List.mem_append_left _ hp_))).1) ?_ ?_ ?_) ?_
 · first | (first | assumption | rfl | omega) | (simp only [endGrid]; omega)
 · first | (first | assumption | rfl | omega) | (simp only [endGrid]; omega)
 · first | (first | assumption | rfl | omega) | (simp only [endGrid]; omega)
 rintro _ whs4 ⟨L1_5, rfl, hs4, ho6⟩
 replace hs4 := St.lend (St.perm hs3 (L' := L_a ++ _) (perm_front (A := [_]) (List.Perm.refl _))) hs4
 refine ⟨_, rfl, ?_⟩
 replace hs4 := St.back [_] hs4
 refine WL.run tbk 1 hs4 [] rfl trivial ?_
 refine WL.nil ?_
 refine WC.rr tbk hs4 [] rfl trivial ?_
 refine WC.ret ?_
 refine retV1 rfl (resV.tmp rfl) ?_
 refine ⟨_, congrArg Ending.returned ?_, (St.keep1 (St.perm hs4 (L' := L1_5 ++ _) (perm_front (A := [_]) (List.Perm.refl _)))), ho6⟩
 first | rfl | (simp [endGrid]; done) | (simp [endGrid]; omega)
set_option maxHeartbeats 4000000 in
theorem c_laws_heldGrid (a : GridR) (k : Int) (w : World) (f_a : okGridR 549755813888 w (markGrid k a)) (h1 : 0 ≤ k) (h2 : endGrid k a ≤ 549755813888) :
    Calls Tryz.prog 82 #[.agg #[i64 a.W, i64 a.H, .slice a.Cells.A a.Cells.n a.Cells.c], i64 k] w fun e w' => e = .returned (.int .i64 (endGrid k a)) ∧ St w [] [] w' := by
 have nb_Cells : a.Cells.n ≤ 549755813888 := f_a.Cells_n
 have nl_Cells : a.Cells.xs.length = a.Cells.n := by have h_ := f_a.Cells.len; simpa [markGrid, marks_len, mrks_len] using h_
 have nb_Cells : a.Cells.n ≤ 549755813888 := f_a.Cells_n
 have nl_Cells : a.Cells.xs.length = a.Cells.n := by have h_ := f_a.Cells.len; simpa [markGrid, marks_len, mrks_len] using h_
 have hq2 := h2
 simp only [endGrid] at hq2
 refine enter (vs := [.agg #[i64 a.W, i64 a.H, .slice a.Cells.A a.Cells.n a.Cells.c], i64 k]) 12 Tryz.func82 rfl Tryz.ntmps82 rfl rfl ?_
 have hs1 := St.init w
 refine WC.sr ?_
 refine WL.bx hs1 rfl (fun b2 _ hs3 => ?_)
 refine WL.run tbk 1 hs3 [] rfl trivial ?_
 refine WL.nil ?_
 refine WC.sr ?_
 refine WL.run tbk 3 hs3 [0] rfl ⟨rfl, trivial⟩ ?_
 refine WL.call rfl rfl rfl (Run.call Tryz.call161 rfl rfl rfl) (c_laws_heldCellS _ _ _ _ _ _ _ (SlF.st0 f_a.Cells hs3) rfl ?_ ?_ ?_) ?_
 · first | (first | assumption | rfl | omega) | (simp only [endGrid]; omega)
 · first | (first | assumption | rfl | omega) | (simp only [endGrid]; omega)
 · first | (first | assumption | rfl | omega) | (simp only [endGrid]; omega)
 rintro _ whs4 ⟨rfl, hs4⟩
 replace hs4 := hs3.call0 hs4
 refine ⟨_, rfl, ?_⟩
 refine WL.run tbk 1 hs4 [] rfl trivial ?_
 refine WL.nil ?_
 refine WC.seq (fun K5 hK5 => ?_)
 refine WC.rr tbk hs4 [] rfl trivial ?_
 refine WC.condF rfl (by first | (simp; omega) | (rw [decide_eq_false_iff_not]; simp only [endGrid]; omega)) ?_
 refine WC.skip ?_
 refine hK5 _ _ ?_
 refine WC.rr tbk hs4 [] rfl trivial ?_
 refine WC.ret ?_
 refine retV1 rfl (resV.tmp rfl) ?_
 refine ⟨congrArg Ending.returned ?_, hs4.nil⟩
 first | rfl | (simp [endGrid, *]; done) | (simp [endGrid, *]; omega)
end Go.Proofs.YtjmegoiclgancaaGreat
namespace Go.Proofs.YtjmegoiclgancaaGreat
open Go Go.RowKit
set_option linter.unusedVariables false
set_option linter.unusedSimpArgs false
theorem c_spec_Shows (n : Int) (w : World) :
    Calls Tryz.prog 199 #[i64 n] w fun e w' => e = .returned (.bool (shows n)) ∧ St w [] [] w' := by
 refine enter (vs := [i64 n]) 25 Tryz.func199 rfl Tryz.ntmps199 rfl rfl ?_
 have hs1 := St.init w
 refine WC.rr tbk hs1 [] rfl trivial ?_
 refine WC.sr ?_
 refine WL.run tbk 3 hs1 [] rfl trivial ?_
 refine WL.pA tbk 2 Acts.nil hs1 [] rfl rfl rfl rfl (fun g_ => trivial) ?_
 refine WL.run tbk 1 hs1 [] rfl trivial ?_
 apply WL.gO 14 Acts.nil hs1 rfl
 ·intro g2 J3
  have qg2 := g2
  try simp only [bf, within_iff, within_not] at qg2
  refine WL.runA tbk 3 (Acts.nil.cons (j := 6) rfl g2) hs1 [] rfl trivial ?_
  refine WL.pA tbk 2 (Acts.nil.cons (j := 6) rfl g2) hs1 [] rfl rfl rfl rfl (fun g_ => trivial) ?_
  refine WL.runA tbk 1 (Acts.nil.cons (j := 6) rfl g2) hs1 [] rfl trivial ?_
  apply WL.gA 6 (Acts.nil.cons (j := 6) rfl g2) hs1 rfl
  ·intro g4 J5
   have qg4 := g4
   try simp only [bf, within_iff, within_not] at qg4
   refine WL.runA tbk 3 (Acts.nil.cons (j := 13) rfl g4) hs1 [] rfl trivial ?_
   refine WL.pO tbk 2 (Acts.nil.cons (j := 13) rfl g4) hs1 [] rfl rfl rfl rfl (fun g_ => trivial) ?_
   exact WL.eA 4 (Acts.nil.cons (j := 6) rfl g2) J5 hs1 g4 rfl rfl
  ·intro _ hs6
   exact WL.eO 6 Acts.nil J3 hs6 g2 rfl rfl
 ·intro _ hs7
  refine WL.run tbk 1 hs7 [] rfl trivial ?_
  refine WL.nil ?_
  refine WC.ret ?_
  refine retV1 rfl (resV.tmp rfl) ?_
  refine ⟨congrArg Ending.returned ?_, hs7.nil⟩
  refine congrArg Value.bool ?_; rw [Bool.eq_iff_iff]; simp [shows, within] <;> omega
theorem c_impl_AttrOk (a_Fg : Int) (a_Bg : Int) (a_Bold : Bool) (a_Under : Bool) (a_Turn : Bool) (w : World) :
    Calls Tryz.prog 95 #[.agg #[i64 a_Fg, i64 a_Bg, .bool a_Bold, .bool a_Under, .bool a_Turn]] w fun e w' => e = .returned (.bool (attrOk a_Fg a_Bg)) ∧ St w [] [] w' := by
 refine enter (vs := [.agg #[i64 a_Fg, i64 a_Bg, .bool a_Bold, .bool a_Under, .bool a_Turn]]) 11 Tryz.func95 rfl Tryz.ntmps95 rfl rfl ?_
 have hs1 := St.init w
 refine WC.sr ?_
 refine WL.bx hs1 rfl (fun b2 _ hs3 => ?_)
 refine WL.run tbk 1 hs3 [] rfl trivial ?_
 refine WL.nil ?_
 refine WC.sr ?_
 refine WL.run tbk 2 hs3 [0] rfl ⟨rfl, trivial⟩ ?_
 refine WL.call rfl rfl rfl (Run.call Tryz.call97 rfl rfl rfl) (c_impl_within _ _ _ _) ?_
 rintro _ whs4 ⟨rfl, hs4⟩
 replace hs4 := hs3.call0 hs4
 refine ⟨_, rfl, ?_⟩
 refine WL.run tbk 1 hs4 [] rfl trivial ?_
 apply WL.gA 3 Acts.nil hs4 rfl
 ·intro g5 J6
  have qg5 := g5
  try simp only [bf, within_iff, within_not] at qg5
  refine WL.runA tbk 2 (Acts.nil.cons (j := 3) rfl g5) hs4 [0] rfl ⟨rfl, trivial⟩ ?_
  refine WL.call (wantT rfl g5) rfl rfl (Run.call Tryz.call97 rfl rfl rfl) (c_impl_within _ _ _ _) ?_
  rintro _ whs7 ⟨rfl, hs7⟩
  replace hs7 := hs4.call0 hs7
  refine ⟨_, rfl, ?_⟩
  exact WL.eA 3 Acts.nil J6 hs7 g5 rfl rfl
 ·intro _ hs8
  refine WL.run tbk 1 hs8 [] rfl trivial ?_
  refine WL.nil ?_
  refine WC.ret ?_
  refine retV1 rfl (resV.tmp rfl) ?_
  refine ⟨congrArg Ending.returned ?_, hs8.nil⟩
  rfl
theorem c_spec_AttrOk (a_Fg : Int) (a_Bg : Int) (a_Bold : Bool) (a_Under : Bool) (a_Turn : Bool) (w : World) :
    Calls Tryz.prog 139 #[.agg #[i64 a_Fg, i64 a_Bg, .bool a_Bold, .bool a_Under, .bool a_Turn]] w fun e w' => e = .returned (.bool (attrOk a_Fg a_Bg)) ∧ St w [] [] w' := by
 refine enter (vs := [.agg #[i64 a_Fg, i64 a_Bg, .bool a_Bold, .bool a_Under, .bool a_Turn]]) 21 Tryz.func139 rfl Tryz.ntmps139 rfl rfl ?_
 have hs1 := St.init w
 refine WC.sr ?_
 refine WL.bx hs1 rfl (fun b2 _ hs3 => ?_)
 refine WL.run tbk 1 hs3 [] rfl trivial ?_
 refine WL.nil ?_
 refine WC.sr ?_
 refine WL.run tbk 4 hs3 [0] rfl ⟨rfl, trivial⟩ ?_
 refine WL.pA tbk 3 Acts.nil hs3 [0] rfl rfl rfl rfl (fun g_ => ⟨rfl, trivial⟩) ?_
 refine WL.run tbk 1 hs3 [] rfl trivial ?_
 refine WL.pA tbk 3 Acts.nil hs3 [0] rfl rfl rfl rfl (fun g_ => ⟨rfl, trivial⟩) ?_
 refine WL.run tbk 1 hs3 [] rfl trivial ?_
 refine WL.pA tbk 3 Acts.nil hs3 [0] rfl rfl rfl rfl (fun g_ => ⟨rfl, trivial⟩) ?_
 refine WL.run tbk 1 hs3 [] rfl trivial ?_
 refine WL.nil ?_
 refine WC.ret ?_
 refine retV1 rfl (resV.tmp rfl) ?_
 refine ⟨congrArg Ending.returned ?_, hs3.nil⟩
 simp [attrOk, within, Bool.and_assoc]
theorem c_impl_CellOk (c_R : Int) (c_A_Fg : Int) (c_A_Bg : Int) (c_A_Bold : Bool) (c_A_Under : Bool) (c_A_Turn : Bool) (w : World) :
    Calls Tryz.prog 113 #[.agg #[i64 c_R, i64 c_A_Fg, i64 c_A_Bg, .bool c_A_Bold, .bool c_A_Under, .bool c_A_Turn]] w fun e w' => e = .returned (.bool (cellOk ⟨c_R, ⟨c_A_Fg, c_A_Bg, c_A_Bold, c_A_Under, c_A_Turn⟩⟩)) ∧ St w [] [] w' := by
 refine enter (vs := [.agg #[i64 c_R, i64 c_A_Fg, i64 c_A_Bg, .bool c_A_Bold, .bool c_A_Under, .bool c_A_Turn]]) 11 Tryz.func113 rfl Tryz.ntmps113 rfl rfl ?_
 have hs1 := St.init w
 refine WC.sr ?_
 refine WL.bx hs1 rfl (fun b2 _ hs3 => ?_)
 refine WL.run tbk 1 hs3 [] rfl trivial ?_
 refine WL.nil ?_
 refine WC.sr ?_
 refine WL.run tbk 2 hs3 [0] rfl ⟨rfl, trivial⟩ ?_
 refine WL.call rfl rfl rfl (Run.call Tryz.call171 rfl rfl rfl) (c_impl_Shows _ _) ?_
 rintro _ whs4 ⟨rfl, hs4⟩
 replace hs4 := hs3.call0 hs4
 refine ⟨_, rfl, ?_⟩
 refine WL.run tbk 1 hs4 [] rfl trivial ?_
 apply WL.gA 3 Acts.nil hs4 rfl
 ·intro g5 J6
  have qg5 := g5
  try simp only [bf, within_iff, within_not] at qg5
  refine WL.runA tbk 2 (Acts.nil.cons (j := 3) rfl g5) hs4 [0] rfl ⟨rfl, trivial⟩ ?_
  refine WL.call (wantT rfl g5) rfl rfl (Run.call Tryz.call95 rfl rfl rfl) (c_impl_AttrOk _ _ _ _ _ _) ?_
  rintro _ whs7 ⟨rfl, hs7⟩
  replace hs7 := hs4.call0 hs7
  refine ⟨_, rfl, ?_⟩
  exact WL.eA 3 Acts.nil J6 hs7 g5 rfl rfl
 ·intro _ hs8
  refine WL.run tbk 1 hs8 [] rfl trivial ?_
  refine WL.nil ?_
  refine WC.ret ?_
  refine retV1 rfl (resV.tmp rfl) ?_
  refine ⟨congrArg Ending.returned ?_, hs8.nil⟩
  rfl
theorem c_spec_CellOk (c_R : Int) (c_A_Fg : Int) (c_A_Bg : Int) (c_A_Bold : Bool) (c_A_Under : Bool) (c_A_Turn : Bool) (w : World) :
    Calls Tryz.prog 203 #[.agg #[i64 c_R, i64 c_A_Fg, i64 c_A_Bg, .bool c_A_Bold, .bool c_A_Under, .bool c_A_Turn]] w fun e w' => e = .returned (.bool (cellOk ⟨c_R, ⟨c_A_Fg, c_A_Bg, c_A_Bold, c_A_Under, c_A_Turn⟩⟩)) ∧ St w [] [] w' := by
 refine enter (vs := [.agg #[i64 c_R, i64 c_A_Fg, i64 c_A_Bg, .bool c_A_Bold, .bool c_A_Under, .bool c_A_Turn]]) 11 Tryz.func203 rfl Tryz.ntmps203 rfl rfl ?_
 have hs1 := St.init w
 refine WC.sr ?_
 refine WL.bx hs1 rfl (fun b2 _ hs3 => ?_)
 refine WL.run tbk 1 hs3 [] rfl trivial ?_
 refine WL.nil ?_
 refine WC.sr ?_
 refine WL.run tbk 2 hs3 [0] rfl ⟨rfl, trivial⟩ ?_
 refine WL.call rfl rfl rfl (Run.call Tryz.call199 rfl rfl rfl) (c_spec_Shows _ _) ?_
 rintro _ whs4 ⟨rfl, hs4⟩
 replace hs4 := hs3.call0 hs4
 refine ⟨_, rfl, ?_⟩
 refine WL.run tbk 1 hs4 [] rfl trivial ?_
 apply WL.gA 3 Acts.nil hs4 rfl
 ·intro g5 J6
  have qg5 := g5
  try simp only [bf, within_iff, within_not] at qg5
  refine WL.runA tbk 2 (Acts.nil.cons (j := 3) rfl g5) hs4 [0] rfl ⟨rfl, trivial⟩ ?_
  refine WL.call (wantT rfl g5) rfl rfl (Run.call Tryz.call139 rfl rfl rfl) (c_spec_AttrOk _ _ _ _ _ _) ?_
  rintro _ whs7 ⟨rfl, hs7⟩
  replace hs7 := hs4.call0 hs7
  refine ⟨_, rfl, ?_⟩
  exact WL.eA 3 Acts.nil J6 hs7 g5 rfl rfl
 ·intro _ hs8
  refine WL.run tbk 1 hs8 [] rfl trivial ?_
  refine WL.nil ?_
  refine WC.ret ?_
  refine retV1 rfl (resV.tmp rfl) ?_
  refine ⟨congrArg Ending.returned ?_, hs8.nil⟩
  rfl
theorem c_impl_areCells_1 (c_R : Int) (c_A_Fg : Int) (c_A_Bg : Int) (c_A_Bold : Bool) (c_A_Under : Bool) (c_A_Turn : Bool) (w : World) :
    Calls Tryz.prog 197 #[.agg #[i64 c_R, i64 c_A_Fg, i64 c_A_Bg, .bool c_A_Bold, .bool c_A_Under, .bool c_A_Turn]] w fun e w' => e = .returned (.bool (!cellOk ⟨c_R, ⟨c_A_Fg, c_A_Bg, c_A_Bold, c_A_Under, c_A_Turn⟩⟩)) ∧ St w [] [] w' := by
 refine enter (vs := [.agg #[i64 c_R, i64 c_A_Fg, i64 c_A_Bg, .bool c_A_Bold, .bool c_A_Under, .bool c_A_Turn]]) 6 Tryz.func197 rfl Tryz.ntmps197 rfl rfl ?_
 have hs1 := St.init w
 refine WC.sr ?_
 refine WL.bx hs1 rfl (fun b2 _ hs3 => ?_)
 refine WL.run tbk 1 hs3 [] rfl trivial ?_
 refine WL.nil ?_
 refine WC.sr ?_
 refine WL.run tbk 1 hs3 [0] rfl ⟨rfl, trivial⟩ ?_
 refine WL.call rfl rfl rfl (Run.call Tryz.call113 rfl rfl rfl) (c_impl_CellOk _ _ _ _ _ _ _) ?_
 rintro _ whs4 ⟨rfl, hs4⟩
 replace hs4 := hs3.call0 hs4
 refine ⟨_, rfl, ?_⟩
 refine WL.run tbk 2 hs4 [] rfl trivial ?_
 refine WL.nil ?_
 refine WC.ret ?_
 refine retV1 rfl (resV.tmp rfl) ?_
 refine ⟨congrArg Ending.returned ?_, hs4.nil⟩
 rfl
theorem c_slices_IndexFunc_impl_Cell_impl_Cell (A_s : Option Addr) (n_s c_s : Nat) (s : List CellD) (w : World) (f_s : SlF encCell w A_s n_s s) (hn : n_s ≤ 1099511627776) :
    Calls Tryz.prog 243 #[.slice A_s n_s c_s, .func (.func 197) #[] #[]] w fun e w' => e = .returned (.int .i64 (findI (fun c => !cellOk c) s)) ∧ St w [] [] w' := by
 refine enter (vs := [.slice A_s n_s c_s, .func (.func 197) #[] #[]]) 19 Tryz.func243 rfl Tryz.ntmps243 rfl rfl ?_
 have hs1 := St.init w
 refine WC.rr tbk hs1 [] rfl trivial ?_
 refine WC.seq (fun K2 hK2 => ?_)
 refine WC.rr tbk hs1 [] rfl trivial ?_
 refine WC.block ?_
 refine WC.loopS [(0, _), (1, _), (7, _)] ⟨rfl, rfl, rfl, trivial⟩ hs1 (fun k_ f w' => ∃ (i : Nat), k_ = n_s - i ∧ (i ≤ n_s) ∧ (∀ j, j < i → (fun c => !cellOk c) (gat encCell s j) = false) ∧ Sub [(8, .int .i64 i)] f) ((fun (i : Nat) => n_s - i) (0)) ?_ ?_
 ·refine ⟨0, rfl, ?_, ?_, ⟨rfl, trivial⟩⟩
  · exact Nat.zero_le _
  · exact fun j hj => absurd hj (by omega)
 ·clear hs1
  rintro _ f w ⟨i, rfl, p0, p1, hG⟩ hF hs3
  refine WC.sub _ (hG.app hF) ?_
  clear hG hF
  refine WC.rr tbk hs3 [] rfl trivial ?_
  refine WC.seq (fun K4 hK4 => ?_)
  refine WC.cond rfl (fun h5 => ?_) (fun h5 => ?_)
  ·have qh5 := h5
   try simp only [decide_eq_true_eq, decide_eq_false_iff_not] at qh5
   refine WC.skip ?_
   refine hK4 _ _ ?_
   refine WC.seq (fun K6 hK6 => ?_)
   refine WC.block ?_
   refine WC.rr tbk hs3 [] rfl trivial ?_
   refine WC.sr ?_
   refine WL.run tbk 3 hs3 [] rfl trivial ?_
   refine WL.val rfl rfl rfl (Run.idxN Tryz.runUnderlying26 Tryz.sizeOf75 rfl rfl rfl ?_ ?_ ?_) ?_
   · exact SlF.some_ (SlF.st0 f_s hs3)
   · omega
   · omega
   refine WL.val rfl rfl rfl (Run.loadA Tryz.isAgg75 Tryz.sizeOf75 rfl rfl (SlF.whole (SlF.st0 f_s hs3) ?_)) ?_
   · omega
   refine WL.call rfl rfl rfl (Run.call Tryz.call197 rfl rfl rfl) (c_impl_areCells_1 _ _ _ _ _ _ _) ?_
   rintro _ whs7 ⟨rfl, hs7⟩
   replace hs7 := hs3.call0 hs7
   refine ⟨_, rfl, ?_⟩
   refine WL.nil ?_
   refine WC.cond rfl (fun h8 => ?_) (fun h8 => ?_)
   ·have qh8 := h8
    try simp only [decide_eq_true_eq, decide_eq_false_iff_not] at qh8
    refine WC.rr tbk hs7 [] rfl trivial ?_
    refine WC.ret ?_
    refine ibR (tkR (tkR (ibR (tkR ?_))))
    clear hK6 hK2
    refine retV1 rfl (resV.tmp rfl) ?_
    refine ⟨congrArg Ending.returned ?_, hs7.nil⟩
    rw [findI_some (F := encCell) (by rw [f_s.len]; omega) p1 h8]
   ·have qh8 := h8
    try simp only [decide_eq_true_eq, decide_eq_false_iff_not] at qh8
    refine WC.skip ?_
    refine hK6 _ _ ?_
    refine WC.region ?_
    refine WL.run tbk 2 hs7 [] rfl ⟨by omega, trivial⟩ ?_
    refine WL.nil ?_
    refine tkN ?_
    refine ⟨⟨rfl, rfl, rfl, trivial⟩, hs7, _, ?_, i + 1, rfl, ?_, ?_, ⟨rfl, trivial⟩⟩
    · omega
    · omega
    · intro j hj; rcases Nat.lt_or_ge j i with h_ | h_
      · exact p1 j h_
      · obtain rfl : j = i := by omega
        exact h8
  ·have qh5 := h5
   try simp only [decide_eq_true_eq, decide_eq_false_iff_not] at qh5
   refine WC.exit ?_
   refine hK2 _ _ ?_
   refine WC.rr tbk hs3 [] rfl trivial ?_
   refine WC.ret ?_
   refine retV1 rfl (resV.tmp rfl) ?_
   refine ⟨congrArg Ending.returned ?_, hs3.nil⟩
   rw [findI_none (F := encCell) (fun j hj => p1 j (by rw [f_s.len] at hj; omega))]
theorem c_slices_ContainsFunc_impl_Cell_impl_Cell (A_s : Option Addr) (n_s c_s : Nat) (s : List CellD) (w : World) (f_s : SlF encCell w A_s n_s s) (hn : n_s ≤ 1099511627776) :
    Calls Tryz.prog 196 #[.slice A_s n_s c_s, .func (.func 197) #[] #[]] w fun e w' => e = .returned (.bool (decide (0 ≤ findI (fun c => !cellOk c) s))) ∧ St w [] [] w' := by
 refine enter (vs := [.slice A_s n_s c_s, .func (.func 197) #[] #[]]) 9 Tryz.func196 rfl Tryz.ntmps196 rfl rfl ?_
 have hs1 := St.init w
 refine WC.rr tbk hs1 [] rfl trivial ?_
 refine WC.sr ?_
 refine WL.run tbk 2 hs1 [] rfl trivial ?_
 refine WL.call rfl rfl rfl (Run.call Tryz.call243 rfl rfl rfl) (c_slices_IndexFunc_impl_Cell_impl_Cell _ _ _ _ _ (SlF.st0 f_s hs1) ?_) ?_
 · first | assumption | rfl | omega
 rintro _ whs2 ⟨rfl, hs2⟩
 replace hs2 := hs1.call0 hs2
 refine ⟨_, rfl, ?_⟩
 refine WL.run tbk 2 hs2 [] rfl trivial ?_
 refine WL.nil ?_
 refine WC.ret ?_
 refine retV1 rfl (resV.tmp rfl) ?_
 refine ⟨congrArg Ending.returned ?_, hs2.nil⟩
 rfl
theorem c_impl_areCells (A_l : Option Addr) (n_l c_l : Nat) (l : List CellD) (w : World) (f_l : SlF encCell w A_l n_l l) (hn : n_l ≤ 1099511627776) :
    Calls Tryz.prog 109 #[.slice A_l n_l c_l] w fun e w' => e = .returned (.bool (cellsOk l)) ∧ St w [] [] w' := by
 refine enter (vs := [.slice A_l n_l c_l]) 6 Tryz.func109 rfl Tryz.ntmps109 rfl rfl ?_
 have hs1 := St.init w
 refine WC.rr tbk hs1 [] rfl trivial ?_
 refine WC.sr ?_
 refine WL.run tbk 1 hs1 [] rfl trivial ?_
 refine WL.call rfl rfl rfl (Run.call Tryz.call196 rfl rfl rfl) (c_slices_ContainsFunc_impl_Cell_impl_Cell _ _ _ _ _ (SlF.st0 f_l hs1) ?_) ?_
 · first | assumption | rfl | omega
 rintro _ whs2 ⟨rfl, hs2⟩
 replace hs2 := hs1.call0 hs2
 refine ⟨_, rfl, ?_⟩
 refine WL.run tbk 2 hs2 [] rfl trivial ?_
 refine WL.nil ?_
 refine WC.ret ?_
 refine retV1 rfl (resV.tmp rfl) ?_
 refine ⟨congrArg Ending.returned ?_, hs2.nil⟩
 rw [cellsOk_find]
end Go.Proofs.YtjmegoiclgancaaGreat
namespace Go.Proofs.YtjmegoiclgancaaGreat
open Go Go.RowKit
set_option linter.unusedVariables false
set_option linter.unusedSimpArgs false
theorem c_slices_Clone_int_int (A_s : Option Addr) (n_s c_s : Nat) (s : List Int) (w : World) (f_s : SlF encI w A_s n_s s) (hn : n_s ≤ 268435456) :
    Calls Tryz.prog 207 #[.slice A_s n_s c_s] w fun e w' => ∃ A c L1, e = .returned (.slice A (s).length c) ∧ St w [] L1 w' ∧ OwnF encI 3 (.slice A (s).length c) (s) L1 := by
 have hl := f_s.len
 refine enter (vs := [.slice A_s n_s c_s]) 8 Tryz.func207 rfl Tryz.ntmps207 rfl rfl ?_
 have hs1 := St.init w
 refine WC.rr tbk hs1 [] rfl trivial ?_
 refine WC.seq (fun K2 hK2 => ?_)
 refine WC.sr ?_
 refine WL.run tbk 1 hs1 [] rfl trivial ?_
 refine WL.val rfl rfl rfl (Run.eqlNil Tryz.underlying23 rfl rfl rfl) ?_
 refine WL.nil ?_
 refine WC.cond rfl (fun h3 => ?_) (fun h3 => ?_)
 ·have qh3 := h3
  try simp only [bf, within_iff, within_not] at qh3
  obtain rfl : A_s = none := by simpa using qh3
  have h0 : n_s = 0 := SlF.none_ f_s
  have hs : s = [] := List.eq_nil_of_length_eq_zero (by omega)
  refine WC.rr tbk hs1 [] rfl trivial ?_
  refine WC.ret ?_
  refine tkR ?_
  clear hK2
  refine retV1 rfl (resV.tmp rfl) ?_
  have hx_ := OwnF.eqOf (xs := s) (OwnF.nil encI 3) (by rw [hs])
  rw [← hx_]
  exact ⟨_, _, _, rfl, hs1.nil, (OwnF.nil encI 3)⟩
 ·have qh3 := h3
  try simp only [bf, within_iff, within_not] at qh3
  refine WC.skip ?_
  refine hK2 _ _ ?_
  refine WC.sr ?_
  refine WL.buildF (F := encI) hs1 ([]) Tryz.runUnderlying23 Tryz.sizeOf3 Tryz.zeroValue3 rfl rfl rfl rfl rfl rfl rfl rfl rfl rfl rfl rfl (fun A7 c8 L4 whs5 hs5 ho6 => ?_)
  refine WL.run tbk 1 hs5 [] rfl trivial ?_
  refine WL.appendG hs5 ho6 (SlF.src (SlF.st0 f_s hs5) Tryz.underlying23) Tryz.underlying23 info_3 rfl rfl rfl rfl rfl rfl rfl rfl rfl rfl ?_ (fun A12 c13 L9 whs10 hs10 ho11 => ?_)
  · simp; omega
  refine WL.run tbk 1 hs10 [] rfl trivial ?_
  refine WL.nil ?_
  refine WC.ret ?_
  refine retV1 rfl (resV.tmp rfl) ?_
  have hx_ := OwnF.eqOf (xs := s) ho11 (by simp)
  rw [← hx_]
  first | exact ⟨_, _, _, rfl, (St.keep1 hs10), ho11⟩ | exact ⟨A12, c13, _, by rw [OwnF.len_ ho11], (St.keep1 hs10), by rw [OwnF.len_ ho11]; exact ho11⟩
end Go.Proofs.YtjmegoiclgancaaGreat
namespace Go.Proofs.YtjmegoiclgancaaGreat
open Go Go.RowKit
set_option linter.unusedVariables false
set_option linter.unusedSimpArgs false
theorem built_75_0 (x0 : Int) : Tryz.prog.built 75 [(0, .int .i64 x0)] = some (List.toArray [.int .i64 x0, .int .i64 0, .int .i64 0, .bool false, .bool false, .bool false]) := by kernel_rfl
theorem built_28_0_1_2 (x0 : Int) (x1 : Int) (x2 : Option Addr) (x3 : Nat) (x4 : Nat) : Tryz.prog.built 28 [(0, .int .i64 x0), (1, .int .i64 x1), (2, .slice x2 x3 x4)] = some (List.toArray [.int .i64 x0, .int .i64 x1, .slice x2 x3 x4]) := by kernel_rfl
theorem built_33 : Tryz.prog.built 33 [] = some (List.toArray [.int .i64 0, .int .i64 0, .int .i64 0, .int .i64 0, .slice none 0 0, .int .i64 0, .int .i64 0, .slice none 0 0, .bool false, .int .i64 0, .int .i64 0, .bool false, .int .i64 0, .int .i64 0, .bool false, .bool false, .bool false, .int .i64 0, .int .i64 0, .bool false, .bool false, .int .i64 0, .int .i64 0, .int .i64 0, .int .i64 0, .bool false, .bool false, .bool false, .slice none 0 0, .int .i64 0, .slice none 0 0]) := by kernel_rfl
theorem built_33_0_1_2_3_10_16_17 (x0 : Int) (x1 : Int) (x2 : Value) (x3 : Value) (x4 : Value) (x5 : Value) (x6 : Value) (x7 : Value) (x8 : Int) (x9 : Option Addr) (x10 : Nat) (x11 : Nat) (x12 : Int) : Tryz.prog.built 33 [(0, .int .i64 x0), (1, .int .i64 x1), (2, .agg [x2, x3, x4].toArray), (3, .agg [x5, x6, x7].toArray), (10, .int .i64 x8), (16, .slice x9 x10 x11), (17, .int .i64 x12)] = some (List.toArray [.int .i64 x0, .int .i64 x1, x2, x3, x4, x5, x6, x7, .bool false, .int .i64 0, .int .i64 0, .bool false, .int .i64 0, .int .i64 0, .bool false, .bool false, .bool false, .int .i64 0, .int .i64 x8, .bool false, .bool false, .int .i64 0, .int .i64 0, .int .i64 0, .int .i64 0, .bool false, .bool false, .bool false, .slice x9 x10 x11, .int .i64 x12, .slice none 0 0]) := by kernel_rfl
theorem c_impl_isSize (w_ h_ : Int) (w : World) :
    Calls Tryz.prog 132 #[i64 w_, i64 h_] w fun e w' => e = .returned (.bool (isSize w_ h_)) ∧ St w [] [] w' := by
 refine enter (vs := [i64 w_, i64 h_]) 17 Tryz.func132 rfl Tryz.ntmps132 rfl rfl ?_
 have hs1 := St.init w
 refine WC.rr tbk hs1 [] rfl trivial ?_
 refine WC.sr ?_
 refine WL.run tbk 1 hs1 [] rfl trivial ?_
 refine WL.call rfl rfl rfl (Run.call Tryz.call97 rfl rfl rfl) (c_impl_within _ _ _ _) ?_
 rintro _ whs2 ⟨rfl, hs2⟩
 replace hs2 := hs1.call0 hs2
 refine ⟨_, rfl, ?_⟩
 refine WL.run tbk 1 hs2 [] rfl trivial ?_
 apply WL.gA 2 Acts.nil hs2 rfl
 ·intro g3 J4
  have qg3 := g3
  try simp only [bf, within_iff, within_not] at qg3
  refine WL.runA tbk 1 (Acts.nil.cons (j := 2) rfl g3) hs2 [] rfl trivial ?_
  refine WL.call (wantT rfl g3) rfl rfl (Run.call Tryz.call97 rfl rfl rfl) (c_impl_within _ _ _ _) ?_
  rintro _ whs5 ⟨rfl, hs5⟩
  replace hs5 := hs2.call0 hs5
  refine ⟨_, rfl, ?_⟩
  exact WL.eA 2 Acts.nil J4 hs5 g3 rfl rfl
 ·intro _ hs6
  refine WL.run tbk 1 hs6 [] rfl trivial ?_
  apply WL.gA 4 Acts.nil hs6 rfl
  ·intro g7 J8
   have qg7 := g7
   try simp only [bf, within_iff, within_not] at qg7
   refine WL.runA tbk 4 (Acts.nil.cons (j := 6) rfl g7) hs6 [] rfl ⟨?_, trivial⟩ ?_
   · (have h9 := mul_size (w := w_) (h := h_) (by omega) (by omega); constructor <;> omega)
   exact WL.eA 4 Acts.nil J8 hs6 g7 rfl rfl
  ·intro _ hs9
   refine WL.run tbk 1 hs9 [] rfl trivial ?_
   refine WL.nil ?_
   refine WC.ret ?_
   refine retV1 rfl (resV.tmp rfl) ?_
   refine ⟨congrArg Ending.returned ?_, hs9.nil⟩
   rfl
theorem c_impl_blank  (w : World) :
    Calls Tryz.prog 253 #[] w fun e w' => e = .returned (.agg #[i64 32, i64 0, i64 0, .bool false, .bool false, .bool false]) ∧ St w [] [] w' := by
 refine enter (vs := []) 2 Tryz.func253 rfl Tryz.ntmps253 rfl rfl ?_
 have hs1 := St.init w
 refine WC.sr ?_
 refine WL.al hs1 Tryz.zeroValue75 rfl rfl (fun b2 _ hs3 => ?_)
 refine WL.nil ?_
 refine WC.sr ?_
 refine WL.val rfl rfl rfl (Run.build rfl rfl rfl rfl (built_75_0 _)) ?_
 refine WL.st tbk hs3 0 rfl rfl (fun _ hs4 => ?_)
 refine WL.nil ?_
 refine WC.ret ?_
 refine retV1 rfl (resV.cellA tbk hs4 0 rfl rfl rfl rfl) ?_
 refine ⟨congrArg Ending.returned ?_, hs4.nil⟩
 rfl
theorem c_spec_l07Blank  (w : World) :
    Calls Tryz.prog 180 #[] w fun e w' => e = .returned (.agg #[i64 32, i64 0, i64 0, .bool false, .bool false, .bool false]) ∧ St w [] [] w' := by
 refine enter (vs := []) 2 Tryz.func180 rfl Tryz.ntmps180 rfl rfl ?_
 have hs1 := St.init w
 refine WC.sr ?_
 refine WL.al hs1 Tryz.zeroValue75 rfl rfl (fun b2 _ hs3 => ?_)
 refine WL.nil ?_
 refine WC.sr ?_
 refine WL.val rfl rfl rfl (Run.build rfl rfl rfl rfl (built_75_0 _)) ?_
 refine WL.st tbk hs3 0 rfl rfl (fun _ hs4 => ?_)
 refine WL.nil ?_
 refine WC.ret ?_
 refine retV1 rfl (resV.cellA tbk hs4 0 rfl rfl rfl rfl) ?_
 refine ⟨congrArg Ending.returned ?_, hs4.nil⟩
 rfl
theorem c_math_bits_Mul64 (c : Nat) (w : World) (hc : c < 4294967296) :
    Calls Tryz.prog 265 #[.int .u64 ((1 : Nat) : Int), .int .u64 (c : Int)] w fun e w' => e = .returned (.tuple #[.int .u64 ((0 : Nat) : Int), .int .u64 (c : Int)]) ∧ St w [] [] w' := by
 refine enter (vs := [.int .u64 ((1 : Nat) : Int), .int .u64 (c : Int)]) 51 Tryz.func265 rfl Tryz.ntmps265 rfl rfl ?_
 have hs1 := St.init w
 refine WC.rr tbk hs1 [] rfl trivial ?_
 refine WC.sr ?_
 refine WL.run tbk 1 hs1 [] rfl trivial ?_
 refine WL.val rfl rfl rfl (Run.maskU (1) rfl rfl rfl ?_) ?_
 · omega
 refine WL.run tbk 1 hs1 [] rfl trivial ?_
 refine WL.nil ?_
 refine WC.sr ?_
 refine WL.run tbk 1 hs1 [] rfl trivial ?_
 refine WL.val rfl rfl rfl (Run.shrU (1) (0) rfl rfl rfl ?_ ?_ ?_) ?_
 · omega
 · omega
 · show _ / 4294967296 = _; omega
 refine WL.run tbk 1 hs1 [] rfl trivial ?_
 refine WL.nil ?_
 refine WC.sr ?_
 refine WL.run tbk 1 hs1 [] rfl trivial ?_
 refine WL.val rfl rfl rfl (Run.maskU (c) rfl rfl rfl ?_) ?_
 · omega
 refine WL.run tbk 1 hs1 [] rfl trivial ?_
 refine WL.nil ?_
 refine WC.sr ?_
 refine WL.run tbk 1 hs1 [] rfl trivial ?_
 refine WL.val rfl rfl rfl (Run.shrU (c) (0) rfl rfl rfl ?_ ?_ ?_) ?_
 · omega
 · omega
 · show _ / 4294967296 = _; omega
 refine WL.run tbk 1 hs1 [] rfl trivial ?_
 refine WL.nil ?_
 refine WC.sr ?_
 refine WL.run tbk 2 hs1 [] rfl trivial ?_
 refine WL.val rfl rfl rfl (Run.asN (c) (Run.mulW rfl rfl rfl) ?_) ?_
 · exact wrapU _ (by omega) (by omega)
 refine WL.run tbk 1 hs1 [] rfl trivial ?_
 refine WL.nil ?_
 refine WC.sr ?_
 refine WL.run tbk 2 hs1 [] rfl trivial ?_
 refine WL.val rfl rfl rfl (Run.asN (0) (Run.mulW rfl rfl rfl) ?_) ?_
 · exact wrapU _ (by omega) (by omega)
 refine WL.run tbk 1 hs1 [] rfl trivial ?_
 refine WL.val rfl rfl rfl (Run.shrU (c) (0) rfl rfl rfl ?_ ?_ ?_) ?_
 · omega
 · omega
 · show _ / 4294967296 = _; omega
 refine WL.val rfl rfl rfl (Run.asN (0) (Run.addW rfl rfl rfl) ?_) ?_
 · exact wrapU _ (by omega) (by omega)
 refine WL.run tbk 1 hs1 [] rfl trivial ?_
 refine WL.nil ?_
 refine WC.sr ?_
 refine WL.run tbk 1 hs1 [] rfl trivial ?_
 refine WL.val rfl rfl rfl (Run.maskU (0) rfl rfl rfl ?_) ?_
 · omega
 refine WL.run tbk 1 hs1 [] rfl trivial ?_
 refine WL.nil ?_
 refine WC.sr ?_
 refine WL.run tbk 1 hs1 [] rfl trivial ?_
 refine WL.val rfl rfl rfl (Run.shrU (0) (0) rfl rfl rfl ?_ ?_ ?_) ?_
 · omega
 · omega
 · show _ / 4294967296 = _; omega
 refine WL.run tbk 1 hs1 [] rfl trivial ?_
 refine WL.nil ?_
 refine WC.sr ?_
 refine WL.run tbk 3 hs1 [] rfl trivial ?_
 refine WL.val rfl rfl rfl (Run.asN (0) (Run.mulW rfl rfl rfl) ?_) ?_
 · exact wrapU _ (by omega) (by omega)
 refine WL.val rfl rfl rfl (Run.asN (0) (Run.addW rfl rfl rfl) ?_) ?_
 · exact wrapU _ (by omega) (by omega)
 refine WL.run tbk 1 hs1 [] rfl trivial ?_
 refine WL.nil ?_
 refine WC.sr ?_
 refine WL.run tbk 2 hs1 [] rfl trivial ?_
 refine WL.val rfl rfl rfl (Run.asN (0) (Run.mulW rfl rfl rfl) ?_) ?_
 · exact wrapU _ (by omega) (by omega)
 refine WL.run tbk 1 hs1 [] rfl trivial ?_
 refine WL.val rfl rfl rfl (Run.asN (0) (Run.addW rfl rfl rfl) ?_) ?_
 · exact wrapU _ (by omega) (by omega)
 refine WL.run tbk 1 hs1 [] rfl trivial ?_
 refine WL.val rfl rfl rfl (Run.shrU (0) (0) rfl rfl rfl ?_ ?_ ?_) ?_
 · omega
 · omega
 · show _ / 4294967296 = _; omega
 refine WL.val rfl rfl rfl (Run.asN (0) (Run.addW rfl rfl rfl) ?_) ?_
 · exact wrapU _ (by omega) (by omega)
 refine WL.run tbk 1 hs1 [] rfl trivial ?_
 refine WL.nil ?_
 refine WC.sr ?_
 refine WL.run tbk 2 hs1 [] rfl trivial ?_
 refine WL.val rfl rfl rfl (Run.asN (c) (Run.mulW rfl rfl rfl) ?_) ?_
 · exact wrapU _ (by omega) (by omega)
 refine WL.run tbk 1 hs1 [] rfl trivial ?_
 refine WL.nil ?_
 refine WC.ret ?_
 refine retV2 rfl (resV.tmp rfl) (resV.tmp rfl) ?_
 refine ⟨congrArg Ending.returned ?_, hs1.nil⟩
 rfl
theorem c_math_bits_Mul (c : Nat) (w : World) (hc : c < 4294967296) :
    Calls Tryz.prog 262 #[.int .u64 ((1 : Nat) : Int), .int .u64 (c : Int)] w fun e w' => e = .returned (.tuple #[.int .u64 ((0 : Nat) : Int), .int .u64 (c : Int)]) ∧ St w [] [] w' := by
 refine enter (vs := [.int .u64 ((1 : Nat) : Int), .int .u64 (c : Int)]) 30 Tryz.func262 rfl Tryz.ntmps262 rfl rfl ?_
 have hs1 := St.init w
 refine WC.rr tbk hs1 [] rfl trivial ?_
 refine WC.seq (fun K2 hK2 => ?_)
 refine WC.condF rfl rfl ?_
 refine WC.skip ?_
 refine hK2 _ _ ?_
 refine WC.sr ?_
 refine WL.run tbk 2 hs1 [] rfl trivial ?_
 refine WL.call rfl rfl rfl (Run.call Tryz.call265 rfl rfl rfl) (c_math_bits_Mul64 _ _ ?_) ?_
 · first | assumption | rfl | omega
 rintro _ whs4 ⟨rfl, hs4⟩
 replace hs4 := hs1.call0 hs4
 refine ⟨_, rfl, ?_⟩
 refine WL.run tbk 5 hs4 [] rfl trivial ?_
 refine WL.nil ?_
 refine WC.rr tbk hs4 [] rfl trivial ?_
 refine WC.ret ?_
 refine retV2 rfl (resV.tmp rfl) (resV.tmp rfl) ?_
 refine ⟨congrArg Ending.returned ?_, hs4.nil⟩
 rfl
theorem c_slices_Repeat_impl_Cell_impl_Cell (A_x : Option Addr) (n_x c_x : Nat) (x : List CellD) (q_ : Int) (w : World) (f_x : SlF encCell w A_x n_x x) (hx : n_x = 1) (hc : 1 ≤ q_ ∧ q_ ≤ 4000) :
    Calls Tryz.prog 252 #[.slice A_x n_x c_x, i64 q_] w fun e w' => ∃ A c L1, e = .returned (.slice A (List.replicate q_.toNat (gat encCell x 0)).length c) ∧ St w [] L1 w' ∧ OwnF encCell 75 (.slice A (List.replicate q_.toNat (gat encCell x 0)).length c) (List.replicate q_.toNat (gat encCell x 0)) L1 := by
 have hx1 := hx ▸ f_x.len
 refine enter (vs := [.slice A_x n_x c_x, i64 q_]) 48 Tryz.func252 rfl Tryz.ntmps252 rfl rfl ?_
 have hs1 := St.init w
 refine WC.rr tbk hs1 [] rfl trivial ?_
 refine WC.seq (fun K2 hK2 => ?_)
 refine WC.rr tbk hs1 [] rfl trivial ?_
 refine WC.condF rfl (decide_eq_false (by omega)) ?_
 refine WC.skip ?_
 refine hK2 _ _ ?_
 refine WC.sr ?_
 refine WL.run tbk 2 hs1 [] rfl trivial ?_
 refine WL.val rfl rfl rfl (Run.asN (1) (Run.conv Tryz.runUnderlying3 Tryz.runUnderlying219 rfl rfl) ?_) ?_
 · exact wrapU _ (by omega) (by decide)
 refine WL.run tbk 1 hs1 [] rfl trivial ?_
 refine WL.val rfl rfl rfl (Run.asN (q_.toNat) (Run.conv Tryz.runUnderlying3 Tryz.runUnderlying219 rfl rfl) ?_) ?_
 · exact wrapU _ (by omega) (by omega)
 refine WL.call rfl rfl rfl (Run.call Tryz.call262 rfl rfl rfl) (c_math_bits_Mul _ _ ?_) ?_
 · first | assumption | rfl | omega
 rintro _ whs4 ⟨rfl, hs4⟩
 replace hs4 := hs1.call0 hs4
 refine ⟨_, rfl, ?_⟩
 refine WL.run tbk 5 hs4 [] rfl trivial ?_
 refine WL.nil ?_
 refine WC.seq (fun K5 hK5 => ?_)
 refine WC.sr ?_
 refine WL.run tbk 1 hs4 [] rfl trivial ?_
 refine WL.val rfl rfl rfl (Run.gtr rfl rfl rfl) ?_
 refine WL.run tbk 1 hs4 [] rfl trivial ?_
 apply WL.gO 2 Acts.nil hs4 rfl
 ·intro g6 J7
  have qg6 := g6
  try simp only [bf, within_iff, within_not] at qg6
  refine WL.runA tbk 1 (Acts.nil.cons (j := 2) rfl g6) hs4 [] rfl trivial ?_
  refine WL.val (wantF rfl g6) rfl rfl (Run.gtr rfl rfl rfl) ?_
  exact WL.eO 2 Acts.nil J7 hs4 g6 rfl rfl
 ·intro _ hs8
  refine WL.nil ?_
  refine WC.condF rfl (by (try simp only [bf]); constructor <;> omega) ?_
  refine WC.skip ?_
  refine hK5 _ _ ?_
  refine WC.sr ?_
  refine WL.run tbk 1 hs8 [] rfl trivial ?_
  refine WL.val rfl rfl rfl (Run.asN (q_.toNat) (Run.conv Tryz.runUnderlying219 Tryz.runUnderlying3 rfl rfl) ?_) ?_
  · exact wrap_in (by constructor <;> omega)
  refine WL.makeF (F := encCell) hs8 Tryz.underlying26 info_75 rfl rfl rfl rfl rfl rfl rfl rfl rfl ?_ ?_ (fun A13 c14 L10 whs11 hs11 ho12 => ?_)
  · have e_ : Tryz.t75.bytes = 32 := rfl
    rw [e_]; omega
  · omega
  refine WL.run tbk 1 hs11 [] rfl trivial ?_
  refine WL.nil ?_
  refine WC.sr ?_
  refine WL.run tbk 2 hs11 [] rfl trivial ?_
  refine WL.copyF (lo := 0) hs11 ho12 (SlF.st0 f_x hs11) Tryz.underlying26 Tryz.underlying26 info_75 rfl rfl rfl rfl rfl rfl rfl (.inr ⟨rfl, rfl⟩) ?_ ?_ (fun L15 _ hs16 ho17 => ?_)
  · first | omega | (simp; omega)
  · first | omega | (simp; omega)
  refine WL.run tbk 1 hs16 [] rfl trivial ?_
  refine WL.nil ?_
  refine WC.seq (fun K18 hK18 => ?_)
  refine WC.block ?_
  refine WC.loopO [(4, _), (10, _), (26, _)] ⟨rfl, rfl, rfl, trivial⟩ hs16 (fun k_ f L_ => ∃ (m : Nat), k_ = q_.toNat - m ∧ (1 ≤ m) ∧ (m ≤ q_.toNat) ∧ OwnF encCell 75 (.slice A13 (q_.toNat) c14) (List.replicate m (gat encCell x 0) ++ List.replicate (q_.toNat - m) encCell.dflt) L_ ∧ Sub [(7, .slice A13 (q_.toNat) c14), (8, .int .i64 m)] f) (((fun (m : Nat) => q_.toNat - m) (1))) ?_ ?_
  ·refine ⟨1, rfl, ?_, ?_, (rep_first (n := q_.toNat) (by omega) hx hx1 ▸ ho17), ⟨rfl, ?_, trivial⟩⟩
   · omega
   · omega
   · (refine congrArg some (congrArg (Value.int _) ?_); omega)
  ·clear hs16
   rintro _ f w L21 ⟨m, rfl, p0, p1, ho22, hG⟩ hF hs23
   refine WC.sub _ (hG.app hF) ?_
   clear hG hF
   have hlm : (List.replicate m (gat encCell x 0) ++ List.replicate (q_.toNat - m) encCell.dflt).length = q_.toNat := by simp; omega
   refine WC.seq (fun K24 hK24 => ?_)
   refine WC.rr tbk hs23 [] rfl trivial ?_
   refine WC.cond rfl (fun h25 => ?_) (fun h25 => ?_)
   ·have qh25 := h25
    try simp only [bf, within_iff, within_not] at qh25
    refine WC.skip ?_
    refine hK24 _ _ ?_
    refine WC.block ?_
    refine WC.regionH2 (fun w' => St _ _ _ w') (fun w' => St _ _ _ w') mixed (St.drew (St.drop hs23 (List.sublist_append_right L21 _))) (St.drew hs23) (fun whs26 hs26 => ?_)
    replace hs26 : St _ _ _ _ := hs26
    refine WH.take 0 rfl (by kernel_rfl) rfl rfl rfl (St.drop hs26 (List.sublist_append_right L21 _)) (fun w_ hs_ => (Run.move rfl rfl)) ?_
    refine WH.take 1 rfl (by kernel_rfl) rfl rfl rfl (St.drop hs26 (List.sublist_append_right L21 _)) (fun w_ hs_ => (Run.move rfl rfl)) ?_
    refine WH.take 2 rfl (by kernel_rfl) rfl rfl rfl (St.drop hs26 (List.sublist_append_right L21 _)) (fun w_ hs_ => (Run.move rfl rfl)) ?_
    have hc_ := OwnF.cap ho22
    refine WH.take 3 rfl (by kernel_rfl) rfl rfl rfl (St.drop hs26 (List.sublist_append_right L21 _)) (fun w_ hs_ => (Run.sliceL (m) Tryz.runUnderlying26 Tryz.sizeOf75 rfl rfl rfl ?_ ?_)) ?_
    · first | rfl | (omega)
    · refine ⟨?_, ?_, ?_⟩ <;> (omega)
    refine WH.take 4 rfl (by kernel_rfl) rfl rfl rfl (St.drop hs26 (List.sublist_append_right L21 _)) (fun w_ hs_ => (Run.move rfl rfl)) ?_
    refine WH.take 5 rfl (by kernel_rfl) rfl rfl rfl (St.drop hs26 (List.sublist_append_right L21 _)) (fun w_ hs_ => (Run.move rfl rfl)) ?_
    have hc_ := OwnF.cap ho22
    refine WH.take 6 rfl (by kernel_rfl) rfl rfl rfl (St.drop hs26 (List.sublist_append_right L21 _)) (fun w_ hs_ => (Run.sliceH (m) Tryz.runUnderlying26 Tryz.sizeOf75 rfl rfl rfl ?_ ?_)) ?_
    · first | rfl | (omega)
    · refine ⟨?_, ?_, ?_⟩ <;> (omega)
    refine WH.all [7] (by kernel_rfl) rfl (WHs.cons (i := 7) rfl ?_ WHs.nil)
    refine WL.copyF (lo := m) hs26 ho22 (SlF.cutH (m) (SlF.ofOwn ho22 (fun p_ hp_ => (hs26.own p_ (List.mem_append_left _ hp_)).1)) (by refine ⟨?_, ?_, ?_⟩ <;> (omega))) Tryz.underlying26 Tryz.underlying26 info_75 rfl rfl rfl rfl rfl rfl rfl (.inl rfl) ?_ ?_ (fun L27 _ hs28 ho29 => ?_)
    · first | omega | (simp; omega)
    · first | omega | (simp; omega)
    refine WL.nil ⟨(St.drop hs28 (List.sublist_append_right L27 _)), ?_⟩
    refine WH.take 8 rfl (by kernel_rfl) rfl rfl rfl (St.drop hs28 (List.sublist_append_right L27 _)) (fun w_ hs_ => (Run.add rfl rfl rfl ?_)) ?_
    · constructor <;> omega
    refine WH.take 9 rfl (by kernel_rfl) rfl rfl rfl (St.drop hs28 (List.sublist_append_right L27 _)) (fun w_ hs_ => (Run.assign rfl rfl)) ?_
    refine WH.done (by kernel_rfl) ?_
    refine ibN ?_
    refine tkN ?_
    refine ⟨⟨rfl, rfl, rfl, trivial⟩, _, hs28, _, ?_, (m + min m (q_.toNat - m)), rfl, ?_, ?_, (rep_next p0 p1 ▸ ho29), ⟨rfl, ?_, trivial⟩⟩
    · omega
    · omega
    · omega
    · (refine congrArg some (congrArg (Value.int _) ?_); omega)
   ·have qh25 := h25
    try simp only [bf, within_iff, within_not] at qh25
    refine WC.exit ?_
    refine hK18 _ _ ?_
    refine WC.rr tbk hs23 [] rfl trivial ?_
    refine WC.ret ?_
    refine retV1 rfl (resV.tmp rfl) ?_
    have hx_ := OwnF.eqOf (xs := List.replicate q_.toNat (gat encCell x 0)) ho22 (by rw [show m = q_.toNat by omega, Nat.sub_self]; simp)
    rw [← hx_]
    first | exact ⟨_, _, _, rfl, (St.keep1 hs23), ho22⟩ | exact ⟨A13, c14, _, by rw [OwnF.len_ ho22], (St.keep1 hs23), by rw [OwnF.len_ ho22]; exact ho22⟩
theorem c_impl_gridOf (w_ : Int) (h_ : Int) (w : World) (hs : isSize w_ h_ = true) :
    Calls Tryz.prog 215 #[i64 w_, i64 h_] w fun e w' => ∃ r L1, e = .returned (.agg #[i64 r.W, i64 r.H, .slice r.Cells.A r.Cells.n r.Cells.c]) ∧ St w [] L1 w' ∧ ownGridR r L1 ∧ r.dat = gridNew w_ h_ := by
 obtain ⟨hw, hh, hm1, hm2⟩ := isSize_bnd hs
 refine enter (vs := [i64 w_, i64 h_]) 14 Tryz.func215 rfl Tryz.ntmps215 rfl rfl ?_
 have hs1 := St.init w
 refine WC.sr ?_
 refine WL.al hs1 Tryz.zeroValue28 rfl rfl (fun b2 _ hs3 => ?_)
 refine WL.nil ?_
 refine WC.sr ?_
 refine WL.run tbk 2 hs3 [] rfl trivial ?_
 refine WL.call rfl rfl rfl (Run.call Tryz.call253 rfl rfl rfl) (c_impl_blank _) ?_
 rintro _ whs4 ⟨rfl, hs4⟩
 replace hs4 := hs3.call0 hs4
 refine ⟨_, rfl, ?_⟩
 refine WL.buildF (F := encCell) hs4 ([blankC]) Tryz.runUnderlying26 Tryz.sizeOf75 Tryz.zeroValue75 rfl rfl rfl rfl rfl rfl rfl rfl rfl rfl rfl rfl (fun A8 c9 L5 whs6 hs6 ho7 => ?_)
 replace hs6 := St.back [_] hs6
 refine WL.run tbk 3 hs6 [] rfl ⟨?_, trivial⟩ ?_
 · constructor <;> omega
 refine WL.call rfl rfl rfl (Run.call Tryz.call252 rfl rfl rfl) (c_slices_Repeat_impl_Cell_impl_Cell _ _ _ _ _ _ (SlF.ofOwn ho7 (fun p_ hp_ => (hs6.own p_ (List.mem_append_right [_] (List.mem_append_left _ hp_))).1)) ?_ ?_) ?_
 · first | (first | assumption | rfl | omega) | (first | rfl | omega)
 · first | (first | assumption | rfl | omega) | (first | rfl | omega)
 rintro _ whs10 ⟨A11, c12, L1_13, rfl, hs10, ho14⟩
 replace hs10 := hs6.callF hs10
 refine ⟨_, rfl, ?_⟩
 replace hs10 := St.back [_] hs10
 refine WL.val rfl rfl rfl (Run.build rfl rfl rfl rfl (built_28_0_1_2 _ _ _ _ _)) ?_
 refine WL.st tbk hs10 0 rfl rfl (fun _ hs15 => ?_)
 refine WL.nil ?_
 refine WC.ret ?_
 refine retV1 rfl (resV.cellA tbk hs15 0 rfl rfl rfl rfl) ?_
 refine ⟨⟨w_, h_, SlD.of ho14⟩, _, rfl, (St.keep1 (St.perm hs15 (L' := L1_13 ++ _) (perm_front (A := [_]) (List.Perm.refl _)))), ?_, ?_⟩
 · exact ho14
 · rfl
theorem c_impl_tabsOf (w_ : Int) (w : World) (hw : 1 ≤ w_ ∧ w_ ≤ 120) :
    Calls Tryz.prog 216 #[i64 w_] w fun e w' => ∃ A c L1, e = .returned (.slice A (tabsL w_).length c) ∧ St w [] L1 w' ∧ OwnF encI 3 (.slice A (tabsL w_).length c) (tabsL w_) L1 := by
 refine enter (vs := [i64 w_]) 16 Tryz.func216 rfl Tryz.ntmps216 rfl rfl ?_
 have hs1 := St.init w
 refine WC.rr tbk hs1 [] rfl trivial ?_
 refine WC.sr ?_
 refine WL.buildF (F := encI) hs1 ([]) Tryz.runUnderlying23 Tryz.sizeOf3 Tryz.zeroValue3 rfl rfl rfl rfl rfl rfl rfl rfl rfl rfl rfl rfl (fun A5 c6 L2 whs3 hs3 ho4 => ?_)
 refine WL.run tbk 1 hs3 [] rfl trivial ?_
 refine WL.nil ?_
 refine WC.seq (fun K7 hK7 => ?_)
 refine WC.rr tbk hs3 [] rfl trivial ?_
 refine WC.block ?_
 refine WC.loopO [(0, _), (2, _)] ⟨rfl, rfl, trivial⟩ hs3 (fun k_ f L_ => ∃ (i : Nat) (A8 : Option Addr) (c9 : Nat), k_ = 121 - i ∧ (i = 0 ∨ 8 * (i : Int) < w_) ∧ (i ≤ 120) ∧ OwnF encI 3 (.slice A8 (((List.range i).map (fun i : Nat => 8 * ((i : Int) + 1))).length) c9) (((List.range i).map (fun i : Nat => 8 * ((i : Int) + 1)))) L_ ∧ Sub [(3, .slice A8 (((List.range i).map (fun i : Nat => 8 * ((i : Int) + 1))).length) c9), (4, .int .i64 (8 * ((i : Int) + 1)))] f) (((fun (i : Nat) => 121 - i) (0))) ?_ ?_
 ·refine ⟨0, _, _, rfl, ?_, ?_, ho4, ⟨?_, ?_, trivial⟩⟩
  · exact .inl rfl
  · omega
  · rfl
  · rfl
 ·clear hs3
  rintro _ f w L10 ⟨i, A8, c9, rfl, p0, p1, ho11, hG⟩ hF hs12
  refine WC.sub _ (hG.app hF) ?_
  clear hG hF
  have hlt : (((List.range i).map (fun i : Nat => 8 * ((i : Int) + 1)))).length = i := by simp
  refine WC.seq (fun K13 hK13 => ?_)
  refine WC.rr tbk hs12 [] rfl trivial ?_
  refine WC.cond rfl (fun h14 => ?_) (fun h14 => ?_)
  ·have qh14 := h14
   try simp only [bf, within_iff, within_not] at qh14
   refine WC.skip ?_
   refine hK13 _ _ ?_
   refine WC.seq (fun K15 hK15 => ?_)
   refine WC.block ?_
   refine WC.region ?_
   refine WL.run tbk 2 hs12 [] rfl trivial ?_
   refine WL.buildSlice hs12 Tryz.runUnderlying23 Tryz.sizeOf3 Tryz.zeroValue3 rfl rfl rfl rfl rfl rfl rfl rfl rfl rfl (fun b16 whs17 hs17 => ?_)
   refine WL.appendG (St.perm hs17 (L' := L10 ++ _) (perm_front (A := [_]) (List.Perm.refl _))) ho11 (srcI1 Tryz.underlying23 (hs17.own _ (nthL_mem (i := 0) rfl)).1) Tryz.underlying23 info_3 rfl rfl rfl rfl rfl rfl rfl rfl rfl rfl ?_ (fun A21 c22 L18 whs19 hs19 ho20 => ?_)
   · simp; omega
   replace hs19 := St.back [_] hs19
   refine WL.run tbk 1 hs19 [] rfl trivial ?_
   refine WL.nil ?_
   refine hK15 _ _ ?_
   refine WC.region ?_
   refine WL.run tbk 3 hs19 [] rfl ⟨by omega, trivial⟩ ?_
   refine WL.nil ?_
   refine tkN ?_
   replace hs19 := St.drop hs19 (List.sublist_append_right [_] _)
   refine ⟨⟨rfl, rfl, trivial⟩, _, hs19, _, ?_, i + 1, _, _, rfl, ?_, ?_, (tabsL_take (w := w_) (by omega) ▸ ho20), ⟨?_, ?_, trivial⟩⟩
   · omega
   · right; omega
   · omega
   · (rw [tabsL_take (w := w_) (i := i) (by omega)]; rfl)
   · (refine congrArg some (congrArg (Value.int _) ?_); omega)
  ·have qh14 := h14
   try simp only [bf, within_iff, within_not] at qh14
   refine WC.exit ?_
   refine hK7 _ _ ?_
   refine WC.rr tbk hs12 [] rfl trivial ?_
   refine WC.ret ?_
   refine retV1 rfl (resV.tmp rfl) ?_
   have hx_ := OwnF.eqOf (xs := tabsL w_) ho11 (by exact tabsL_end (by omega) p0)
   rw [← hx_]
   first | exact ⟨_, _, _, rfl, (St.keep1 hs12), ho11⟩ | exact ⟨A8, c9, _, by rw [OwnF.len_ ho11], (St.keep1 hs12), by rw [OwnF.len_ ho11]; exact ho11⟩
theorem c_impl_ScrNew (w_ : Int) (h_ : Int) (l : Int) (w : World) :
    Calls Tryz.prog 157 #[i64 w_, i64 h_, i64 l] w fun e w' => ∃ r0 L0, e = .returned (.tuple #[.agg #[i64 r0.W, i64 r0.H, i64 r0.Main.W, i64 r0.Main.H, .slice r0.Main.Cells.A r0.Main.Cells.n r0.Main.Cells.c, i64 r0.Alt.W, i64 r0.Alt.H, .slice r0.Alt.Cells.A r0.Alt.Cells.n r0.Alt.Cells.c, .bool r0.OnAlt, i64 r0.X, i64 r0.Y, .bool r0.Wrap, i64 r0.A.Fg, i64 r0.A.Bg, .bool r0.A.Bold, .bool r0.A.Under, .bool r0.A.Turn, i64 r0.Top, i64 r0.Bot, .bool r0.NoWrap, .bool r0.Hide, i64 r0.SaveX, i64 r0.SaveY, i64 r0.SaveA.Fg, i64 r0.SaveA.Bg, .bool r0.SaveA.Bold, .bool r0.SaveA.Under, .bool r0.SaveA.Turn, .slice r0.Tabs.A r0.Tabs.n r0.Tabs.c, i64 r0.Limit, .slice r0.Back.A r0.Back.n r0.Back.c], .bool (scrMay w_ h_ l)]) ∧ St w [] (L0) w' ∧ ownScrR r0 L0 ∧ r0.dat = scrRes w_ h_ l := by
 refine enter (vs := [i64 w_, i64 h_, i64 l]) 32 Tryz.func157 rfl Tryz.ntmps157 rfl rfl ?_
 have hs1 := St.init w
 refine WC.sr ?_
 refine WL.al hs1 Tryz.zeroValue33 rfl rfl (fun b2 _ hs3 => ?_)
 refine WL.run tbk 1 hs3 [] rfl trivial ?_
 refine WL.nil ?_
 refine WC.seq (fun K4 hK4 => ?_)
 refine WC.sr ?_
 refine WL.run tbk 2 hs3 [] rfl trivial ?_
 refine WL.call rfl rfl rfl (Run.call Tryz.call132 rfl rfl rfl) (c_impl_isSize _ _ _) ?_
 rintro _ whs5 ⟨rfl, hs5⟩
 replace hs5 := hs3.call0 hs5
 refine ⟨_, rfl, ?_⟩
 refine WL.run tbk 2 hs5 [] rfl trivial ?_
 apply WL.gO 3 Acts.nil hs5 rfl
 ·intro g6 J7
  have qg6 := g6
  try simp only [bf, within_iff, within_not] at qg6
  refine WL.runA tbk 1 (Acts.nil.cons (j := 4) rfl g6) hs5 [] rfl trivial ?_
  refine WL.call (wantF rfl g6) rfl rfl (Run.call Tryz.call97 rfl rfl rfl) (c_impl_within _ _ _ _) ?_
  rintro _ whs8 ⟨rfl, hs8⟩
  replace hs8 := hs5.call0 hs8
  refine ⟨_, rfl, ?_⟩
  refine WL.runA tbk 1 (Acts.nil.cons (j := 4) rfl g6) hs8 [] rfl trivial ?_
  exact WL.eO 3 Acts.nil J7 hs8 g6 rfl rfl
 ·intro _ hs9
  refine WL.nil ?_
  refine WC.cond rfl (fun h10 => ?_) (fun h10 => ?_)
  ·have qh10 := h10
   try simp only [bf, within_iff, within_not] at qh10
   have hm : scrMay w_ h_ l = false := by rw [← Bool.not_eq_true]; intro h9; unfold scrMay at h9; have h8 := h10; rw [← Bool.not_and, h9] at h8; cases h8
   refine WC.sr ?_
   refine WL.val rfl rfl rfl (Run.build rfl rfl rfl rfl (built_33)) ?_
   refine WL.st tbk hs9 0 rfl rfl (fun _ hs11 => ?_)
   refine WL.run tbk 1 hs11 [] rfl trivial ?_
   refine WL.nil ?_
   refine WC.ret ?_
   refine tkR ?_
   clear hK4
   refine retV2 rfl (resV.cellA tbk hs11 0 rfl rfl rfl rfl) (resV.tmp rfl) ?_
   rw [hm]
   have hv : scrRes w_ h_ l = scr0 := by unfold scrRes; rw [hm]; rfl
   obtain ⟨L17, hs16, ho18⟩ := ownScrR.fold ⟨0, 0, ⟨0, 0, ⟨_, _, _, _⟩⟩, ⟨0, 0, ⟨_, _, _, _⟩⟩, false, 0, 0, false, ⟨0, 0, false, false, false⟩, 0, 0, false, false, 0, 0, ⟨0, 0, false, false, false⟩, ⟨_, _, _, _⟩, 0, ⟨_, _, _, _⟩⟩ (St.perm (St.perm (St.perm (St.perm hs11 (L' := ([] : Hp) ++ _) (perm_front (A := [_]) (List.Perm.refl _))) (L' := ([] : Hp) ++ _) (perm_front (A := ([] : Hp)) (perm_front (A := [_]) (List.Perm.refl _)))) (L' := ([] : Hp) ++ _) (perm_front (A := ([] : Hp)) (perm_front (A := ([] : Hp)) (perm_front (A := [_]) (List.Perm.refl _))))) (L' := ([] : Hp) ++ _) (perm_front (A := ([] : Hp)) (perm_front (A := ([] : Hp)) (perm_front (A := ([] : Hp)) (perm_front (A := [_]) (List.Perm.refl _)))))) (OwnF.nil _ _) (OwnF.nil _ _) (OwnF.nil _ _) (OwnN.nil _ _ _)
   have hs19 := (St.perm hs16 (L' := [_] ++ _) (perm_front (A := L17) (List.Perm.refl _)))
   refine ⟨⟨0, 0, ⟨0, 0, ⟨none, 0, 0, []⟩⟩, ⟨0, 0, ⟨none, 0, 0, []⟩⟩, false, 0, 0, false, ⟨0, 0, false, false, false⟩, 0, 0, false, false, 0, 0, ⟨0, 0, false, false, false⟩, ⟨none, 0, 0, []⟩, 0, ⟨none, 0, 0, []⟩⟩, _, rfl, (St.keep1 (St.perm hs19 (L' := L17 ++ _) (perm_front (A := [_]) (List.Perm.refl _)))), ?_, ?_⟩
   · exact (by exact ho18)
   · rw [hv]; rfl
  ·have qh10 := h10
   try simp only [bf, within_iff, within_not] at qh10
   have hm : scrMay w_ h_ l = true := by unfold scrMay; rw [Bool.and_eq_true, within_iff]; exact qh10
   have hs : isSize w_ h_ = true := by unfold scrMay at hm; rw [Bool.and_eq_true] at hm; exact hm.1
   obtain ⟨hw, hh, hm1, hm2⟩ := isSize_bnd hs
   refine WC.skip ?_
   refine hK4 _ _ ?_
   refine WC.sr ?_
   refine WL.run tbk 4 hs9 [] rfl trivial ?_
   refine WL.call rfl rfl rfl (Run.call Tryz.call215 rfl rfl rfl) (c_impl_gridOf _ _ _ ?_) ?_
   · first | assumption | rfl | omega
   rintro _ whs20 ⟨r21, L1_22, rfl, hs20, ho23, hd24⟩
   replace hs20 := hs9.callF hs20
   refine ⟨_, rfl, ?_⟩
   replace hs20 := St.back [_] hs20
   refine WL.run tbk 2 hs20 [] rfl trivial ?_
   refine WL.call rfl rfl rfl (Run.call Tryz.call215 rfl rfl rfl) (c_impl_gridOf _ _ _ ?_) ?_
   · first | assumption | rfl | omega
   rintro _ whs25 ⟨r26, L1_27, rfl, hs25, ho28, hd29⟩
   replace hs25 := hs20.callF hs25
   refine ⟨_, rfl, ?_⟩
   replace hs25 := St.back [_] hs25
   refine WL.run tbk 3 hs25 [] rfl ⟨by omega, trivial⟩ ?_
   refine WL.call rfl rfl rfl (Run.call Tryz.call216 rfl rfl rfl) (c_impl_tabsOf _ _ ?_) ?_
   · first | assumption | rfl | omega
   rintro _ whs30 ⟨A31, c32, L1_33, rfl, hs30, ho34⟩
   replace hs30 := hs25.callF hs30
   refine ⟨_, rfl, ?_⟩
   replace hs30 := St.back [_] hs30
   refine WL.run tbk 1 hs30 [] rfl trivial ?_
   refine WL.val rfl rfl rfl (Run.build rfl rfl rfl rfl (built_33_0_1_2_3_10_16_17 _ _ _ _ _ _ _ _ _ _ _ _ _)) ?_
   refine WL.st tbk hs30 0 rfl rfl (fun _ hs35 => ?_)
   refine WL.run tbk 1 hs35 [] rfl trivial ?_
   refine WL.nil ?_
   refine WC.ret ?_
   refine retV2 rfl (resV.cellA tbk hs35 0 rfl rfl rfl rfl) (resV.tmp rfl) ?_
   rw [hm]
   have hv : scrRes w_ h_ l = scrNew w_ h_ l := by unfold scrRes; rw [hm]; rfl
   obtain ⟨L38, hs37, ho39⟩ := ownScrR.fold ⟨0, 0, ⟨0, 0, ⟨_, _, _, _⟩⟩, ⟨0, 0, ⟨_, _, _, _⟩⟩, false, 0, 0, false, ⟨0, 0, false, false, false⟩, 0, 0, false, false, 0, 0, ⟨0, 0, false, false, false⟩, ⟨_, _, _, _⟩, 0, ⟨_, _, _, _⟩⟩ (St.perm (St.perm (St.perm (St.perm hs35 (L' := ([] : Hp) ++ _) (perm_front (A := [_]) (List.Perm.refl _))) (L' := L1_33 ++ _) (perm_front (A := ([] : Hp)) (perm_front (A := [_]) (List.Perm.refl _)))) (L' := L1_27 ++ _) (perm_front (A := L1_33) (perm_front (A := ([] : Hp)) (perm_front (A := [_]) (List.Perm.refl _))))) (L' := L1_22 ++ _) (perm_front (A := L1_27) (perm_front (A := L1_33) (perm_front (A := ([] : Hp)) (perm_front (A := [_]) (List.Perm.refl _)))))) ho23 ho28 ho34 (OwnN.nil _ _ _)
   have hs40 := (St.perm hs37 (L' := [_] ++ _) (perm_front (A := L38) (List.Perm.refl _)))
   refine ⟨⟨w_, h_, ⟨r21.W, r21.H, SlD.of ho23⟩, ⟨r26.W, r26.H, SlD.of ho28⟩, false, 0, 0, false, ⟨0, 0, false, false, false⟩, 0, (h_ - (1)), false, false, 0, 0, ⟨0, 0, false, false, false⟩, SlD.of ho34, l, ⟨none, 0, 0, []⟩⟩, _, rfl, (St.keep1 (St.perm hs40 (L' := L38 ++ _) (perm_front (A := [_]) (List.Perm.refl _)))), ?_, ?_⟩
   · exact (by exact ho39)
   · rw [hv]; exact ScrD.ext' rfl rfl hd24 hd29 rfl rfl rfl rfl rfl rfl rfl rfl rfl rfl rfl rfl rfl rfl rfl
end Go.Proofs.YtjmegoiclgancaaGreat
namespace Go.Proofs.YtjmegoiclgancaaGreat
open Go Go.RowKit
set_option linter.unusedVariables false
set_option linter.unusedSimpArgs false
theorem built_28 : Tryz.prog.built 28 [] = some (List.toArray [.int .i64 0, .int .i64 0, .slice none 0 0]) := by kernel_rfl
theorem built_28_0_1 (x0 : Int) (x1 : Int) : Tryz.prog.built 28 [(0, .int .i64 x0), (1, .int .i64 x1)] = some (List.toArray [.int .i64 x0, .int .i64 x1, .slice none 0 0]) := by kernel_rfl
theorem c_spec_l07Copy (g : GridR) (w : World) (f_g : okGridR 549755813888 w g) (hsm : smGrid 1099511627 g.dat) :
    Calls Tryz.prog 141 #[.agg #[i64 g.W, i64 g.H, .slice g.Cells.A g.Cells.n g.Cells.c]] w fun e w' => ∃ r L1, e = .returned (.agg #[i64 r.W, i64 r.H, .slice r.Cells.A r.Cells.n r.Cells.c]) ∧ St w [] L1 w' ∧ ownGridR r L1 ∧ r.dat = g.dat := by
 have nb_g_Cells := f_g.Cells_n
 have nl_g_Cells := f_g.Cells.len
 have hl9 : g.Cells.xs.length ≤ 1099511627 := hsm
 refine enter (vs := [.agg #[i64 g.W, i64 g.H, .slice g.Cells.A g.Cells.n g.Cells.c]]) 9 Tryz.func141 rfl Tryz.ntmps141 rfl rfl ?_
 have hs1 := St.init w
 refine WC.sr ?_
 refine WL.bx hs1 rfl (fun b2 _ hs3 => ?_)
 refine WL.al hs3 Tryz.zeroValue28 rfl rfl (fun b4 _ hs5 => ?_)
 refine WL.nil ?_
 refine WC.sr ?_
 refine WL.buildF (F := encCell) hs5 ([]) Tryz.runUnderlying26 Tryz.sizeOf75 Tryz.zeroValue75 rfl rfl rfl rfl rfl rfl rfl rfl rfl rfl rfl rfl (fun A9 c10 L6 whs7 hs7 ho8 => ?_)
 replace hs7 := St.back [_, _] hs7
 refine WL.run tbk 2 hs7 [1] rfl ⟨rfl, trivial⟩ ?_
 refine WL.appendG (St.perm hs7 (L' := L6 ++ _) (perm_front (A := [_, _]) (List.Perm.refl _))) ho8 (SlF.src (SlF.st0 f_g.Cells hs7) Tryz.underlying26) Tryz.underlying26 info_75 rfl rfl rfl rfl rfl rfl rfl rfl rfl rfl ?_ (fun A14 c15 L11 whs12 hs12 ho13 => ?_)
 · simp; omega
 replace hs12 := St.back [_, _] hs12
 refine WL.run tbk 1 hs12 [] rfl trivial ?_
 refine WL.st tbk hs12 1 rfl rfl (fun _ hs16 => ?_)
 refine WL.nil ?_
 refine WC.sr ?_
 refine WL.run tbk 1 hs16 [1] rfl ⟨rfl, trivial⟩ ?_
 refine WL.st tbk hs16 0 rfl rfl (fun _ hs17 => ?_)
 refine WL.nil ?_
 refine WC.ret ?_
 refine retV1 rfl (resV.cellA tbk hs17 0 rfl rfl rfl rfl) ?_
 refine ⟨⟨g.W, g.H, SlD.of ho13⟩, _, rfl, (St.keep1 (St.perm hs17 (L' := L11 ++ _) (perm_front (A := [_, _]) (List.Perm.refl _)))), ?_, ?_⟩
 · exact ho13
 · rfl
theorem c_spec_GridNew (w_ : Int) (h_ : Int) (w : World) :
    Calls Tryz.prog 146 #[i64 w_, i64 h_] w fun e w' => ∃ r0 L0, e = .returned (.tuple #[.agg #[i64 r0.W, i64 r0.H, .slice r0.Cells.A r0.Cells.n r0.Cells.c], .bool (isSize w_ h_)]) ∧ St w [] (L0) w' ∧ ownGridR r0 L0 ∧ r0.dat = gridRes w_ h_ := by
 refine enter (vs := [i64 w_, i64 h_]) 46 Tryz.func146 rfl Tryz.ntmps146 rfl rfl ?_
 have hs1 := St.init w
 refine WC.sr ?_
 refine WL.al hs1 Tryz.zeroValue28 rfl rfl (fun b2 _ hs3 => ?_)
 refine WL.run tbk 1 hs3 [] rfl trivial ?_
 refine WL.nil ?_
 refine WC.seq (fun K4 hK4 => ?_)
 refine WC.sr ?_
 refine WL.run tbk 3 hs3 [] rfl trivial ?_
 refine WL.pO tbk 2 Acts.nil hs3 [] rfl rfl rfl rfl (fun g_ => trivial) ?_
 refine WL.run tbk 1 hs3 [] rfl trivial ?_
 refine WL.pO tbk 2 Acts.nil hs3 [] rfl rfl rfl rfl (fun g_ => trivial) ?_
 refine WL.run tbk 1 hs3 [] rfl trivial ?_
 refine WL.pO tbk 2 Acts.nil hs3 [] rfl rfl rfl rfl (fun g_ => trivial) ?_
 refine WL.run tbk 1 hs3 [] rfl trivial ?_
 apply WL.gO 4 Acts.nil hs3 rfl
 ·intro g5 J6
  have qg5 := g5
  try simp only [bf, within_iff, within_not] at qg5
  refine WL.runA tbk 4 (Acts.nil.cons (j := 14) rfl g5) hs3 [] rfl ⟨?_, trivial⟩ ?_
  · (have h9 := mul_size (w := w_) (h := h_) (by omega) (by omega); constructor <;> omega)
  exact WL.eO 4 Acts.nil J6 hs3 g5 rfl rfl
 ·intro _ hs7
  refine WL.nil ?_
  refine WC.cond rfl (fun h8 => ?_) (fun h8 => ?_)
  ·have qh8 := h8
   try simp only [bf, within_iff, within_not] at qh8
   have hm : isSize w_ h_ = false := by rw [← Bool.not_eq_true, isSize_iff]; have h8 := h8; simp at h8; omega
   refine WC.sr ?_
   refine WL.val rfl rfl rfl (Run.build rfl rfl rfl rfl (built_28)) ?_
   refine WL.st tbk hs7 0 rfl rfl (fun _ hs9 => ?_)
   refine WL.run tbk 1 hs9 [] rfl trivial ?_
   refine WL.nil ?_
   refine WC.ret ?_
   refine tkR ?_
   clear hK4
   refine retV2 rfl (resV.cellA tbk hs9 0 rfl rfl rfl rfl) (resV.tmp rfl) ?_
   rw [show isSize w_ h_ = false from hm]
   have hv : gridRes w_ h_ = grid0 := by unfold gridRes; rw [hm]; rfl
   refine ⟨⟨0, 0, ⟨none, 0, 0, []⟩⟩, _, rfl, (St.keep1 (St.perm hs9 (L' := ([] : Hp) ++ _) (perm_front (A := [_]) (List.Perm.refl _)))), ?_, ?_⟩
   · exact (OwnF.nil _ _)
   · rw [hv]; rfl
  ·have qh8 := h8
   try simp only [bf, within_iff, within_not] at qh8
   have hm : isSize w_ h_ = true := by rw [isSize_iff]; have h8 := h8; simp at h8; omega
   obtain ⟨hw, hh, hm1, hm2⟩ := isSize_bnd hm
   refine WC.skip ?_
   refine hK4 _ _ ?_
   refine WC.sr ?_
   refine WL.run tbk 2 hs7 [] rfl trivial ?_
   refine WL.val rfl rfl rfl (Run.build rfl rfl rfl rfl (built_28_0_1 _ _)) ?_
   refine WL.al hs7 Tryz.zeroValue28 rfl rfl (fun b11 _ hs12 => ?_)
   refine WL.st tbk hs12 0 rfl rfl (fun _ hs13 => ?_)
   refine WL.nil ?_
   refine WC.seq (fun K14 hK14 => ?_)
   refine WC.rr tbk hs13 [] rfl trivial ?_
   refine WC.block ?_
   have hM20 := (St.grp1 (L1 := ([] : Hp)) [_] (St.perm (St.perm (St.perm hs13 (L' := [_] ++ _) (perm_front (A := [_]) (List.Perm.refl _))) (L' := ([] : Hp) ++ _) (perm_front (A := [_, _]) (List.Perm.refl _))) (L' := [_] ++ _) (perm_front (A := ([] : Hp)) (perm_front (A := [_]) (List.Perm.refl _)))))
   refine WC.loopV (α := Hp) [(0, _), (1, _), (4, _), (5, _), (6, _), (27, _)] ⟨rfl, rfl, rfl, rfl, rfl, rfl, trivial⟩ (fun a_ => a_) _ hM20 (fun k_ (a_ : Hp) f => ∃ (i : Nat) (zs : List CellD) (A16 : Option Addr) (c17 : Nat) (L18 : Hp), k_ = (w_ * h_).toNat - i ∧ a_ = [(b11, .cells (List.toArray [i64 w_, i64 h_, .slice A16 zs.length c17]) 28 (0, 0))] ++ L18 ∧ (i ≤ (w_ * h_).toNat) ∧ (zs = List.replicate i blankC) ∧ OwnF encCell 75 (.slice A16 (zs).length c17) (zs) L18 ∧ Sub [(7, .int .i64 i)] f) (((fun (i : Nat) (zs : List CellD) => (w_ * h_).toNat - i) (0) ([]))) ?_ ?_
   ·refine ⟨0, [], none, 0, ([] : Hp), rfl, rfl, ?_, ?_, (OwnF.nil _ _), ⟨rfl, trivial⟩⟩
    · omega
    · rfl
   ·rintro _ _ f w ⟨i, zs, A16, c17, L18, rfl, rfl, p0, p1, ho19, hG⟩ hF hs21
    refine WC.sub _ (hG.app hF) ?_
    clear hG hF
    replace hs21 := St.ungrp1 [_] hs21
    have hs22 := (St.perm (St.perm hs21 (L' := [_] ++ _) (perm_front (A := [_]) (perm_front (A := L18) (List.Perm.refl _)))) (L' := [_] ++ _) (perm_front (A := [_]) (List.Perm.refl _)))
    have hzl : zs.length = i := by rw [p1]; simp
    refine WC.seq (fun K23 hK23 => ?_)
    refine WC.sr ?_
    refine WL.run tbk 5 hs22 [] rfl ⟨?_, trivial⟩ ?_
    · constructor <;> omega
    refine WL.nil ?_
    refine WC.cond rfl (fun h24 => ?_) (fun h24 => ?_)
    ·have qh24 := h24
     try simp only [bf, within_iff, within_not] at qh24
     refine WC.skip ?_
     refine hK23 _ _ ?_
     refine WC.seq (fun K25 hK25 => ?_)
     refine WC.block ?_
     refine WC.regionH2 (fun w' => St _ _ _ w') (fun w' => St _ _ _ w') mixed (St.drew (St.drop (St.perm (St.drop hs22 (List.sublist_append_right [_] _)) (L' := L18 ++ _) (perm_front (A := [_]) (List.Perm.refl _))) (List.sublist_append_right L18 _))) (St.drew hs22) (fun whs26 hs26 => ?_)
     replace hs26 : St _ _ _ _ := hs26
     refine WH.take 0 rfl (by kernel_rfl) rfl rfl rfl (St.drop (St.perm (St.drop hs26 (List.sublist_append_right [_] _)) (L' := L18 ++ _) (perm_front (A := [_]) (List.Perm.refl _))) (List.sublist_append_right L18 _)) (fun w_ hs_ => (Run.field Tryz.runUnderlying28 rfl rfl rfl Tryz.sizeOf26 rfl)) ?_
     refine WH.all [1, 2] (by kernel_rfl) rfl (WHs.cons (i := 1) rfl ?_ (WHs.cons (i := 2) rfl ?_ WHs.nil))
     ·refine WL.run tbk 1 hs26 [0] rfl ⟨rfl, trivial⟩ ?_
      refine WL.nil ⟨(St.drop (St.perm (St.drop hs26 (List.sublist_append_right [_] _)) (L' := L18 ++ _) (perm_front (A := [_]) (List.Perm.refl _))) (List.sublist_append_right L18 _)), ?_⟩
      refine WH.all [2] (by kernel_rfl) rfl (WHs.cons (i := 2) rfl ?_ WHs.nil)
      refine WL.call rfl rfl rfl (Run.call Tryz.call180 rfl rfl rfl) (c_spec_l07Blank _) ?_
      rintro _ whs27 ⟨rfl, hs27⟩
      replace hs27 := hs26.call0 hs27
      refine ⟨_, rfl, ?_⟩
      refine WL.nil ⟨(St.drop (St.perm (St.drop hs27 (List.sublist_append_right [_] _)) (L' := L18 ++ _) (perm_front (A := [_]) (List.Perm.refl _))) (List.sublist_append_right L18 _)), ?_⟩
      refine WH.all [3] (by kernel_rfl) rfl (WHs.cons (i := 3) rfl ?_ WHs.nil)
      refine WL.buildF (F := encCell) hs27 ([blankC]) Tryz.runUnderlying26 Tryz.sizeOf75 Tryz.zeroValue75 rfl rfl rfl rfl rfl rfl rfl rfl rfl rfl rfl rfl (fun A31 c32 L28 whs29 hs29 ho30 => ?_)
      replace hs29 := St.back [_, _] hs29
      refine WL.nil ⟨(St.drop (St.perm (St.drop (St.perm (St.drop hs29 (List.sublist_append_right [_] _)) (L' := L28 ++ _) (perm_front (A := [_]) (List.Perm.refl _))) (List.sublist_append_right L28 _)) (L' := L18 ++ _) (perm_front (A := [_]) (List.Perm.refl _))) (List.sublist_append_right L18 _)), ?_⟩
      refine WH.all [4] (by kernel_rfl) rfl (WHs.cons (i := 4) rfl ?_ WHs.nil)
      refine WL.appendG (St.perm hs29 (L' := L18 ++ _) (perm_front (A := [_, _]) (perm_front (A := L28) (List.Perm.refl _)))) ho19 (SlF.src (SlF.ofOwn ho30 (fun p_ hp_ => (hs29.own p_ (List.mem_append_right [_, _] (List.mem_append_left _ hp_))).1)) Tryz.underlying26) Tryz.underlying26 info_75 rfl rfl rfl rfl rfl rfl rfl rfl rfl rfl ?_ (fun A36 c37 L33 whs34 hs34 ho35 => ?_)
      · simp; omega
      replace hs34 := St.back [_, _] hs34
      refine WL.nil ⟨(St.drop (St.perm (St.drop (St.perm (St.drop hs34 (List.sublist_append_right [_] _)) (L' := L33 ++ _) (perm_front (A := [_]) (List.Perm.refl _))) (List.sublist_append_right L33 _)) (L' := L28 ++ _) (perm_front (A := [_]) (List.Perm.refl _))) (List.sublist_append_right L28 _)), ?_⟩
      refine WH.take 5 rfl (by kernel_rfl) rfl rfl rfl (St.drop (St.perm (St.drop (St.perm (St.drop hs34 (List.sublist_append_right [_] _)) (L' := L33 ++ _) (perm_front (A := [_]) (List.Perm.refl _))) (List.sublist_append_right L33 _)) (L' := L28 ++ _) (perm_front (A := [_]) (List.Perm.refl _))) (List.sublist_append_right L28 _)) (fun w_ hs_ => (Run.field Tryz.runUnderlying28 rfl rfl rfl Tryz.sizeOf26 rfl)) ?_
      refine WH.all [6] (by kernel_rfl) rfl (WHs.cons (i := 6) rfl ?_ WHs.nil)
      refine WL.st tbk hs34 0 rfl rfl (fun _ hs38 => ?_)
      refine WL.nil ⟨(St.drop (St.perm (St.drop (St.perm (St.drop hs38 (List.sublist_append_right [_] _)) (L' := L33 ++ _) (perm_front (A := [_]) (List.Perm.refl _))) (List.sublist_append_right L33 _)) (L' := L28 ++ _) (perm_front (A := [_]) (List.Perm.refl _))) (List.sublist_append_right L28 _)), ?_⟩
      refine WH.done (by kernel_rfl) ?_
      refine hK25 _ _ ?_
      refine WC.region ?_
      refine WL.run tbk 3 hs38 [] rfl ⟨by omega, trivial⟩ ?_
      refine WL.nil ?_
      refine tkN ?_
      replace hs38 := St.drop (St.perm hs38 (L' := L28 ++ _) (perm_front (A := [_, _]) (perm_front (A := L33) (List.Perm.refl _)))) (List.sublist_append_right L28 _)
      have hF39 := (St.grp1 (L1 := L33) [_] (St.perm (St.perm (St.perm hs38 (L' := [_] ++ _) (perm_front (A := [_]) (List.Perm.refl _))) (L' := L33 ++ _) (perm_front (A := [_, _]) (List.Perm.refl _))) (L' := [_] ++ _) (perm_front (A := L33) (perm_front (A := [_]) (List.Perm.refl _)))))
      refine ⟨⟨rfl, rfl, rfl, rfl, rfl, rfl, trivial⟩, _, hF39, _, ?_, i + 1, _, A36, c37, L33, rfl, rfl, ?_, ?_, ho35, ⟨rfl, trivial⟩⟩
      · omega
      · omega
      · rw [p1]; exact List.replicate_succ'.symm
     ·refine WL.call rfl rfl rfl (Run.call Tryz.call180 rfl rfl rfl) (c_spec_l07Blank _) ?_
      rintro _ whs40 ⟨rfl, hs40⟩
      replace hs40 := hs26.call0 hs40
      refine ⟨_, rfl, ?_⟩
      refine WL.nil ⟨(St.drop (St.perm (St.drop hs40 (List.sublist_append_right [_] _)) (L' := L18 ++ _) (perm_front (A := [_]) (List.Perm.refl _))) (List.sublist_append_right L18 _)), ?_⟩
      refine WH.all [1, 3] (by kernel_rfl) rfl (WHs.cons (i := 1) rfl ?_ (WHs.cons (i := 3) rfl ?_ WHs.nil))
      ·refine WL.run tbk 1 hs40 [0] rfl ⟨rfl, trivial⟩ ?_
       refine WL.nil ⟨(St.drop (St.perm (St.drop hs40 (List.sublist_append_right [_] _)) (L' := L18 ++ _) (perm_front (A := [_]) (List.Perm.refl _))) (List.sublist_append_right L18 _)), ?_⟩
       refine WH.all [3] (by kernel_rfl) rfl (WHs.cons (i := 3) rfl ?_ WHs.nil)
       refine WL.buildF (F := encCell) hs40 ([blankC]) Tryz.runUnderlying26 Tryz.sizeOf75 Tryz.zeroValue75 rfl rfl rfl rfl rfl rfl rfl rfl rfl rfl rfl rfl (fun A44 c45 L41 whs42 hs42 ho43 => ?_)
       replace hs42 := St.back [_, _] hs42
       refine WL.nil ⟨(St.drop (St.perm (St.drop (St.perm (St.drop hs42 (List.sublist_append_right [_] _)) (L' := L41 ++ _) (perm_front (A := [_]) (List.Perm.refl _))) (List.sublist_append_right L41 _)) (L' := L18 ++ _) (perm_front (A := [_]) (List.Perm.refl _))) (List.sublist_append_right L18 _)), ?_⟩
       refine WH.all [4] (by kernel_rfl) rfl (WHs.cons (i := 4) rfl ?_ WHs.nil)
       refine WL.appendG (St.perm hs42 (L' := L18 ++ _) (perm_front (A := [_, _]) (perm_front (A := L41) (List.Perm.refl _)))) ho19 (SlF.src (SlF.ofOwn ho43 (fun p_ hp_ => (hs42.own p_ (List.mem_append_right [_, _] (List.mem_append_left _ hp_))).1)) Tryz.underlying26) Tryz.underlying26 info_75 rfl rfl rfl rfl rfl rfl rfl rfl rfl rfl ?_ (fun A49 c50 L46 whs47 hs47 ho48 => ?_)
       · simp; omega
       replace hs47 := St.back [_, _] hs47
       refine WL.nil ⟨(St.drop (St.perm (St.drop (St.perm (St.drop hs47 (List.sublist_append_right [_] _)) (L' := L46 ++ _) (perm_front (A := [_]) (List.Perm.refl _))) (List.sublist_append_right L46 _)) (L' := L41 ++ _) (perm_front (A := [_]) (List.Perm.refl _))) (List.sublist_append_right L41 _)), ?_⟩
       refine WH.take 5 rfl (by kernel_rfl) rfl rfl rfl (St.drop (St.perm (St.drop (St.perm (St.drop hs47 (List.sublist_append_right [_] _)) (L' := L46 ++ _) (perm_front (A := [_]) (List.Perm.refl _))) (List.sublist_append_right L46 _)) (L' := L41 ++ _) (perm_front (A := [_]) (List.Perm.refl _))) (List.sublist_append_right L41 _)) (fun w_ hs_ => (Run.field Tryz.runUnderlying28 rfl rfl rfl Tryz.sizeOf26 rfl)) ?_
       refine WH.all [6] (by kernel_rfl) rfl (WHs.cons (i := 6) rfl ?_ WHs.nil)
       refine WL.st tbk hs47 0 rfl rfl (fun _ hs51 => ?_)
       refine WL.nil ⟨(St.drop (St.perm (St.drop (St.perm (St.drop hs51 (List.sublist_append_right [_] _)) (L' := L46 ++ _) (perm_front (A := [_]) (List.Perm.refl _))) (List.sublist_append_right L46 _)) (L' := L41 ++ _) (perm_front (A := [_]) (List.Perm.refl _))) (List.sublist_append_right L41 _)), ?_⟩
       refine WH.done (by kernel_rfl) ?_
       refine hK25 _ _ ?_
       refine WC.region ?_
       refine WL.run tbk 3 hs51 [] rfl ⟨by omega, trivial⟩ ?_
       refine WL.nil ?_
       refine tkN ?_
       replace hs51 := St.drop (St.perm hs51 (L' := L41 ++ _) (perm_front (A := [_, _]) (perm_front (A := L46) (List.Perm.refl _)))) (List.sublist_append_right L41 _)
       have hF52 := (St.grp1 (L1 := L46) [_] (St.perm (St.perm (St.perm hs51 (L' := [_] ++ _) (perm_front (A := [_]) (List.Perm.refl _))) (L' := L46 ++ _) (perm_front (A := [_, _]) (List.Perm.refl _))) (L' := [_] ++ _) (perm_front (A := L46) (perm_front (A := [_]) (List.Perm.refl _)))))
       refine ⟨⟨rfl, rfl, rfl, rfl, rfl, rfl, trivial⟩, _, hF52, _, ?_, i + 1, _, A49, c50, L46, rfl, rfl, ?_, ?_, ho48, ⟨rfl, trivial⟩⟩
       · omega
       · omega
       · rw [p1]; exact List.replicate_succ'.symm
      ·refine WL.buildF (F := encCell) hs40 ([blankC]) Tryz.runUnderlying26 Tryz.sizeOf75 Tryz.zeroValue75 rfl rfl rfl rfl rfl rfl rfl rfl rfl rfl rfl rfl (fun A56 c57 L53 whs54 hs54 ho55 => ?_)
       replace hs54 := St.back [_, _] hs54
       refine WL.nil ⟨(St.drop (St.perm (St.drop (St.perm (St.drop hs54 (List.sublist_append_right [_] _)) (L' := L53 ++ _) (perm_front (A := [_]) (List.Perm.refl _))) (List.sublist_append_right L53 _)) (L' := L18 ++ _) (perm_front (A := [_]) (List.Perm.refl _))) (List.sublist_append_right L18 _)), ?_⟩
       refine WH.all [1] (by kernel_rfl) rfl (WHs.cons (i := 1) rfl ?_ WHs.nil)
       refine WL.run tbk 1 hs54 [0] rfl ⟨rfl, trivial⟩ ?_
       refine WL.nil ⟨(St.drop (St.perm (St.drop (St.perm (St.drop hs54 (List.sublist_append_right [_] _)) (L' := L53 ++ _) (perm_front (A := [_]) (List.Perm.refl _))) (List.sublist_append_right L53 _)) (L' := L18 ++ _) (perm_front (A := [_]) (List.Perm.refl _))) (List.sublist_append_right L18 _)), ?_⟩
       refine WH.all [4] (by kernel_rfl) rfl (WHs.cons (i := 4) rfl ?_ WHs.nil)
       refine WL.appendG (St.perm hs54 (L' := L18 ++ _) (perm_front (A := [_, _]) (perm_front (A := L53) (List.Perm.refl _)))) ho19 (SlF.src (SlF.ofOwn ho55 (fun p_ hp_ => (hs54.own p_ (List.mem_append_right [_, _] (List.mem_append_left _ hp_))).1)) Tryz.underlying26) Tryz.underlying26 info_75 rfl rfl rfl rfl rfl rfl rfl rfl rfl rfl ?_ (fun A61 c62 L58 whs59 hs59 ho60 => ?_)
       · simp; omega
       replace hs59 := St.back [_, _] hs59
       refine WL.nil ⟨(St.drop (St.perm (St.drop (St.perm (St.drop hs59 (List.sublist_append_right [_] _)) (L' := L58 ++ _) (perm_front (A := [_]) (List.Perm.refl _))) (List.sublist_append_right L58 _)) (L' := L53 ++ _) (perm_front (A := [_]) (List.Perm.refl _))) (List.sublist_append_right L53 _)), ?_⟩
       refine WH.take 5 rfl (by kernel_rfl) rfl rfl rfl (St.drop (St.perm (St.drop (St.perm (St.drop hs59 (List.sublist_append_right [_] _)) (L' := L58 ++ _) (perm_front (A := [_]) (List.Perm.refl _))) (List.sublist_append_right L58 _)) (L' := L53 ++ _) (perm_front (A := [_]) (List.Perm.refl _))) (List.sublist_append_right L53 _)) (fun w_ hs_ => (Run.field Tryz.runUnderlying28 rfl rfl rfl Tryz.sizeOf26 rfl)) ?_
       refine WH.all [6] (by kernel_rfl) rfl (WHs.cons (i := 6) rfl ?_ WHs.nil)
       refine WL.st tbk hs59 0 rfl rfl (fun _ hs63 => ?_)
       refine WL.nil ⟨(St.drop (St.perm (St.drop (St.perm (St.drop hs63 (List.sublist_append_right [_] _)) (L' := L58 ++ _) (perm_front (A := [_]) (List.Perm.refl _))) (List.sublist_append_right L58 _)) (L' := L53 ++ _) (perm_front (A := [_]) (List.Perm.refl _))) (List.sublist_append_right L53 _)), ?_⟩
       refine WH.done (by kernel_rfl) ?_
       refine hK25 _ _ ?_
       refine WC.region ?_
       refine WL.run tbk 3 hs63 [] rfl ⟨by omega, trivial⟩ ?_
       refine WL.nil ?_
       refine tkN ?_
       replace hs63 := St.drop (St.perm hs63 (L' := L53 ++ _) (perm_front (A := [_, _]) (perm_front (A := L58) (List.Perm.refl _)))) (List.sublist_append_right L53 _)
       have hF64 := (St.grp1 (L1 := L58) [_] (St.perm (St.perm (St.perm hs63 (L' := [_] ++ _) (perm_front (A := [_]) (List.Perm.refl _))) (L' := L58 ++ _) (perm_front (A := [_, _]) (List.Perm.refl _))) (L' := [_] ++ _) (perm_front (A := L58) (perm_front (A := [_]) (List.Perm.refl _)))))
       refine ⟨⟨rfl, rfl, rfl, rfl, rfl, rfl, trivial⟩, _, hF64, _, ?_, i + 1, _, A61, c62, L58, rfl, rfl, ?_, ?_, ho60, ⟨rfl, trivial⟩⟩
       · omega
       · omega
       · rw [p1]; exact List.replicate_succ'.symm
    ·have qh24 := h24
     try simp only [bf, within_iff, within_not] at qh24
     refine WC.exit ?_
     refine hK14 _ _ ?_
     refine WC.sr ?_
     refine WL.run tbk 1 hs22 [0] rfl ⟨rfl, trivial⟩ ?_
     refine WL.st tbk hs22 1 rfl rfl (fun _ hs65 => ?_)
     refine WL.run tbk 1 hs65 [] rfl trivial ?_
     refine WL.nil ?_
     refine WC.ret ?_
     refine retV2 rfl (resV.cellA tbk hs65 1 rfl rfl rfl rfl) (resV.tmp rfl) ?_
     rw [hm]
     have hv : gridRes w_ h_ = gridNew w_ h_ := by unfold gridRes; rw [hm]; rfl
     refine ⟨⟨w_, h_, SlD.of ho19⟩, _, rfl, (St.keep1 (St.perm hs65 (L' := L18 ++ _) (perm_front (A := [_, _]) (List.Perm.refl _)))), ?_, ?_⟩
     · exact ho19
     · rw [hv]; show GridD.mk w_ h_ zs = _; rw [p1, show i = (w_ * h_).toNat by omega]; rfl
theorem c_spec_l09Tabs (w_ : Int) (w : World) (hw : 1 ≤ w_ ∧ w_ ≤ 120) :
    Calls Tryz.prog 147 #[i64 w_] w fun e w' => ∃ A c L1, e = .returned (.slice A (tabsL w_).length c) ∧ St w [] L1 w' ∧ OwnF encI 3 (.slice A (tabsL w_).length c) (tabsL w_) L1 := by
 refine enter (vs := [i64 w_]) 16 Tryz.func147 rfl Tryz.ntmps147 rfl rfl ?_
 have hs1 := St.init w
 refine WC.rr tbk hs1 [] rfl trivial ?_
 refine WC.sr ?_
 refine WL.buildF (F := encI) hs1 ([]) Tryz.runUnderlying23 Tryz.sizeOf3 Tryz.zeroValue3 rfl rfl rfl rfl rfl rfl rfl rfl rfl rfl rfl rfl (fun A5 c6 L2 whs3 hs3 ho4 => ?_)
 refine WL.run tbk 1 hs3 [] rfl trivial ?_
 refine WL.nil ?_
 refine WC.seq (fun K7 hK7 => ?_)
 refine WC.rr tbk hs3 [] rfl trivial ?_
 refine WC.block ?_
 refine WC.loopO [(0, _), (2, _)] ⟨rfl, rfl, trivial⟩ hs3 (fun k_ f L_ => ∃ (i : Nat) (A8 : Option Addr) (c9 : Nat), k_ = 121 - i ∧ (i = 0 ∨ 8 * (i : Int) < w_) ∧ (i ≤ 120) ∧ OwnF encI 3 (.slice A8 (((List.range i).map (fun i : Nat => 8 * ((i : Int) + 1))).length) c9) (((List.range i).map (fun i : Nat => 8 * ((i : Int) + 1)))) L_ ∧ Sub [(3, .slice A8 (((List.range i).map (fun i : Nat => 8 * ((i : Int) + 1))).length) c9), (4, .int .i64 (8 * ((i : Int) + 1)))] f) (((fun (i : Nat) => 121 - i) (0))) ?_ ?_
 ·refine ⟨0, _, _, rfl, ?_, ?_, ho4, ⟨?_, ?_, trivial⟩⟩
  · exact .inl rfl
  · omega
  · rfl
  · rfl
 ·clear hs3
  rintro _ f w L10 ⟨i, A8, c9, rfl, p0, p1, ho11, hG⟩ hF hs12
  refine WC.sub _ (hG.app hF) ?_
  clear hG hF
  have hlt : (((List.range i).map (fun i : Nat => 8 * ((i : Int) + 1)))).length = i := by simp
  refine WC.seq (fun K13 hK13 => ?_)
  refine WC.rr tbk hs12 [] rfl trivial ?_
  refine WC.cond rfl (fun h14 => ?_) (fun h14 => ?_)
  ·have qh14 := h14
   try simp only [bf, within_iff, within_not] at qh14
   refine WC.skip ?_
   refine hK13 _ _ ?_
   refine WC.seq (fun K15 hK15 => ?_)
   refine WC.block ?_
   refine WC.region ?_
   refine WL.run tbk 2 hs12 [] rfl trivial ?_
   refine WL.buildSlice hs12 Tryz.runUnderlying23 Tryz.sizeOf3 Tryz.zeroValue3 rfl rfl rfl rfl rfl rfl rfl rfl rfl rfl (fun b16 whs17 hs17 => ?_)
   refine WL.appendG (St.perm hs17 (L' := L10 ++ _) (perm_front (A := [_]) (List.Perm.refl _))) ho11 (srcI1 Tryz.underlying23 (hs17.own _ (nthL_mem (i := 0) rfl)).1) Tryz.underlying23 info_3 rfl rfl rfl rfl rfl rfl rfl rfl rfl rfl ?_ (fun A21 c22 L18 whs19 hs19 ho20 => ?_)
   · simp; omega
   replace hs19 := St.back [_] hs19
   refine WL.run tbk 1 hs19 [] rfl trivial ?_
   refine WL.nil ?_
   refine hK15 _ _ ?_
   refine WC.region ?_
   refine WL.run tbk 3 hs19 [] rfl ⟨by omega, trivial⟩ ?_
   refine WL.nil ?_
   refine tkN ?_
   replace hs19 := St.drop hs19 (List.sublist_append_right [_] _)
   refine ⟨⟨rfl, rfl, trivial⟩, _, hs19, _, ?_, i + 1, _, _, rfl, ?_, ?_, (tabsL_take (w := w_) (by omega) ▸ ho20), ⟨?_, ?_, trivial⟩⟩
   · omega
   · right; omega
   · omega
   · (rw [tabsL_take (w := w_) (i := i) (by omega)]; rfl)
   · (refine congrArg some (congrArg (Value.int _) ?_); omega)
  ·have qh14 := h14
   try simp only [bf, within_iff, within_not] at qh14
   refine WC.exit ?_
   refine hK7 _ _ ?_
   refine WC.rr tbk hs12 [] rfl trivial ?_
   refine WC.ret ?_
   refine retV1 rfl (resV.tmp rfl) ?_
   have hx_ := OwnF.eqOf (xs := tabsL w_) ho11 (by exact tabsL_end (by omega) p0)
   rw [← hx_]
   first | exact ⟨_, _, _, rfl, (St.keep1 hs12), ho11⟩ | exact ⟨A8, c9, _, by rw [OwnF.len_ ho11], (St.keep1 hs12), by rw [OwnF.len_ ho11]; exact ho11⟩
theorem c_spec_ScrNew (w_ : Int) (h_ : Int) (l : Int) (w : World) :
    Calls Tryz.prog 70 #[i64 w_, i64 h_, i64 l] w fun e w' => ∃ r0 L0, e = .returned (.tuple #[.agg #[i64 r0.W, i64 r0.H, i64 r0.Main.W, i64 r0.Main.H, .slice r0.Main.Cells.A r0.Main.Cells.n r0.Main.Cells.c, i64 r0.Alt.W, i64 r0.Alt.H, .slice r0.Alt.Cells.A r0.Alt.Cells.n r0.Alt.Cells.c, .bool r0.OnAlt, i64 r0.X, i64 r0.Y, .bool r0.Wrap, i64 r0.A.Fg, i64 r0.A.Bg, .bool r0.A.Bold, .bool r0.A.Under, .bool r0.A.Turn, i64 r0.Top, i64 r0.Bot, .bool r0.NoWrap, .bool r0.Hide, i64 r0.SaveX, i64 r0.SaveY, i64 r0.SaveA.Fg, i64 r0.SaveA.Bg, .bool r0.SaveA.Bold, .bool r0.SaveA.Under, .bool r0.SaveA.Turn, .slice r0.Tabs.A r0.Tabs.n r0.Tabs.c, i64 r0.Limit, .slice r0.Back.A r0.Back.n r0.Back.c], .bool (scrMay w_ h_ l)]) ∧ St w [] (L0) w' ∧ ownScrR r0 L0 ∧ r0.dat = scrRes w_ h_ l := by
 refine enter (vs := [i64 w_, i64 h_, i64 l]) 38 Tryz.func70 rfl Tryz.ntmps70 rfl rfl ?_
 have hs1 := St.init w
 refine WC.sr ?_
 refine WL.al hs1 Tryz.zeroValue33 rfl rfl (fun b2 _ hs3 => ?_)
 refine WL.run tbk 1 hs3 [] rfl trivial ?_
 refine WL.nil ?_
 refine WC.sr ?_
 refine WL.run tbk 2 hs3 [] rfl trivial ?_
 refine WL.call rfl rfl rfl (Run.call Tryz.call146 rfl rfl rfl) (c_spec_GridNew _ _ _) ?_
 rintro _ whs4 ⟨r0_5, L0_6, rfl, hs4, ho7, hd0_8⟩
 replace hs4 := hs3.callF hs4
 refine ⟨_, rfl, ?_⟩
 replace hs4 := St.back [_] hs4
 refine WL.run tbk 3 hs4 [] rfl trivial ?_
 refine WL.al hs4 Tryz.zeroValue28 rfl rfl (fun b9 _ hs10 => ?_)
 refine WL.st tbk hs10 0 rfl rfl (fun _ hs11 => ?_)
 refine WL.run tbk 1 hs11 [] rfl trivial ?_
 refine WL.nil ?_
 refine WC.seq (fun K12 hK12 => ?_)
 refine WC.sr ?_
 refine WL.run tbk 3 hs11 [] rfl trivial ?_
 refine WL.pO tbk 2 Acts.nil hs11 [] rfl rfl rfl rfl (fun g_ => trivial) ?_
 refine WL.run tbk 1 hs11 [] rfl trivial ?_
 refine WL.pO tbk 2 Acts.nil hs11 [] rfl rfl rfl rfl (fun g_ => trivial) ?_
 refine WL.nil ?_
 refine WC.cond rfl (fun h13 => ?_) (fun h13 => ?_)
 ·have qh13 := h13
  try simp only [bf, within_iff, within_not] at qh13
  have hm : scrMay w_ h_ l = false := by rw [← Bool.not_eq_true]; intro h9; unfold scrMay at h9; rw [Bool.and_eq_true, within_iff] at h9; have h8 := h13; simp [h9.1] at h8; omega
  refine WC.sr ?_
  refine WL.val rfl rfl rfl (Run.build rfl rfl rfl rfl (built_33)) ?_
  refine WL.st tbk hs11 1 rfl rfl (fun _ hs14 => ?_)
  refine WL.run tbk 1 hs14 [] rfl trivial ?_
  refine WL.nil ?_
  refine WC.ret ?_
  refine tkR ?_
  clear hK12
  refine retV2 rfl (resV.cellA tbk hs14 1 rfl rfl rfl rfl) (resV.tmp rfl) ?_
  rw [hm]
  have hv : scrRes w_ h_ l = scr0 := by unfold scrRes; rw [hm]; rfl
  obtain ⟨L20, hs19, ho21⟩ := ownScrR.fold ⟨0, 0, ⟨0, 0, ⟨_, _, _, _⟩⟩, ⟨0, 0, ⟨_, _, _, _⟩⟩, false, 0, 0, false, ⟨0, 0, false, false, false⟩, 0, 0, false, false, 0, 0, ⟨0, 0, false, false, false⟩, ⟨_, _, _, _⟩, 0, ⟨_, _, _, _⟩⟩ (St.perm (St.perm (St.perm (St.perm hs14 (L' := ([] : Hp) ++ _) (perm_front (A := [_, _]) (List.Perm.refl _))) (L' := ([] : Hp) ++ _) (perm_front (A := ([] : Hp)) (perm_front (A := [_, _]) (List.Perm.refl _)))) (L' := ([] : Hp) ++ _) (perm_front (A := ([] : Hp)) (perm_front (A := ([] : Hp)) (perm_front (A := [_, _]) (List.Perm.refl _))))) (L' := ([] : Hp) ++ _) (perm_front (A := ([] : Hp)) (perm_front (A := ([] : Hp)) (perm_front (A := ([] : Hp)) (perm_front (A := [_, _]) (List.Perm.refl _)))))) (OwnF.nil _ _) (OwnF.nil _ _) (OwnF.nil _ _) (OwnN.nil _ _ _)
  have hs22 := (St.perm (St.perm hs19 (L' := [_] ++ _) (perm_front (A := L20) (perm_front (A := [_]) (List.Perm.refl _)))) (L' := [_] ++ _) (perm_front (A := [_]) (perm_front (A := L20) (List.Perm.refl _))))
  refine ⟨⟨0, 0, ⟨0, 0, ⟨none, 0, 0, []⟩⟩, ⟨0, 0, ⟨none, 0, 0, []⟩⟩, false, 0, 0, false, ⟨0, 0, false, false, false⟩, 0, 0, false, false, 0, 0, ⟨0, 0, false, false, false⟩, ⟨none, 0, 0, []⟩, 0, ⟨none, 0, 0, []⟩⟩, _, rfl, (St.keep1 (St.perm hs22 (L' := L20 ++ _) (perm_front (A := [_, _]) (List.Perm.refl _)))), ?_, ?_⟩
  · exact (by exact ho21)
  · rw [hv]; rfl
 ·have qh13 := h13
  try simp only [bf, within_iff, within_not] at qh13
  have hm : scrMay w_ h_ l = true := by unfold scrMay; rw [Bool.and_eq_true, within_iff]; have h8 := h13; simp at h8; exact ⟨h8.1.1, by omega⟩
  have hs : isSize w_ h_ = true := by unfold scrMay at hm; rw [Bool.and_eq_true] at hm; exact hm.1
  obtain ⟨hw, hh, hm1, hm2⟩ := isSize_bnd hs
  have hgr : gridRes w_ h_ = gridNew w_ h_ := by unfold gridRes; rw [hs]; rfl
  have hgB : smGrid 1099511627 (gridRes w_ h_) := by rw [hgr]; show (List.replicate _ _).length ≤ _; rw [List.length_replicate]; omega
  have hgB2 : smGrid 549755813888 (gridRes w_ h_) := Nat.le_trans hgB (by decide)
  refine WC.skip ?_
  refine hK12 _ _ ?_
  refine WC.seq (fun K23 hK23 => ?_)
  refine WC.regionH2 (fun w' => St _ _ _ w') (fun w' => St _ _ _ w') mixed (St.drew (St.drop hs11 (List.Sublist.cons_cons _ (List.Sublist.cons _ (List.Sublist.refl _))))) (St.drew hs11) (fun whs24 hs24 => ?_)
  replace hs24 : St _ _ _ _ := hs24
  refine WH.take 0 rfl (by kernel_rfl) rfl rfl rfl (St.drop hs24 (List.Sublist.cons_cons _ (List.Sublist.cons _ (List.Sublist.refl _)))) (fun w_ hs_ => (Run.move rfl rfl)) ?_
  refine WH.take 1 rfl (by kernel_rfl) rfl rfl rfl (St.drop hs24 (List.Sublist.cons_cons _ (List.Sublist.cons _ (List.Sublist.refl _)))) (fun w_ hs_ => (Run.move rfl rfl)) ?_
  refine WH.take 2 rfl (by kernel_rfl) rfl rfl rfl (St.drop hs24 (List.Sublist.cons_cons _ (List.Sublist.cons _ (List.Sublist.refl _)))) (fun w_ hs_ => (Run.loadLA (hs_ : St _ _ _ _) 0 Tryz.isAgg28 Tryz.sizeOf28 rfl rfl rfl rfl rfl)) ?_
  refine WH.take 3 rfl (by kernel_rfl) rfl rfl rfl (St.drop hs24 (List.Sublist.cons_cons _ (List.Sublist.cons _ (List.Sublist.refl _)))) (fun w_ hs_ => (Run.loadLA (hs_ : St _ _ _ _) 0 Tryz.isAgg28 Tryz.sizeOf28 rfl rfl rfl rfl rfl)) ?_
  refine WH.take 5 rfl (by kernel_rfl) rfl rfl rfl (St.drop hs24 (List.Sublist.cons_cons _ (List.Sublist.cons _ (List.Sublist.refl _)))) (fun w_ hs_ => (Run.move rfl rfl)) ?_
  refine WH.take 6 rfl (by kernel_rfl) rfl rfl rfl (St.drop hs24 (List.Sublist.cons_cons _ (List.Sublist.cons _ (List.Sublist.refl _)))) (fun w_ hs_ => (Run.sub rfl rfl rfl ?_)) ?_
  · constructor <;> omega
  refine WH.take 7 rfl (by kernel_rfl) rfl rfl rfl (St.drop hs24 (List.Sublist.cons_cons _ (List.Sublist.cons _ (List.Sublist.refl _)))) (fun w_ hs_ => (Run.move rfl rfl)) ?_
  refine WH.take 9 rfl (by kernel_rfl) rfl rfl rfl (St.drop hs24 (List.Sublist.cons_cons _ (List.Sublist.cons _ (List.Sublist.refl _)))) (fun w_ hs_ => (Run.move rfl rfl)) ?_
  refine WH.all [4] (by kernel_rfl) rfl (WHs.cons (i := 4) rfl ?_ WHs.nil)
  refine WL.call rfl rfl rfl (Run.call Tryz.call141 rfl rfl rfl) (c_spec_l07Copy r0_5 _ (ownGridR.ok (B := 549755813888) ho7 (fun p_ hp_ => (hs24.own p_ (List.mem_append_right [_, _] (List.mem_append_left _ hp_))).1) (by rw [hd0_8]; assumption)) ?_) ?_
  · first | (first | assumption | rfl | omega) | (first | omega | assumption | (rw [hd0_8]; assumption))
  rintro _ whs25 ⟨r26, L1_27, rfl, hs25, ho28, hd29⟩
  replace hs25 := hs24.callF hs25
  refine ⟨_, rfl, ?_⟩
  replace hs25 := St.back [_, _] hs25
  refine WL.nil ⟨(St.drop (St.perm (St.drop hs25 (List.Sublist.cons_cons _ (List.Sublist.cons _ (List.Sublist.refl _)))) (L' := L1_27 ++ _) (perm_front (A := [_]) (List.Perm.refl _))) (List.sublist_append_right L1_27 _)), ?_⟩
  refine WH.all [8] (by kernel_rfl) rfl (WHs.cons (i := 8) rfl ?_ WHs.nil)
  refine WL.call rfl rfl rfl (Run.call Tryz.call147 rfl rfl rfl) (c_spec_l09Tabs _ _ ?_) ?_
  · first | (first | assumption | rfl | omega) | (first | omega | assumption | (rw [hd0_8]; assumption))
  rintro _ whs30 ⟨A31, c32, L1_33, rfl, hs30, ho34⟩
  replace hs30 := hs25.callF hs30
  refine ⟨_, rfl, ?_⟩
  replace hs30 := St.back [_, _] hs30
  refine WL.nil ⟨(St.drop (St.perm (St.drop (St.perm (St.drop hs30 (List.Sublist.cons_cons _ (List.Sublist.cons _ (List.Sublist.refl _)))) (L' := L1_33 ++ _) (perm_front (A := [_]) (List.Perm.refl _))) (List.sublist_append_right L1_33 _)) (L' := L1_27 ++ _) (perm_front (A := [_]) (List.Perm.refl _))) (List.sublist_append_right L1_27 _)), ?_⟩
  refine WH.take 10 rfl (by kernel_rfl) rfl rfl rfl (St.drop (St.perm (St.drop (St.perm (St.drop hs30 (List.Sublist.cons_cons _ (List.Sublist.cons _ (List.Sublist.refl _)))) (L' := L1_33 ++ _) (perm_front (A := [_]) (List.Perm.refl _))) (List.sublist_append_right L1_33 _)) (L' := L1_27 ++ _) (perm_front (A := [_]) (List.Perm.refl _))) (List.sublist_append_right L1_27 _)) (fun w_ hs_ => (Run.build rfl rfl rfl rfl (built_33_0_1_2_3_10_16_17 _ _ _ _ _ _ _ _ _ _ _ _ _))) ?_
  refine WH.all [11] (by kernel_rfl) rfl (WHs.cons (i := 11) rfl ?_ WHs.nil)
  refine WL.st tbk hs30 1 rfl rfl (fun _ hs35 => ?_)
  refine WL.nil ⟨(St.drop (St.perm (St.drop (St.perm (St.drop hs35 (List.Sublist.cons_cons _ (List.Sublist.cons _ (List.Sublist.refl _)))) (L' := L1_33 ++ _) (perm_front (A := [_]) (List.Perm.refl _))) (List.sublist_append_right L1_33 _)) (L' := L1_27 ++ _) (perm_front (A := [_]) (List.Perm.refl _))) (List.sublist_append_right L1_27 _)), ?_⟩
  refine WH.take 12 rfl (by kernel_rfl) rfl rfl rfl (St.drop (St.perm (St.drop (St.perm (St.drop hs35 (List.Sublist.cons_cons _ (List.Sublist.cons _ (List.Sublist.refl _)))) (L' := L1_33 ++ _) (perm_front (A := [_]) (List.Perm.refl _))) (List.sublist_append_right L1_33 _)) (L' := L1_27 ++ _) (perm_front (A := [_]) (List.Perm.refl _))) (List.sublist_append_right L1_27 _)) (fun w_ hs_ => (Run.assign rfl rfl)) ?_
  refine WH.done (by kernel_rfl) ?_
  refine hK23 _ _ ?_
  refine WC.ret ?_
  refine retV2 rfl (resV.cellA tbk hs35 1 rfl rfl rfl rfl) (resV.tmp rfl) ?_
  rw [hm]
  have hv : scrRes w_ h_ l = scrNew w_ h_ l := by unfold scrRes; rw [hm]; rfl
  obtain ⟨L38, hs37, ho39⟩ := ownScrR.fold ⟨0, 0, ⟨0, 0, ⟨_, _, _, _⟩⟩, ⟨0, 0, ⟨_, _, _, _⟩⟩, false, 0, 0, false, ⟨0, 0, false, false, false⟩, 0, 0, false, false, 0, 0, ⟨0, 0, false, false, false⟩, ⟨_, _, _, _⟩, 0, ⟨_, _, _, _⟩⟩ (St.perm (St.perm (St.perm (St.perm hs35 (L' := ([] : Hp) ++ _) (perm_front (A := [_, _]) (List.Perm.refl _))) (L' := L1_33 ++ _) (perm_front (A := ([] : Hp)) (perm_front (A := [_, _]) (List.Perm.refl _)))) (L' := L1_27 ++ _) (perm_front (A := L1_33) (perm_front (A := ([] : Hp)) (perm_front (A := [_, _]) (List.Perm.refl _))))) (L' := L0_6 ++ _) (perm_front (A := L1_27) (perm_front (A := L1_33) (perm_front (A := ([] : Hp)) (perm_front (A := [_, _]) (List.Perm.refl _)))))) ho7 ho28 ho34 (OwnN.nil _ _ _)
  have hs40 := (St.perm (St.perm hs37 (L' := [_] ++ _) (perm_front (A := L38) (perm_front (A := [_]) (List.Perm.refl _)))) (L' := [_] ++ _) (perm_front (A := [_]) (perm_front (A := L38) (List.Perm.refl _))))
  refine ⟨⟨w_, h_, ⟨r0_5.W, r0_5.H, SlD.of ho7⟩, ⟨r26.W, r26.H, SlD.of ho28⟩, false, 0, 0, false, ⟨0, 0, false, false, false⟩, 0, (h_ - (1)), false, false, 0, 0, ⟨0, 0, false, false, false⟩, SlD.of ho34, l, ⟨none, 0, 0, []⟩⟩, _, rfl, (St.keep1 (St.perm hs40 (L' := L38 ++ _) (perm_front (A := [_, _]) (List.Perm.refl _)))), ?_, ?_⟩
  · exact (by exact ho39)
  · rw [hv]; exact ScrD.ext' rfl rfl (hd0_8.trans hgr) (hd29.trans (hd0_8.trans hgr)) rfl rfl rfl rfl rfl rfl rfl rfl rfl rfl rfl rfl rfl rfl rfl
end Go.Proofs.YtjmegoiclgancaaGreat
namespace Go.Proofs.YtjmegoiclgancaaGreat
open Go Go.RowKit
set_option linter.unusedVariables false
set_option linter.unusedSimpArgs false
theorem c_impl_GridOk (g : GridR) (w : World) (f_g : okGridR 549755813888 w g) :
    Calls Tryz.prog 93 #[.agg #[i64 g.W, i64 g.H, .slice g.Cells.A g.Cells.n g.Cells.c]] w fun e w' => e = .returned (.bool (gridOk g.dat)) ∧ St w [] [] w' := by
 have nb_g_Cells := f_g.Cells_n
 have nl_g_Cells := f_g.Cells.len
 refine enter (vs := [.agg #[i64 g.W, i64 g.H, .slice g.Cells.A g.Cells.n g.Cells.c]]) 24 Tryz.func93 rfl Tryz.ntmps93 rfl rfl ?_
 have hs1 := St.init w
 refine WC.sr ?_
 refine WL.bx hs1 rfl (fun b2 _ hs3 => ?_)
 refine WL.run tbk 1 hs3 [] rfl trivial ?_
 refine WL.nil ?_
 refine WC.sr ?_
 refine WL.run tbk 4 hs3 [0, 0] rfl ⟨rfl, rfl, trivial⟩ ?_
 refine WL.call rfl rfl rfl (Run.call Tryz.call132 rfl rfl rfl) (c_impl_isSize _ _ _) ?_
 rintro _ whs4 ⟨rfl, hs4⟩
 replace hs4 := hs3.call0 hs4
 refine ⟨_, rfl, ?_⟩
 refine WL.run tbk 1 hs4 [] rfl trivial ?_
 apply WL.gA 9 Acts.nil hs4 rfl
 ·intro g5 J6
  have qg5 := g5
  try simp only [bf, within_iff, within_not] at qg5
  refine WL.runA tbk 9 (Acts.nil.cons (j := 5) rfl g5) hs4 [0, 0, 0] rfl ⟨?_, rfl, rfl, rfl, trivial⟩ ?_
  · (obtain ⟨_, _, h9, h10⟩ := isSize_bnd (w := g.W) (h := g.H) (by assumption); constructor <;> omega)
  exact WL.eA 9 Acts.nil J6 hs4 g5 rfl rfl
 ·intro _ hs7
  refine WL.run tbk 1 hs7 [] rfl trivial ?_
  apply WL.gA 3 Acts.nil hs7 rfl
  ·intro g8 J9
   have qg8 := g8
   try simp only [bf, within_iff, within_not] at qg8
   refine WL.runA tbk 2 (Acts.nil.cons (j := 16) rfl g8) hs7 [0] rfl ⟨rfl, trivial⟩ ?_
   refine WL.call (wantT rfl g8) rfl rfl (Run.call Tryz.call109 rfl rfl rfl) (c_impl_areCells _ _ _ _ _ (SlF.st0 f_g.Cells hs7) ?_) ?_
   · first | assumption | rfl | omega
   rintro _ whs10 ⟨rfl, hs10⟩
   replace hs10 := hs7.call0 hs10
   refine ⟨_, rfl, ?_⟩
   exact WL.eA 3 Acts.nil J9 hs10 g8 rfl rfl
  ·intro _ hs11
   refine WL.run tbk 1 hs11 [] rfl trivial ?_
   refine WL.nil ?_
   refine WC.ret ?_
   refine retV1 rfl (resV.tmp rfl) ?_
   refine ⟨congrArg Ending.returned ?_, hs11.nil⟩
   rw [← nl_g_Cells]; rfl
theorem c_impl_Grid_has (g : GridR) (x : Int) (y : Int) (w : World) (f_g : okGridR 549755813888 w g) (hw : 0 ≤ g.W ∧ g.W ≤ 120) (hh : 0 ≤ g.H ∧ g.H ≤ 120) :
    Calls Tryz.prog 94 #[.agg #[i64 g.W, i64 g.H, .slice g.Cells.A g.Cells.n g.Cells.c], i64 x, i64 y] w fun e w' => e = .returned (.bool (gridHas g.dat x y)) ∧ St w [] [] w' := by
 have nb_g_Cells := f_g.Cells_n
 have nl_g_Cells := f_g.Cells.len
 refine enter (vs := [.agg #[i64 g.W, i64 g.H, .slice g.Cells.A g.Cells.n g.Cells.c], i64 x, i64 y]) 19 Tryz.func94 rfl Tryz.ntmps94 rfl rfl ?_
 have hs1 := St.init w
 refine WC.sr ?_
 refine WL.bx hs1 rfl (fun b2 _ hs3 => ?_)
 refine WL.run tbk 1 hs3 [] rfl trivial ?_
 refine WL.nil ?_
 refine WC.sr ?_
 refine WL.run tbk 4 hs3 [0] rfl ⟨by omega, rfl, trivial⟩ ?_
 refine WL.call rfl rfl rfl (Run.call Tryz.call97 rfl rfl rfl) (c_impl_within _ _ _ _) ?_
 rintro _ whs4 ⟨rfl, hs4⟩
 replace hs4 := hs3.call0 hs4
 refine ⟨_, rfl, ?_⟩
 refine WL.run tbk 1 hs4 [] rfl trivial ?_
 apply WL.gA 5 Acts.nil hs4 rfl
 ·intro g5 J6
  have qg5 := g5
  try simp only [bf, within_iff, within_not] at qg5
  refine WL.runA tbk 4 (Acts.nil.cons (j := 5) rfl g5) hs4 [0] rfl ⟨by omega, rfl, trivial⟩ ?_
  refine WL.call (wantT rfl g5) rfl rfl (Run.call Tryz.call97 rfl rfl rfl) (c_impl_within _ _ _ _) ?_
  rintro _ whs7 ⟨rfl, hs7⟩
  replace hs7 := hs4.call0 hs7
  refine ⟨_, rfl, ?_⟩
  exact WL.eA 5 Acts.nil J6 hs7 g5 rfl rfl
 ·intro _ hs8
  refine WL.run tbk 1 hs8 [] rfl trivial ?_
  refine WL.nil ?_
  refine WC.ret ?_
  refine retV1 rfl (resV.tmp rfl) ?_
  refine ⟨congrArg Ending.returned ?_, hs8.nil⟩
  rfl
theorem c_impl_isAscending (A_l : Option Addr) (n_l c_l : Nat) (l : List Int) (lo : Int) (hi : Int) (w : World) (f_l : SlF encI w A_l n_l l) (hn : n_l ≤ 549755813888) :
    Calls Tryz.prog 96 #[.slice A_l n_l c_l, i64 lo, i64 hi] w fun e w' => e = .returned (.bool (isAsc l lo hi)) ∧ St w [] [] w' := by
 refine enter (vs := [.slice A_l n_l c_l, i64 lo, i64 hi]) 35 Tryz.func96 rfl Tryz.ntmps96 rfl rfl ?_
 have hs1 := St.init w
 refine WC.rr tbk hs1 [] rfl trivial ?_
 refine WC.seq (fun K2 hK2 => ?_)
 refine WC.rr tbk hs1 [] rfl trivial ?_
 refine WC.block ?_
 refine WC.loopS [(0, _), (1, _), (2, _), (9, _), (10, _)] ⟨rfl, rfl, rfl, rfl, rfl, trivial⟩ hs1 (fun k_ f w' => ∃ (i : Nat), k_ = n_l - i ∧ (i ≤ n_l) ∧ (∀ j, j < i → ascAt l lo hi j = true) ∧ Sub [(11, .int .i64 i)] f) ((fun (i : Nat) => n_l - i) (0)) ?_ ?_
 ·refine ⟨0, rfl, ?_, ?_, ⟨rfl, trivial⟩⟩
  · exact Nat.zero_le _
  · exact fun j hj => absurd hj (by omega)
 ·clear hs1
  rintro _ f w ⟨i, rfl, p0, p1, hG⟩ hF hs3
  refine WC.sub _ (hG.app hF) ?_
  clear hG hF
  refine WC.rr tbk hs3 [] rfl trivial ?_
  refine WC.seq (fun K4 hK4 => ?_)
  refine WC.cond rfl (fun h5 => ?_) (fun h5 => ?_)
  ·have qh5 := h5
   try simp only [bf, within_iff, within_not] at qh5
   refine WC.skip ?_
   refine hK4 _ _ ?_
   refine WC.seq (fun K6 hK6 => ?_)
   refine WC.block ?_
   refine WC.sr ?_
   refine WL.run tbk 1 hs3 [] rfl trivial ?_
   refine WL.val rfl rfl rfl (Run.idxN Tryz.runUnderlying23 Tryz.sizeOf3 rfl rfl rfl ?_ ?_ ?_) ?_
   · exact SlF.some_ (SlF.st0 f_l hs3)
   · omega
   · omega
   refine WL.val rfl rfl rfl (Run.load Tryz.isAgg3 rfl rfl (SlF.one1 (SlF.st0 f_l hs3) ?_ rfl)) ?_
   · omega
   refine WL.run tbk 2 hs3 [] rfl trivial ?_
   refine WL.nil ?_
   refine WC.sr ?_
   refine WL.run tbk 3 hs3 [] rfl trivial ?_
   refine WL.call rfl rfl rfl (Run.call Tryz.call97 rfl rfl rfl) (c_impl_within _ _ _ _) ?_
   rintro _ whs7 ⟨rfl, hs7⟩
   replace hs7 := hs3.call0 hs7
   refine ⟨_, rfl, ?_⟩
   refine WL.run tbk 2 hs7 [] rfl trivial ?_
   apply WL.gO 11 Acts.nil hs7 rfl
   ·intro g8 J9
    have qg8 := g8
    try simp only [bf, within_iff, within_not] at qg8
    refine WL.runA tbk 3 (Acts.nil.cons (j := 5) rfl g8) hs7 [] rfl trivial ?_
    apply WL.gA 7 (Acts.nil.cons (j := 5) rfl g8) hs7 rfl
    ·intro g10 J11
     have qg10 := g10
     try simp only [bf, within_iff, within_not] at qg10
     refine WL.runA tbk 3 (Acts.nil.cons (j := 8) rfl g10) hs7 [] rfl ⟨by omega, trivial⟩ ?_
     refine WL.val (wantT rfl g10) rfl rfl (Run.idxK (i - 1) Tryz.runUnderlying23 Tryz.sizeOf3 rfl rfl rfl ?_ ?_ ?_) ?_
     · exact SlF.some_ (SlF.st0 f_l hs7)
     · omega
     · omega
     refine WL.val (wantT rfl g10) rfl rfl (Run.load Tryz.isAgg3 rfl rfl (SlF.one1 (SlF.st0 f_l hs7) ?_ rfl)) ?_
     · omega
     refine WL.runA tbk 2 (Acts.nil.cons (j := 8) rfl g10) hs7 [] rfl trivial ?_
     exact WL.eA 7 (Acts.nil.cons (j := 5) rfl g8) J11 hs7 g10 rfl rfl
    ·intro _ hs12
     exact WL.eO 4 Acts.nil J9 hs12 g8 rfl rfl
   ·intro _ hs13
    refine WL.nil ?_
    refine WC.cond rfl (fun h14 => ?_) (fun h14 => ?_)
    ·have qh14 := h14
     try simp only [bf, within_iff, within_not] at qh14
     have ha : ascAt l lo hi i = false := by unfold ascAt; have h9 := h14; simp only [iat]; cases hw_ : within (gat encI l i) lo hi <;> rw [hw_] at h9 <;> simp at h9 ⊢ <;> omega
     refine WC.rr tbk hs13 [] rfl trivial ?_
     refine WC.ret ?_
     refine ibR (tkR (tkR (ibR (tkR ?_))))
     clear hK6 hK2
     refine retV1 rfl (resV.tmp rfl) ?_
     refine ⟨congrArg Ending.returned ?_, hs13.nil⟩
     rw [isAsc_not (by rw [f_l.len]; omega) ha]
    ·have qh14 := h14
     try simp only [bf, within_iff, within_not] at qh14
     have ha : ascAt l lo hi i = true := by unfold ascAt; have h9 := h14; simp only [iat]; cases hw_ : within (gat encI l i) lo hi <;> rw [hw_] at h9 <;> simp at h9 ⊢ <;> omega
     refine WC.skip ?_
     refine hK6 _ _ ?_
     refine WC.region ?_
     refine WL.run tbk 2 hs13 [] rfl ⟨by omega, trivial⟩ ?_
     refine WL.nil ?_
     refine tkN ?_
     refine ⟨⟨rfl, rfl, rfl, rfl, rfl, trivial⟩, hs13, _, ?_, i + 1, rfl, ?_, ?_, ⟨rfl, trivial⟩⟩
     · omega
     · omega
     · intro j hj; rcases Nat.lt_or_ge j i with h_ | h_
       · exact p1 j h_
       · obtain rfl : j = i := by omega
         exact ha
  ·have qh5 := h5
   try simp only [bf, within_iff, within_not] at qh5
   refine WC.exit ?_
   refine hK2 _ _ ?_
   refine WC.rr tbk hs3 [] rfl trivial ?_
   refine WC.ret ?_
   refine retV1 rfl (resV.tmp rfl) ?_
   refine ⟨congrArg Ending.returned ?_, hs3.nil⟩
   rw [isAsc_all (fun j hj => p1 j (by rw [f_l.len] at hj; omega))]
theorem c_impl_backOk_1 (r : RowR) (w : World) (f_r : okRowR 549755813888 w r) :
    Calls Tryz.prog 176 #[.agg #[.slice r.Cells.A r.Cells.n r.Cells.c]] w fun e w' => e = .returned (.bool (!rowOk r.dat)) ∧ St w [] [] w' := by
 have nb_r_Cells := f_r.Cells_n
 have nl_r_Cells := f_r.Cells.len
 refine enter (vs := [.agg #[.slice r.Cells.A r.Cells.n r.Cells.c]]) 14 Tryz.func176 rfl Tryz.ntmps176 rfl rfl ?_
 have hs1 := St.init w
 refine WC.sr ?_
 refine WL.bx hs1 rfl (fun b2 _ hs3 => ?_)
 refine WL.run tbk 1 hs3 [] rfl trivial ?_
 refine WL.nil ?_
 refine WC.sr ?_
 refine WL.run tbk 3 hs3 [0] rfl ⟨rfl, trivial⟩ ?_
 refine WL.call rfl rfl rfl (Run.call Tryz.call97 rfl rfl rfl) (c_impl_within _ _ _ _) ?_
 rintro _ whs4 ⟨rfl, hs4⟩
 replace hs4 := hs3.call0 hs4
 refine ⟨_, rfl, ?_⟩
 refine WL.run tbk 2 hs4 [] rfl trivial ?_
 apply WL.gO 4 Acts.nil hs4 rfl
 ·intro g5 J6
  have qg5 := g5
  try simp only [bf, within_iff, within_not] at qg5
  refine WL.runA tbk 2 (Acts.nil.cons (j := 5) rfl g5) hs4 [0] rfl ⟨rfl, trivial⟩ ?_
  refine WL.call (wantF rfl g5) rfl rfl (Run.call Tryz.call109 rfl rfl rfl) (c_impl_areCells _ _ _ _ _ (SlF.st0 f_r.Cells hs4) ?_) ?_
  · first | assumption | rfl | omega
  rintro _ whs7 ⟨rfl, hs7⟩
  replace hs7 := hs4.call0 hs7
  refine ⟨_, rfl, ?_⟩
  refine WL.runA tbk 1 (Acts.nil.cons (j := 5) rfl g5) hs7 [] rfl trivial ?_
  exact WL.eO 4 Acts.nil J6 hs7 g5 rfl rfl
 ·intro _ hs8
  refine WL.run tbk 1 hs8 [] rfl trivial ?_
  refine WL.nil ?_
  refine WC.ret ?_
  refine retV1 rfl (resV.tmp rfl) ?_
  refine ⟨congrArg Ending.returned ?_, hs8.nil⟩
  rw [show rowOk r.dat = (within (r.Cells.n : Int) 1 120 && cellsOk r.Cells.xs) by unfold rowOk; rw [← nl_r_Cells]; rfl, Bool.not_and]
theorem c_slices_IndexFunc_impl_Row_impl_Row (A_s : Option Addr) (n_s c_s : Nat) (s : List RowR) (w : World) (f_s : SlN encRowR (okRowR 549755813888) w A_s n_s s) (hn : n_s ≤ 549755813888) :
    Calls Tryz.prog 228 #[.slice A_s n_s c_s, .func (.func 176) #[] #[]] w fun e w' => e = .returned (.int .i64 (findI (fun r => !rowOk r.dat) s)) ∧ St w [] [] w' := by
 refine enter (vs := [.slice A_s n_s c_s, .func (.func 176) #[] #[]]) 19 Tryz.func228 rfl Tryz.ntmps228 rfl rfl ?_
 have hs1 := St.init w
 refine WC.rr tbk hs1 [] rfl trivial ?_
 refine WC.seq (fun K2 hK2 => ?_)
 refine WC.rr tbk hs1 [] rfl trivial ?_
 refine WC.block ?_
 refine WC.loopS [(0, _), (1, _), (7, _)] ⟨rfl, rfl, rfl, trivial⟩ hs1 (fun k_ f w' => ∃ (i : Nat), k_ = n_s - i ∧ (i ≤ n_s) ∧ (∀ j, j < i → (fun r => !rowOk r.dat) (gat encRowR s j) = false) ∧ Sub [(8, .int .i64 i)] f) ((fun (i : Nat) => n_s - i) (0)) ?_ ?_
 ·refine ⟨0, rfl, ?_, ?_, ⟨rfl, trivial⟩⟩
  · exact Nat.zero_le _
  · exact fun j hj => absurd hj (by omega)
 ·clear hs1
  rintro _ f w ⟨i, rfl, p0, p1, hG⟩ hF hs3
  refine WC.sub _ (hG.app hF) ?_
  clear hG hF
  refine WC.rr tbk hs3 [] rfl trivial ?_
  refine WC.seq (fun K4 hK4 => ?_)
  refine WC.cond rfl (fun h5 => ?_) (fun h5 => ?_)
  ·have qh5 := h5
   try simp only [decide_eq_true_eq, decide_eq_false_iff_not] at qh5
   refine WC.skip ?_
   refine hK4 _ _ ?_
   refine WC.seq (fun K6 hK6 => ?_)
   refine WC.block ?_
   refine WC.rr tbk hs3 [] rfl trivial ?_
   refine WC.sr ?_
   refine WL.run tbk 3 hs3 [] rfl trivial ?_
   refine WL.val rfl rfl rfl (Run.idxN Tryz.runUnderlying31 Tryz.sizeOf98 rfl rfl rfl ?_ ?_ ?_) ?_
   · exact SlF.some_ (SlF.st0 f_s.sl hs3)
   · omega
   · omega
   refine WL.val rfl rfl rfl (Run.loadA Tryz.isAgg98 Tryz.sizeOf98 rfl rfl (SlF.whole (SlF.st0 f_s.sl hs3) ?_)) ?_
   · omega
   refine WL.call rfl rfl rfl (Run.call Tryz.call176 rfl rfl rfl) (c_impl_backOk_1 (gat encRowR s i) _ (okRowR.st0 (SlN.nth f_s (by omega)) hs3)) ?_
   rintro _ whs7 ⟨rfl, hs7⟩
   replace hs7 := hs3.call0 hs7
   refine ⟨_, rfl, ?_⟩
   refine WL.nil ?_
   refine WC.cond rfl (fun h8 => ?_) (fun h8 => ?_)
   ·have qh8 := h8
    try simp only [decide_eq_true_eq, decide_eq_false_iff_not] at qh8
    refine WC.rr tbk hs7 [] rfl trivial ?_
    refine WC.ret ?_
    refine ibR (tkR (tkR (ibR (tkR ?_))))
    clear hK6 hK2
    refine retV1 rfl (resV.tmp rfl) ?_
    refine ⟨congrArg Ending.returned ?_, hs7.nil⟩
    rw [findI_some (F := encRowR) (by rw [f_s.len]; omega) p1 h8]
   ·have qh8 := h8
    try simp only [decide_eq_true_eq, decide_eq_false_iff_not] at qh8
    refine WC.skip ?_
    refine hK6 _ _ ?_
    refine WC.region ?_
    refine WL.run tbk 2 hs7 [] rfl ⟨by omega, trivial⟩ ?_
    refine WL.nil ?_
    refine tkN ?_
    refine ⟨⟨rfl, rfl, rfl, trivial⟩, hs7, _, ?_, i + 1, rfl, ?_, ?_, ⟨rfl, trivial⟩⟩
    · omega
    · omega
    · intro j hj; rcases Nat.lt_or_ge j i with h_ | h_
      · exact p1 j h_
      · obtain rfl : j = i := by omega
        exact h8
  ·have qh5 := h5
   try simp only [decide_eq_true_eq, decide_eq_false_iff_not] at qh5
   refine WC.exit ?_
   refine hK2 _ _ ?_
   refine WC.rr tbk hs3 [] rfl trivial ?_
   refine WC.ret ?_
   refine retV1 rfl (resV.tmp rfl) ?_
   refine ⟨congrArg Ending.returned ?_, hs3.nil⟩
   rw [findI_none (F := encRowR) (fun j hj => p1 j (by rw [f_s.len] at hj; omega))]
theorem c_slices_ContainsFunc_impl_Row_impl_Row (A_s : Option Addr) (n_s c_s : Nat) (s : List RowR) (w : World) (f_s : SlN encRowR (okRowR 549755813888) w A_s n_s s) (hn : n_s ≤ 549755813888) :
    Calls Tryz.prog 175 #[.slice A_s n_s c_s, .func (.func 176) #[] #[]] w fun e w' => e = .returned (.bool (decide (0 ≤ findI (fun r => !rowOk r.dat) s))) ∧ St w [] [] w' := by
 refine enter (vs := [.slice A_s n_s c_s, .func (.func 176) #[] #[]]) 9 Tryz.func175 rfl Tryz.ntmps175 rfl rfl ?_
 have hs1 := St.init w
 refine WC.rr tbk hs1 [] rfl trivial ?_
 refine WC.sr ?_
 refine WL.run tbk 2 hs1 [] rfl trivial ?_
 refine WL.call rfl rfl rfl (Run.call Tryz.call228 rfl rfl rfl) (c_slices_IndexFunc_impl_Row_impl_Row _ _ _ _ _ (SlN.st0 okRowR.st0 f_s hs1) ?_) ?_
 · first | assumption | rfl | omega
 rintro _ whs2 ⟨rfl, hs2⟩
 replace hs2 := hs1.call0 hs2
 refine ⟨_, rfl, ?_⟩
 refine WL.run tbk 2 hs2 [] rfl trivial ?_
 refine WL.nil ?_
 refine WC.ret ?_
 refine retV1 rfl (resV.tmp rfl) ?_
 refine ⟨congrArg Ending.returned ?_, hs2.nil⟩
 rfl
theorem c_impl_backOk (A_b : Option Addr) (n_b c_b : Nat) (b : List RowR) (l : Int) (w : World) (f_b : SlN encRowR (okRowR 549755813888) w A_b n_b b) (hn : n_b ≤ 549755813888) :
    Calls Tryz.prog 98 #[.slice A_b n_b c_b, i64 l] w fun e w' => e = .returned (.bool (backOk (b.map RowR.dat) l)) ∧ St w [] [] w' := by
 refine enter (vs := [.slice A_b n_b c_b, i64 l]) 14 Tryz.func98 rfl Tryz.ntmps98 rfl rfl ?_
 have hs1 := St.init w
 refine WC.rr tbk hs1 [] rfl trivial ?_
 refine WC.sr ?_
 refine WL.run tbk 5 hs1 [] rfl trivial ?_
 apply WL.gA 3 Acts.nil hs1 rfl
 ·intro g2 J3
  have qg2 := g2
  try simp only [bf, within_iff, within_not] at qg2
  refine WL.runA tbk 1 (Acts.nil.cons (j := 4) rfl g2) hs1 [] rfl trivial ?_
  refine WL.call (wantT rfl g2) rfl rfl (Run.call Tryz.call175 rfl rfl rfl) (c_slices_ContainsFunc_impl_Row_impl_Row _ _ _ _ _ (SlN.st0 okRowR.st0 f_b hs1) ?_) ?_
  · first | assumption | rfl | omega
  rintro _ whs4 ⟨rfl, hs4⟩
  replace hs4 := hs1.call0 hs4
  refine ⟨_, rfl, ?_⟩
  refine WL.runA tbk 1 (Acts.nil.cons (j := 4) rfl g2) hs4 [] rfl trivial ?_
  exact WL.eA 3 Acts.nil J3 hs4 g2 rfl rfl
 ·intro _ hs5
  refine WL.run tbk 1 hs5 [] rfl trivial ?_
  refine WL.nil ?_
  refine WC.ret ?_
  refine retV1 rfl (resV.tmp rfl) ?_
  refine ⟨congrArg Ending.returned ?_, hs5.nil⟩
  unfold backOk; rw [List.length_map, f_b.len, List.all_map, ← all_find]; rfl
set_option maxHeartbeats 4000000 in
theorem c_impl_ScrOk (s : ScrR) (w : World) (f_s : okScrR 549755813888 w s) :
    Calls Tryz.prog 29 #[.agg #[i64 s.W, i64 s.H, i64 s.Main.W, i64 s.Main.H, .slice s.Main.Cells.A s.Main.Cells.n s.Main.Cells.c, i64 s.Alt.W, i64 s.Alt.H, .slice s.Alt.Cells.A s.Alt.Cells.n s.Alt.Cells.c, .bool s.OnAlt, i64 s.X, i64 s.Y, .bool s.Wrap, i64 s.A.Fg, i64 s.A.Bg, .bool s.A.Bold, .bool s.A.Under, .bool s.A.Turn, i64 s.Top, i64 s.Bot, .bool s.NoWrap, .bool s.Hide, i64 s.SaveX, i64 s.SaveY, i64 s.SaveA.Fg, i64 s.SaveA.Bg, .bool s.SaveA.Bold, .bool s.SaveA.Under, .bool s.SaveA.Turn, .slice s.Tabs.A s.Tabs.n s.Tabs.c, i64 s.Limit, .slice s.Back.A s.Back.n s.Back.c]] w fun e w' => e = .returned (.bool (scrOk s.dat)) ∧ St w [] [] w' := by
 have nb_s_Main_Cells := f_s.Main.Cells_n
 have nl_s_Main_Cells := f_s.Main.Cells.len
 have nb_s_Alt_Cells := f_s.Alt.Cells_n
 have nl_s_Alt_Cells := f_s.Alt.Cells.len
 have nb_s_Tabs := f_s.Tabs_n
 have nl_s_Tabs := f_s.Tabs.len
 have nb_s_Back := f_s.Back_n
 have nl_s_Back := f_s.Back.sl.len
 have hlit : ∀ y, y ∈ [s.Main, s.Alt] → okGridR 549755813888 w y := by intro y hy; simp only [List.mem_cons, List.not_mem_nil, or_false] at hy; rcases hy with rfl | rfl; exact f_s.Main; exact f_s.Alt
 refine enter (vs := [.agg #[i64 s.W, i64 s.H, i64 s.Main.W, i64 s.Main.H, .slice s.Main.Cells.A s.Main.Cells.n s.Main.Cells.c, i64 s.Alt.W, i64 s.Alt.H, .slice s.Alt.Cells.A s.Alt.Cells.n s.Alt.Cells.c, .bool s.OnAlt, i64 s.X, i64 s.Y, .bool s.Wrap, i64 s.A.Fg, i64 s.A.Bg, .bool s.A.Bold, .bool s.A.Under, .bool s.A.Turn, i64 s.Top, i64 s.Bot, .bool s.NoWrap, .bool s.Hide, i64 s.SaveX, i64 s.SaveY, i64 s.SaveA.Fg, i64 s.SaveA.Bg, .bool s.SaveA.Bold, .bool s.SaveA.Under, .bool s.SaveA.Turn, .slice s.Tabs.A s.Tabs.n s.Tabs.c, i64 s.Limit, .slice s.Back.A s.Back.n s.Back.c]]) 122 Tryz.func29 rfl Tryz.ntmps29 rfl rfl ?_
 have hs1 := St.init w
 refine WC.sr ?_
 refine WL.bx hs1 rfl (fun b2 _ hs3 => ?_)
 refine WL.run tbk 1 hs3 [] rfl trivial ?_
 refine WL.nil ?_
 refine WC.seq (fun K4 hK4 => ?_)
 refine WC.sr ?_
 refine WL.run tbk 4 hs3 [0, 0] rfl ⟨rfl, rfl, trivial⟩ ?_
 refine WL.buildF (F := encGridR) hs3 ([s.Main, s.Alt]) Tryz.runUnderlying131 Tryz.sizeOf28 Tryz.zeroValue28 rfl rfl rfl rfl rfl rfl rfl rfl rfl rfl rfl rfl (fun A8 c9 L5 whs6 hs6 ho7 => ?_)
 replace hs6 := St.back [_] hs6
 refine WL.run tbk 2 hs6 [] rfl trivial ?_
 refine WL.nil ?_
 refine WC.block ?_
 refine WC.loopS [(1, _), (9, _), (10, _)] ⟨rfl, rfl, rfl, trivial⟩ hs6 (fun k_ f w' => ∃ (i : Nat), k_ = 2 - i ∧ (i ≤ 2) ∧ (∀ j, j < i → gridFit (GridR.dat (gat encGridR [s.Main, s.Alt] j)) s.W s.H = true) ∧ Sub [(11, .int .i64 i)] f) ((fun (i : Nat) => 2 - i) (0)) ?_ ?_
 ·refine ⟨0, rfl, ?_, ?_, ⟨rfl, trivial⟩⟩
  · omega
  · exact fun j hj => absurd hj (by omega)
 ·clear hs6
  rintro _ f w ⟨i, rfl, p0, p1, hG⟩ hF hs10
  refine WC.sub _ (hG.app hF) ?_
  clear hG hF
  refine WC.rr tbk hs10 [] rfl trivial ?_
  refine WC.seq (fun K11 hK11 => ?_)
  refine WC.cond rfl (fun h12 => ?_) (fun h12 => ?_)
  ·have qh12 := h12
   try simp only [bf, within_iff, within_not] at qh12
   have hi2 : i < 2 := by have h8 := h12; simp at h8; omega
   refine WC.skip ?_
   refine hK11 _ _ ?_
   refine WC.seq (fun K13 hK13 => ?_)
   refine WC.block ?_
   refine WC.sr ?_
   refine WL.val rfl rfl rfl (Run.idxN Tryz.runUnderlying131 Tryz.sizeOf28 rfl rfl rfl ?_ ?_ ?_) ?_
   · exact SlF.some_ (SlF.ofOwn ho7 (fun p_ hp_ => (hs10.own p_ (List.mem_append_right [_] (List.mem_append_left _ hp_))).1))
   · first | omega | (simp; omega)
   · first | omega | (simp; omega)
   refine WL.val rfl rfl rfl (Run.loadA Tryz.isAgg28 Tryz.sizeOf28 rfl rfl (SlF.whole (SlF.ofOwn ho7 (fun p_ hp_ => (hs10.own p_ (List.mem_append_right [_] (List.mem_append_left _ hp_))).1)) ?_)) ?_
   · first | omega | (simp; omega)
   refine WL.al hs10 Tryz.zeroValue28 rfl rfl (fun b14 _ hs15 => ?_)
   refine WL.st tbk hs15 0 rfl rfl (fun _ hs16 => ?_)
   refine WL.nil ?_
   refine WC.sr ?_
   refine WL.run tbk 1 hs16 [0] rfl ⟨rfl, trivial⟩ ?_
   refine WL.call rfl rfl rfl (Run.call Tryz.call93 rfl rfl rfl) (c_impl_GridOk (gat encGridR [s.Main, s.Alt] i) _ (okGridR.st0 (hlit _ (gat_mem (by first | omega | (simp; omega)))) hs16)) ?_
   rintro _ whs17 ⟨rfl, hs17⟩
   replace hs17 := hs16.call0 hs17
   refine ⟨_, rfl, ?_⟩
   refine WL.run tbk 2 hs17 [] rfl trivial ?_
   refine WL.pO tbk 5 Acts.nil hs17 [0, 1] rfl rfl rfl rfl (fun g_ => ⟨rfl, rfl, trivial⟩) ?_
   refine WL.run tbk 1 hs17 [] rfl trivial ?_
   refine WL.pO tbk 5 Acts.nil hs17 [0, 1] rfl rfl rfl rfl (fun g_ => ⟨rfl, rfl, trivial⟩) ?_
   refine WL.nil ?_
   refine WC.cond rfl (fun h18 => ?_) (fun h18 => ?_)
   ·have qh18 := h18
    try simp only [bf, within_iff, within_not] at qh18
    have ha : gridFit (GridR.dat (gat encGridR [s.Main, s.Alt] i)) s.W s.H = false := by unfold gridFit; have h9 := h18; show (gridOk (GridR.dat (gat encGridR [s.Main, s.Alt] i)) && (decide ((gat encGridR [s.Main, s.Alt] i).W = s.W) && decide ((gat encGridR [s.Main, s.Alt] i).H = s.H))) = false; revert h9; cases gridOk (GridR.dat (gat encGridR [s.Main, s.Alt] i)) <;> cases decide ((gat encGridR [s.Main, s.Alt] i).W = s.W) <;> cases decide ((gat encGridR [s.Main, s.Alt] i).H = s.H) <;> simp
    have hp1 : scrP1 s.dat = false := by unfold scrP1; rcases (show i = 0 ∨ i = 1 by omega) with rfl | rfl; (rw [show gridFit s.dat.Main s.dat.W s.dat.H = false from ha]; rfl); (rw [show gridFit s.dat.Alt s.dat.W s.dat.H = false from ha, Bool.and_false])
    refine WC.rr tbk hs17 [] rfl trivial ?_
    refine WC.ret ?_
    refine ibR (tkR (tkR (ibR (tkR ?_))))
    clear hK13 hK4
    refine retV1 rfl (resV.tmp rfl) ?_
    refine ⟨congrArg Ending.returned ?_, hs17.nil⟩
    rw [scrOk_no (.inl hp1)]
   ·have qh18 := h18
    try simp only [bf, within_iff, within_not] at qh18
    have ha : gridFit (GridR.dat (gat encGridR [s.Main, s.Alt] i)) s.W s.H = true := by unfold gridFit; have h9 := h18; show (gridOk (GridR.dat (gat encGridR [s.Main, s.Alt] i)) && (decide ((gat encGridR [s.Main, s.Alt] i).W = s.W) && decide ((gat encGridR [s.Main, s.Alt] i).H = s.H))) = true; revert h9; cases gridOk (GridR.dat (gat encGridR [s.Main, s.Alt] i)) <;> cases decide ((gat encGridR [s.Main, s.Alt] i).W = s.W) <;> cases decide ((gat encGridR [s.Main, s.Alt] i).H = s.H) <;> simp
    refine WC.skip ?_
    refine hK13 _ _ ?_
    refine WC.region ?_
    refine WL.run tbk 2 hs17 [] rfl ⟨by omega, trivial⟩ ?_
    refine WL.nil ?_
    refine tkN ?_
    refine ⟨⟨rfl, rfl, rfl, trivial⟩, (hs17.drop (by repeat (first | exact List.Sublist.refl _ | exact List.sublist_append_left _ _ | exact List.Sublist.trans (List.sublist_append_left _ _) (List.sublist_append_left _ _) | apply List.Sublist.cons | refine List.Sublist.trans ?_ (List.sublist_append_right _ _)))), _, ?_, i + 1, rfl, ?_, ?_, ⟨rfl, trivial⟩⟩
    · omega
    · omega
    · intro j hj; rcases Nat.lt_or_ge j i with h_ | h_
      · exact p1 j h_
      · obtain rfl : j = i := by omega
        exact ha
  ·have qh12 := h12
   try simp only [bf, within_iff, within_not] at qh12
   have hi2 : ¬ i < 2 := by have h8 := h12; simp at h8; omega
   have hp1 : scrP1 s.dat = true := by unfold scrP1; rw [show gridFit s.dat.Main s.dat.W s.dat.H = true from p1 0 (by omega), show gridFit s.dat.Alt s.dat.W s.dat.H = true from p1 1 (by omega)]; rfl
   have hbn : (1 ≤ s.W ∧ s.W ≤ 120) ∧ (1 ≤ s.H ∧ s.H ≤ 120) ∧ s.Main.W = s.W ∧ s.Main.H = s.H ∧ s.Alt.W = s.W ∧ s.Alt.H = s.H := scrP1_bnd hp1
   refine WC.exit ?_
   refine hK4 _ _ ?_
   refine WC.seq (fun K19 hK19 => ?_)
   refine WC.sr ?_
   refine WL.run tbk 6 hs10 [0, 0, 0] rfl ⟨rfl, rfl, rfl, trivial⟩ ?_
   refine WL.call rfl rfl rfl (Run.call Tryz.call94 rfl rfl rfl) (c_impl_Grid_has s.Main _ _ _ (okGridR.st0 f_s.Main hs10) ?_ ?_) ?_
   · first | assumption | rfl | omega
   · first | assumption | rfl | omega
   rintro _ whs20 ⟨rfl, hs20⟩
   replace hs20 := hs10.call0 hs20
   refine ⟨_, rfl, ?_⟩
   refine WL.run tbk 2 hs20 [] rfl trivial ?_
   apply WL.gO 8 Acts.nil hs20 rfl
   ·intro g21 J22
    have qg21 := g21
    try simp only [bf, within_iff, within_not] at qg21
    refine WL.runA tbk 6 (Acts.nil.cons (j := 8) rfl g21) hs20 [0, 0, 0] rfl ⟨rfl, rfl, rfl, trivial⟩ ?_
    refine WL.call (wantF rfl g21) rfl rfl (Run.call Tryz.call94 rfl rfl rfl) (c_impl_Grid_has s.Main _ _ _ (okGridR.st0 f_s.Main hs20) ?_ ?_) ?_
    · first | assumption | rfl | omega
    · first | assumption | rfl | omega
    rintro _ whs23 ⟨rfl, hs23⟩
    replace hs23 := hs20.call0 hs23
    refine ⟨_, rfl, ?_⟩
    refine WL.runA tbk 1 (Acts.nil.cons (j := 8) rfl g21) hs23 [] rfl trivial ?_
    exact WL.eO 8 Acts.nil J22 hs23 g21 rfl rfl
   ·intro _ hs24
    refine WL.run tbk 1 hs24 [] rfl trivial ?_
    apply WL.gO 10 Acts.nil hs24 rfl
    ·intro g25 J26
     have qg25 := g25
     try simp only [bf, within_iff, within_not] at qg25
     refine WL.runA tbk 3 (Acts.nil.cons (j := 18) rfl g25) hs24 [0] rfl ⟨rfl, trivial⟩ ?_
     refine WL.pA tbk 6 (Acts.nil.cons (j := 18) rfl g25) hs24 [0, 0] rfl rfl rfl rfl (fun g_ => by (try simp only [bf, within_iff, within_not] at g_); exact ⟨by omega, rfl, rfl, trivial⟩) ?_
     exact WL.eO 4 Acts.nil J26 hs24 g25 rfl rfl
    ·intro _ hs27
     refine WL.run tbk 1 hs27 [] rfl trivial ?_
     apply WL.gO 4 Acts.nil hs27 rfl
     ·intro g28 J29
      have qg28 := g28
      try simp only [bf, within_iff, within_not] at qg28
      refine WL.runA tbk 2 (Acts.nil.cons (j := 30) rfl g28) hs27 [0] rfl ⟨rfl, trivial⟩ ?_
      refine WL.call (wantF rfl g28) rfl rfl (Run.call Tryz.call95 rfl rfl rfl) (c_impl_AttrOk _ _ _ _ _ _) ?_
      rintro _ whs30 ⟨rfl, hs30⟩
      replace hs30 := hs27.call0 hs30
      refine ⟨_, rfl, ?_⟩
      refine WL.runA tbk 1 (Acts.nil.cons (j := 30) rfl g28) hs30 [] rfl trivial ?_
      exact WL.eO 4 Acts.nil J29 hs30 g28 rfl rfl
     ·intro _ hs31
      refine WL.run tbk 1 hs31 [] rfl trivial ?_
      apply WL.gO 4 Acts.nil hs31 rfl
      ·intro g32 J33
       have qg32 := g32
       try simp only [bf, within_iff, within_not] at qg32
       refine WL.runA tbk 2 (Acts.nil.cons (j := 36) rfl g32) hs31 [0] rfl ⟨rfl, trivial⟩ ?_
       refine WL.call (wantF rfl g32) rfl rfl (Run.call Tryz.call95 rfl rfl rfl) (c_impl_AttrOk _ _ _ _ _ _) ?_
       rintro _ whs34 ⟨rfl, hs34⟩
       replace hs34 := hs31.call0 hs34
       refine ⟨_, rfl, ?_⟩
       refine WL.runA tbk 1 (Acts.nil.cons (j := 36) rfl g32) hs34 [] rfl trivial ?_
       exact WL.eO 4 Acts.nil J33 hs34 g32 rfl rfl
      ·intro _ hs35
       refine WL.nil ?_
       refine WC.cond rfl (fun h36 => ?_) (fun h36 => ?_)
       ·have qh36 := h36
        try simp only [bf, within_iff, within_not] at qh36
        have hp2 : scrP2 s.dat = false := by have h9 := h36; unfold scrP2; show (((gridHas s.Main.dat s.X s.Y && gridHas s.Main.dat s.SaveX s.SaveY) && ((!s.Wrap || decide (s.X = s.W - 1)) && (attrOk s.A.Fg s.A.Bg && attrOk s.SaveA.Fg s.SaveA.Bg)))) = false; revert h9; cases gridHas s.Main.dat s.X s.Y <;> cases gridHas s.Main.dat s.SaveX s.SaveY <;> cases s.Wrap <;> cases decide (s.X = s.W - 1) <;> cases attrOk s.A.Fg s.A.Bg <;> cases attrOk s.SaveA.Fg s.SaveA.Bg <;> simp
        refine WC.rr tbk hs35 [] rfl trivial ?_
        refine WC.ret ?_
        refine tkR ?_
        clear hK19
        refine retV1 rfl (resV.tmp rfl) ?_
        refine ⟨congrArg Ending.returned ?_, hs35.nil⟩
        rw [scrOk_no (.inr (.inl hp2))]
       ·have qh36 := h36
        try simp only [bf, within_iff, within_not] at qh36
        have hp2 : scrP2 s.dat = true := by have h9 := h36; unfold scrP2; show (((gridHas s.Main.dat s.X s.Y && gridHas s.Main.dat s.SaveX s.SaveY) && ((!s.Wrap || decide (s.X = s.W - 1)) && (attrOk s.A.Fg s.A.Bg && attrOk s.SaveA.Fg s.SaveA.Bg)))) = true; revert h9; cases gridHas s.Main.dat s.X s.Y <;> cases gridHas s.Main.dat s.SaveX s.SaveY <;> cases s.Wrap <;> cases decide (s.X = s.W - 1) <;> cases attrOk s.A.Fg s.A.Bg <;> cases attrOk s.SaveA.Fg s.SaveA.Bg <;> simp
        refine WC.skip ?_
        refine hK19 _ _ ?_
        refine WC.seq (fun K37 hK37 => ?_)
        refine WC.sr ?_
        refine WL.run tbk 4 hs35 [0] rfl ⟨rfl, trivial⟩ ?_
        refine WL.pO tbk 5 Acts.nil hs35 [0, 0] rfl rfl rfl rfl (fun g_ => ⟨rfl, rfl, trivial⟩) ?_
        refine WL.run tbk 1 hs35 [] rfl trivial ?_
        refine WL.pO tbk 5 Acts.nil hs35 [0, 0] rfl rfl rfl rfl (fun g_ => ⟨rfl, rfl, trivial⟩) ?_
        refine WL.run tbk 1 hs35 [] rfl trivial ?_
        apply WL.gO 10 Acts.nil hs35 rfl
        ·intro g38 J39
         have qg38 := g38
         try simp only [bf, within_iff, within_not] at qg38
         refine WL.runA tbk 6 (Acts.nil.cons (j := 17) rfl g38) hs35 [0, 0] rfl ⟨rfl, rfl, trivial⟩ ?_
         refine WL.pA tbk 3 (Acts.nil.cons (j := 17) rfl g38) hs35 [0] rfl rfl rfl rfl (fun g_ => ⟨rfl, trivial⟩) ?_
         exact WL.eO 7 Acts.nil J39 hs35 g38 rfl rfl
        ·intro _ hs40
         refine WL.nil ?_
         refine WC.cond rfl (fun h41 => ?_) (fun h41 => ?_)
         ·have qh41 := h41
          try simp only [bf, within_iff, within_not] at qh41
          have hp3 : scrP3 s.dat = false := by have h9 := h41; unfold scrP3; show ((decide (0 ≤ s.Top) && decide (s.Top ≤ s.Bot)) && (decide (s.Bot < s.H) && (!decide (s.Top = s.Bot) || decide (s.H = 1)))) = false; simp at h9 ⊢; omega
          refine WC.rr tbk hs40 [] rfl trivial ?_
          refine WC.ret ?_
          refine tkR ?_
          clear hK37
          refine retV1 rfl (resV.tmp rfl) ?_
          refine ⟨congrArg Ending.returned ?_, hs40.nil⟩
          rw [scrOk_no (.inr (.inr (.inl hp3)))]
         ·have qh41 := h41
          try simp only [bf, within_iff, within_not] at qh41
          have hp3 : scrP3 s.dat = true := by have h9 := h41; unfold scrP3; show ((decide (0 ≤ s.Top) && decide (s.Top ≤ s.Bot)) && (decide (s.Bot < s.H) && (!decide (s.Top = s.Bot) || decide (s.H = 1)))) = true; simp at h9 ⊢; omega
          refine WC.skip ?_
          refine hK37 _ _ ?_
          refine WC.sr ?_
          refine WL.run tbk 5 hs40 [0, 0] rfl ⟨by omega, rfl, rfl, trivial⟩ ?_
          refine WL.call rfl rfl rfl (Run.call Tryz.call96 rfl rfl rfl) (c_impl_isAscending _ _ _ _ _ _ _ (SlF.st0 f_s.Tabs hs40) ?_) ?_
          · first | assumption | rfl | omega
          rintro _ whs42 ⟨rfl, hs42⟩
          replace hs42 := hs40.call0 hs42
          refine ⟨_, rfl, ?_⟩
          refine WL.run tbk 1 hs42 [] rfl trivial ?_
          apply WL.gA 3 Acts.nil hs42 rfl
          ·intro g43 J44
           have qg43 := g43
           try simp only [bf, within_iff, within_not] at qg43
           refine WL.runA tbk 2 (Acts.nil.cons (j := 6) rfl g43) hs42 [0] rfl ⟨rfl, trivial⟩ ?_
           refine WL.call (wantT rfl g43) rfl rfl (Run.call Tryz.call97 rfl rfl rfl) (c_impl_within _ _ _ _) ?_
           rintro _ whs45 ⟨rfl, hs45⟩
           replace hs45 := hs42.call0 hs45
           refine ⟨_, rfl, ?_⟩
           exact WL.eA 3 Acts.nil J44 hs45 g43 rfl rfl
          ·intro _ hs46
           refine WL.run tbk 1 hs46 [] rfl trivial ?_
           apply WL.gA 5 Acts.nil hs46 rfl
           ·intro g47 J48
            have qg47 := g47
            try simp only [bf, within_iff, within_not] at qg47
            refine WL.runA tbk 4 (Acts.nil.cons (j := 11) rfl g47) hs46 [0, 0] rfl ⟨rfl, rfl, trivial⟩ ?_
            refine WL.call (wantT rfl g47) rfl rfl (Run.call Tryz.call98 rfl rfl rfl) (c_impl_backOk _ _ _ _ _ _ (SlN.st0 okRowR.st0 f_s.Back hs46) ?_) ?_
            · first | assumption | rfl | omega
            rintro _ whs49 ⟨rfl, hs49⟩
            replace hs49 := hs46.call0 hs49
            refine ⟨_, rfl, ?_⟩
            exact WL.eA 5 Acts.nil J48 hs49 g47 rfl rfl
           ·intro _ hs50
            refine WL.run tbk 1 hs50 [] rfl trivial ?_
            refine WL.nil ?_
            refine WC.ret ?_
            refine retV1 rfl (resV.tmp rfl) ?_
            refine ⟨congrArg Ending.returned ?_, hs50.nil⟩
            rw [scrOk_yes hp1 hp2 hp3]; rfl
end Go.Proofs.YtjmegoiclgancaaGreat
namespace Go.Proofs.YtjmegoiclgancaaGreat
open Go Go.RowKit
set_option linter.unusedVariables false
set_option linter.unusedSimpArgs false
theorem c_spec_GridOk (g : GridR) (w : World) (f_g : okGridR 549755813888 w g) :
    Calls Tryz.prog 138 #[.agg #[i64 g.W, i64 g.H, .slice g.Cells.A g.Cells.n g.Cells.c]] w fun e w' => e = .returned (.bool (gridOk g.dat)) ∧ St w [] [] w' := by
 have nb_g_Cells := f_g.Cells_n
 have nl_g_Cells := f_g.Cells.len
 refine enter (vs := [.agg #[i64 g.W, i64 g.H, .slice g.Cells.A g.Cells.n g.Cells.c]]) 53 Tryz.func138 rfl Tryz.ntmps138 rfl rfl ?_
 have hs1 := St.init w
 refine WC.sr ?_
 refine WL.bx hs1 rfl (fun b2 _ hs3 => ?_)
 refine WL.run tbk 1 hs3 [] rfl trivial ?_
 refine WL.nil ?_
 refine WC.seq (fun K4 hK4 => ?_)
 refine WC.sr ?_
 refine WL.run tbk 4 hs3 [0] rfl ⟨rfl, trivial⟩ ?_
 refine WL.pO tbk 3 Acts.nil hs3 [0] rfl rfl rfl rfl (fun g_ => ⟨rfl, trivial⟩) ?_
 refine WL.run tbk 1 hs3 [] rfl trivial ?_
 refine WL.pO tbk 3 Acts.nil hs3 [0] rfl rfl rfl rfl (fun g_ => ⟨rfl, trivial⟩) ?_
 refine WL.run tbk 1 hs3 [] rfl trivial ?_
 refine WL.pO tbk 3 Acts.nil hs3 [0] rfl rfl rfl rfl (fun g_ => ⟨rfl, trivial⟩) ?_
 refine WL.run tbk 1 hs3 [] rfl trivial ?_
 apply WL.gO 6 Acts.nil hs3 rfl
 ·intro g5 J6
  have qg5 := g5
  try simp only [bf, within_iff, within_not] at qg5
  refine WL.runA tbk 6 (Acts.nil.cons (j := 18) rfl g5) hs3 [0, 0] rfl ⟨?_, rfl, rfl, trivial⟩ ?_
  · (have h9 := mul_size (w := g.W) (h := g.H) (by omega) (by omega); constructor <;> omega)
  exact WL.eO 6 Acts.nil J6 hs3 g5 rfl rfl
 ·intro _ hs7
  refine WL.run tbk 1 hs7 [] rfl trivial ?_
  apply WL.gO 9 Acts.nil hs7 rfl
  ·intro g8 J9
   have qg8 := g8
   try simp only [bf, within_iff, within_not] at qg8
   refine WL.runA tbk 9 (Acts.nil.cons (j := 26) rfl g8) hs7 [0, 0, 0] rfl ⟨?_, rfl, rfl, rfl, trivial⟩ ?_
   · (have h9 := mul_size (w := g.W) (h := g.H) (by omega) (by omega); constructor <;> omega)
   exact WL.eO 9 Acts.nil J9 hs7 g8 rfl rfl
  ·intro _ hs10
   refine WL.nil ?_
   refine WC.cond rfl (fun h11 => ?_) (fun h11 => ?_)
   ·have qh11 := h11
    try simp only [bf, within_iff, within_not] at qh11
    have hg : gridOk g.dat = false := by rw [← Bool.not_eq_true]; intro h8; have hb : (1 ≤ g.W ∧ g.W ≤ 120) ∧ (1 ≤ g.H ∧ g.H ≤ 120) ∧ 1 ≤ g.W * g.H ∧ g.W * g.H ≤ 4000 := gridOk_bnd h8; unfold gridOk at h8; rw [Bool.and_eq_true, Bool.and_eq_true, decide_eq_true_eq] at h8; have h7 : (g.Cells.xs.length : Int) = g.W * g.H := h8.1.2; have h9 := h11; simp at h9; omega
    refine WC.rr tbk hs10 [] rfl trivial ?_
    refine WC.ret ?_
    refine tkR ?_
    clear hK4
    refine retV1 rfl (resV.tmp rfl) ?_
    refine ⟨congrArg Ending.returned ?_, hs10.nil⟩
    rw [hg]
   ·have qh11 := h11
    try simp only [bf, within_iff, within_not] at qh11
    have hs : isSize g.W g.H = true ∧ (g.Cells.n : Int) = g.W * g.H := by rw [isSize_iff]; have h9 := h11; simp at h9; omega
    refine WC.skip ?_
    refine hK4 _ _ ?_
    refine WC.seq (fun K12 hK12 => ?_)
    refine WC.rr tbk hs10 [0] rfl ⟨rfl, trivial⟩ ?_
    refine WC.block ?_
    refine WC.loopS [(41, _), (43, _), (44, _)] ⟨rfl, rfl, rfl, trivial⟩ hs10 (fun k_ f w' => ∃ (i : Nat), k_ = g.Cells.n - i ∧ (i ≤ g.Cells.n) ∧ (∀ j, j < i → cellOk (gat encCell g.Cells.xs j) = true) ∧ Sub [(45, .int .i64 i)] f) ((fun (i : Nat) => g.Cells.n - i) (0)) ?_ ?_
    ·refine ⟨0, rfl, ?_, ?_, ⟨rfl, trivial⟩⟩
     · exact Nat.zero_le _
     · exact fun j hj => absurd hj (by omega)
    ·clear hs10
     rintro _ f w ⟨i, rfl, p0, p1, hG⟩ hF hs13
     refine WC.sub _ (hG.app hF) ?_
     clear hG hF
     refine WC.rr tbk hs13 [] rfl trivial ?_
     refine WC.seq (fun K14 hK14 => ?_)
     refine WC.cond rfl (fun h15 => ?_) (fun h15 => ?_)
     ·have qh15 := h15
      try simp only [bf, within_iff, within_not] at qh15
      refine WC.skip ?_
      refine hK14 _ _ ?_
      refine WC.seq (fun K16 hK16 => ?_)
      refine WC.block ?_
      refine WC.sr ?_
      refine WL.val rfl rfl rfl (Run.idxN Tryz.runUnderlying26 Tryz.sizeOf75 rfl rfl rfl ?_ ?_ ?_) ?_
      · exact SlF.some_ (SlF.st0 f_g.Cells hs13)
      · omega
      · omega
      refine WL.val rfl rfl rfl (Run.loadA Tryz.isAgg75 Tryz.sizeOf75 rfl rfl (SlF.whole (SlF.st0 f_g.Cells hs13) ?_)) ?_
      · omega
      refine WL.al hs13 Tryz.zeroValue75 rfl rfl (fun b17 _ hs18 => ?_)
      refine WL.st tbk hs18 0 rfl rfl (fun _ hs19 => ?_)
      refine WL.nil ?_
      refine WC.sr ?_
      refine WL.run tbk 1 hs19 [0] rfl ⟨rfl, trivial⟩ ?_
      refine WL.call rfl rfl rfl (Run.call Tryz.call203 rfl rfl rfl) (c_spec_CellOk _ _ _ _ _ _ _) ?_
      rintro _ whs20 ⟨rfl, hs20⟩
      replace hs20 := hs19.call0 hs20
      refine ⟨_, rfl, ?_⟩
      refine WL.run tbk 1 hs20 [] rfl trivial ?_
      refine WL.nil ?_
      refine WC.cond rfl (fun h21 => ?_) (fun h21 => ?_)
      ·have qh21 := h21
       try simp only [bf, within_iff, within_not] at qh21
       have hci : cellOk (gat encCell g.Cells.xs i) = false := by simpa using h21
       refine WC.rr tbk hs20 [] rfl trivial ?_
       refine WC.ret ?_
       refine ibR (tkR (tkR (ibR (tkR ?_))))
       clear hK16 hK12
       refine retV1 rfl (resV.tmp rfl) ?_
       refine ⟨congrArg Ending.returned ?_, hs20.nil⟩
       rw [show gridOk g.dat = false from by unfold gridOk; rw [show cellsOk g.dat.Cells = false from cellsOk_not (i := i) (by show i < g.Cells.xs.length; omega) hci, Bool.and_false]]
      ·have qh21 := h21
       try simp only [bf, within_iff, within_not] at qh21
       have hci : cellOk (gat encCell g.Cells.xs i) = true := by simpa using h21
       refine WC.skip ?_
       refine hK16 _ _ ?_
       refine WC.region ?_
       refine WL.run tbk 2 hs20 [] rfl ⟨by omega, trivial⟩ ?_
       refine WL.nil ?_
       refine tkN ?_
       refine ⟨⟨rfl, rfl, rfl, trivial⟩, (hs20.drop (by repeat (first | exact List.Sublist.refl _ | exact List.sublist_append_left _ _ | exact List.Sublist.trans (List.sublist_append_left _ _) (List.sublist_append_left _ _) | apply List.Sublist.cons | refine List.Sublist.trans ?_ (List.sublist_append_right _ _)))), _, ?_, i + 1, rfl, ?_, ?_, ⟨rfl, trivial⟩⟩
       · omega
       · omega
       · intro j hj; rcases Nat.lt_or_ge j i with h_ | h_
         · exact p1 j h_
         · obtain rfl : j = i := by omega
           exact hci
     ·have qh15 := h15
      try simp only [bf, within_iff, within_not] at qh15
      refine WC.exit ?_
      refine hK12 _ _ ?_
      refine WC.rr tbk hs13 [] rfl trivial ?_
      refine WC.ret ?_
      refine retV1 rfl (resV.tmp rfl) ?_
      refine ⟨congrArg Ending.returned ?_, hs13.nil⟩
      rw [show gridOk g.dat = true from by unfold gridOk; rw [show cellsOk g.dat.Cells = true from cellsOk_all (fun j hj => p1 j (by have : j < g.Cells.xs.length := hj; omega)), show isSize g.dat.W g.dat.H = true from hs.1, decide_eq_true (show (g.dat.Cells.length : Int) = g.dat.W * g.dat.H from by show (g.Cells.xs.length : Int) = g.W * g.H; rw [nl_g_Cells]; exact hs.2)]; rfl]
theorem c_spec_l09Row (r : RowR) (w : World) (f_r : okRowR 549755813888 w r) :
    Calls Tryz.prog 140 #[.agg #[.slice r.Cells.A r.Cells.n r.Cells.c]] w fun e w' => e = .returned (.bool (rowOk r.dat)) ∧ St w [] [] w' := by
 have nb_r_Cells := f_r.Cells_n
 have nl_r_Cells := f_r.Cells.len
 refine enter (vs := [.agg #[.slice r.Cells.A r.Cells.n r.Cells.c]]) 26 Tryz.func140 rfl Tryz.ntmps140 rfl rfl ?_
 have hs1 := St.init w
 refine WC.sr ?_
 refine WL.bx hs1 rfl (fun b2 _ hs3 => ?_)
 refine WL.run tbk 1 hs3 [] rfl trivial ?_
 refine WL.nil ?_
 refine WC.seq (fun K4 hK4 => ?_)
 refine WC.rr tbk hs3 [0] rfl ⟨rfl, trivial⟩ ?_
 refine WC.block ?_
 refine WC.loopS [(1, _), (6, _), (7, _)] ⟨rfl, rfl, rfl, trivial⟩ hs3 (fun k_ f w' => ∃ (i : Nat), k_ = r.Cells.n - i ∧ (i ≤ r.Cells.n) ∧ (∀ j, j < i → cellOk (gat encCell r.Cells.xs j) = true) ∧ Sub [(8, .int .i64 i)] f) ((fun (i : Nat) => r.Cells.n - i) (0)) ?_ ?_
 ·refine ⟨0, rfl, ?_, ?_, ⟨rfl, trivial⟩⟩
  · exact Nat.zero_le _
  · exact fun j hj => absurd hj (by omega)
 ·clear hs3
  rintro _ f w ⟨i, rfl, p0, p1, hG⟩ hF hs5
  refine WC.sub _ (hG.app hF) ?_
  clear hG hF
  refine WC.rr tbk hs5 [] rfl trivial ?_
  refine WC.seq (fun K6 hK6 => ?_)
  refine WC.cond rfl (fun h7 => ?_) (fun h7 => ?_)
  ·have qh7 := h7
   try simp only [bf, within_iff, within_not] at qh7
   refine WC.skip ?_
   refine hK6 _ _ ?_
   refine WC.seq (fun K8 hK8 => ?_)
   refine WC.block ?_
   refine WC.sr ?_
   refine WL.val rfl rfl rfl (Run.idxN Tryz.runUnderlying26 Tryz.sizeOf75 rfl rfl rfl ?_ ?_ ?_) ?_
   · exact SlF.some_ (SlF.st0 f_r.Cells hs5)
   · omega
   · omega
   refine WL.val rfl rfl rfl (Run.loadA Tryz.isAgg75 Tryz.sizeOf75 rfl rfl (SlF.whole (SlF.st0 f_r.Cells hs5) ?_)) ?_
   · omega
   refine WL.al hs5 Tryz.zeroValue75 rfl rfl (fun b9 _ hs10 => ?_)
   refine WL.st tbk hs10 0 rfl rfl (fun _ hs11 => ?_)
   refine WL.nil ?_
   refine WC.sr ?_
   refine WL.run tbk 1 hs11 [0] rfl ⟨rfl, trivial⟩ ?_
   refine WL.call rfl rfl rfl (Run.call Tryz.call203 rfl rfl rfl) (c_spec_CellOk _ _ _ _ _ _ _) ?_
   rintro _ whs12 ⟨rfl, hs12⟩
   replace hs12 := hs11.call0 hs12
   refine ⟨_, rfl, ?_⟩
   refine WL.run tbk 1 hs12 [] rfl trivial ?_
   refine WL.nil ?_
   refine WC.cond rfl (fun h13 => ?_) (fun h13 => ?_)
   ·have qh13 := h13
    try simp only [bf, within_iff, within_not] at qh13
    have hci : cellOk (gat encCell r.Cells.xs i) = false := by simpa using h13
    refine WC.rr tbk hs12 [] rfl trivial ?_
    refine WC.ret ?_
    refine ibR (tkR (tkR (ibR (tkR ?_))))
    clear hK8 hK4
    refine retV1 rfl (resV.tmp rfl) ?_
    refine ⟨congrArg Ending.returned ?_, hs12.nil⟩
    rw [show rowOk r.dat = false from by unfold rowOk; rw [show cellsOk r.dat.Cells = false from cellsOk_not (i := i) (by show i < r.Cells.xs.length; omega) hci, Bool.and_false]]
   ·have qh13 := h13
    try simp only [bf, within_iff, within_not] at qh13
    have hci : cellOk (gat encCell r.Cells.xs i) = true := by simpa using h13
    refine WC.skip ?_
    refine hK8 _ _ ?_
    refine WC.region ?_
    refine WL.run tbk 2 hs12 [] rfl ⟨by omega, trivial⟩ ?_
    refine WL.nil ?_
    refine tkN ?_
    refine ⟨⟨rfl, rfl, rfl, trivial⟩, (hs12.drop (by repeat (first | exact List.Sublist.refl _ | exact List.sublist_append_left _ _ | exact List.Sublist.trans (List.sublist_append_left _ _) (List.sublist_append_left _ _) | apply List.Sublist.cons | refine List.Sublist.trans ?_ (List.sublist_append_right _ _)))), _, ?_, i + 1, rfl, ?_, ?_, ⟨rfl, trivial⟩⟩
    · omega
    · omega
    · intro j hj; rcases Nat.lt_or_ge j i with h_ | h_
      · exact p1 j h_
      · obtain rfl : j = i := by omega
        exact hci
  ·have qh7 := h7
   try simp only [bf, within_iff, within_not] at qh7
   refine WC.exit ?_
   refine hK4 _ _ ?_
   refine WC.sr ?_
   refine WL.run tbk 5 hs5 [0] rfl ⟨rfl, trivial⟩ ?_
   refine WL.pA tbk 4 Acts.nil hs5 [0] rfl rfl rfl rfl (fun g_ => ⟨rfl, trivial⟩) ?_
   refine WL.run tbk 1 hs5 [] rfl trivial ?_
   refine WL.nil ?_
   refine WC.ret ?_
   refine retV1 rfl (resV.tmp rfl) ?_
   refine ⟨congrArg Ending.returned ?_, hs5.nil⟩
   rw [show rowOk r.dat = within (r.Cells.n : Int) 1 120 from by unfold rowOk; rw [show cellsOk r.dat.Cells = true from cellsOk_all (fun j hj => p1 j (by have : j < r.Cells.xs.length := hj; omega)), Bool.and_true, ← nl_r_Cells]; rfl]; rfl
set_option maxHeartbeats 4000000 in
theorem c_spec_ScrOk (s : ScrR) (w : World) (f_s : okScrR 549755813888 w s) :
    Calls Tryz.prog 63 #[.agg #[i64 s.W, i64 s.H, i64 s.Main.W, i64 s.Main.H, .slice s.Main.Cells.A s.Main.Cells.n s.Main.Cells.c, i64 s.Alt.W, i64 s.Alt.H, .slice s.Alt.Cells.A s.Alt.Cells.n s.Alt.Cells.c, .bool s.OnAlt, i64 s.X, i64 s.Y, .bool s.Wrap, i64 s.A.Fg, i64 s.A.Bg, .bool s.A.Bold, .bool s.A.Under, .bool s.A.Turn, i64 s.Top, i64 s.Bot, .bool s.NoWrap, .bool s.Hide, i64 s.SaveX, i64 s.SaveY, i64 s.SaveA.Fg, i64 s.SaveA.Bg, .bool s.SaveA.Bold, .bool s.SaveA.Under, .bool s.SaveA.Turn, .slice s.Tabs.A s.Tabs.n s.Tabs.c, i64 s.Limit, .slice s.Back.A s.Back.n s.Back.c]] w fun e w' => e = .returned (.bool (scrOk s.dat)) ∧ St w [] [] w' := by
 have nb_s_Main_Cells := f_s.Main.Cells_n
 have nl_s_Main_Cells := f_s.Main.Cells.len
 have nb_s_Alt_Cells := f_s.Alt.Cells_n
 have nl_s_Alt_Cells := f_s.Alt.Cells.len
 have nb_s_Tabs := f_s.Tabs_n
 have nl_s_Tabs := f_s.Tabs.len
 have nb_s_Back := f_s.Back_n
 have nl_s_Back := f_s.Back.sl.len
 refine enter (vs := [.agg #[i64 s.W, i64 s.H, i64 s.Main.W, i64 s.Main.H, .slice s.Main.Cells.A s.Main.Cells.n s.Main.Cells.c, i64 s.Alt.W, i64 s.Alt.H, .slice s.Alt.Cells.A s.Alt.Cells.n s.Alt.Cells.c, .bool s.OnAlt, i64 s.X, i64 s.Y, .bool s.Wrap, i64 s.A.Fg, i64 s.A.Bg, .bool s.A.Bold, .bool s.A.Under, .bool s.A.Turn, i64 s.Top, i64 s.Bot, .bool s.NoWrap, .bool s.Hide, i64 s.SaveX, i64 s.SaveY, i64 s.SaveA.Fg, i64 s.SaveA.Bg, .bool s.SaveA.Bold, .bool s.SaveA.Under, .bool s.SaveA.Turn, .slice s.Tabs.A s.Tabs.n s.Tabs.c, i64 s.Limit, .slice s.Back.A s.Back.n s.Back.c]]) 208 Tryz.func63 rfl Tryz.ntmps63 rfl rfl ?_
 have hs1 := St.init w
 refine WC.sr ?_
 refine WL.bx hs1 rfl (fun b2 _ hs3 => ?_)
 refine WL.run tbk 1 hs3 [] rfl trivial ?_
 refine WL.nil ?_
 refine WC.seq (fun K4 hK4 => ?_)
 refine WC.sr ?_
 refine WL.run tbk 2 hs3 [0] rfl ⟨rfl, trivial⟩ ?_
 refine WL.call rfl rfl rfl (Run.call Tryz.call138 rfl rfl rfl) (c_spec_GridOk s.Main _ (okGridR.st0 f_s.Main hs3)) ?_
 rintro _ whs5 ⟨rfl, hs5⟩
 replace hs5 := hs3.call0 hs5
 refine ⟨_, rfl, ?_⟩
 refine WL.run tbk 2 hs5 [] rfl trivial ?_
 apply WL.gO 4 Acts.nil hs5 rfl
 ·intro g6 J7
  have qg6 := g6
  try simp only [bf, within_iff, within_not] at qg6
  refine WL.runA tbk 2 (Acts.nil.cons (j := 4) rfl g6) hs5 [0] rfl ⟨rfl, trivial⟩ ?_
  refine WL.call (wantF rfl g6) rfl rfl (Run.call Tryz.call138 rfl rfl rfl) (c_spec_GridOk s.Alt _ (okGridR.st0 f_s.Alt hs5)) ?_
  rintro _ whs8 ⟨rfl, hs8⟩
  replace hs8 := hs5.call0 hs8
  refine ⟨_, rfl, ?_⟩
  refine WL.runA tbk 1 (Acts.nil.cons (j := 4) rfl g6) hs8 [] rfl trivial ?_
  exact WL.eO 4 Acts.nil J7 hs8 g6 rfl rfl
 ·intro _ hs9
  refine WL.run tbk 1 hs9 [] rfl trivial ?_
  refine WL.pO tbk 6 Acts.nil hs9 [0, 0] rfl rfl rfl rfl (fun g_ => ⟨rfl, rfl, trivial⟩) ?_
  refine WL.run tbk 1 hs9 [] rfl trivial ?_
  refine WL.pO tbk 6 Acts.nil hs9 [0, 0] rfl rfl rfl rfl (fun g_ => ⟨rfl, rfl, trivial⟩) ?_
  refine WL.run tbk 1 hs9 [] rfl trivial ?_
  refine WL.pO tbk 6 Acts.nil hs9 [0, 0] rfl rfl rfl rfl (fun g_ => ⟨rfl, rfl, trivial⟩) ?_
  refine WL.run tbk 1 hs9 [] rfl trivial ?_
  refine WL.pO tbk 6 Acts.nil hs9 [0, 0] rfl rfl rfl rfl (fun g_ => ⟨rfl, rfl, trivial⟩) ?_
  refine WL.nil ?_
  refine WC.cond rfl (fun h10 => ?_) (fun h10 => ?_)
  ·have qh10 := h10
   try simp only [bf, within_iff, within_not] at qh10
   have hp1 : scrP1 s.dat = false := by have h9 := h10; unfold scrP1 gridFit; show ((gridOk s.Main.dat && (decide (s.Main.W = s.W) && decide (s.Main.H = s.H))) && (gridOk s.Alt.dat && (decide (s.Alt.W = s.W) && decide (s.Alt.H = s.H)))) = false; revert h9; cases gridOk s.Main.dat <;> cases gridOk s.Alt.dat <;> cases decide (s.Main.W = s.W) <;> cases decide (s.Main.H = s.H) <;> cases decide (s.Alt.W = s.W) <;> cases decide (s.Alt.H = s.H) <;> simp
   refine WC.rr tbk hs9 [] rfl trivial ?_
   refine WC.ret ?_
   refine tkR ?_
   clear hK4
   refine retV1 rfl (resV.tmp rfl) ?_
   refine ⟨congrArg Ending.returned ?_, hs9.nil⟩
   rw [scrOk_no (.inl hp1)]
  ·have qh10 := h10
   try simp only [bf, within_iff, within_not] at qh10
   have hp1 : scrP1 s.dat = true := by have h9 := h10; unfold scrP1 gridFit; show ((gridOk s.Main.dat && (decide (s.Main.W = s.W) && decide (s.Main.H = s.H))) && (gridOk s.Alt.dat && (decide (s.Alt.W = s.W) && decide (s.Alt.H = s.H)))) = true; revert h9; cases gridOk s.Main.dat <;> cases gridOk s.Alt.dat <;> cases decide (s.Main.W = s.W) <;> cases decide (s.Main.H = s.H) <;> cases decide (s.Alt.W = s.W) <;> cases decide (s.Alt.H = s.H) <;> simp
   have hbn : (1 ≤ s.W ∧ s.W ≤ 120) ∧ (1 ≤ s.H ∧ s.H ≤ 120) ∧ s.Main.W = s.W ∧ s.Main.H = s.H ∧ s.Alt.W = s.W ∧ s.Alt.H = s.H := scrP1_bnd hp1
   refine WC.skip ?_
   refine hK4 _ _ ?_
   refine WC.seq (fun K11 hK11 => ?_)
   refine WC.sr ?_
   refine WL.run tbk 4 hs9 [0] rfl ⟨rfl, trivial⟩ ?_
   refine WL.pO tbk 5 Acts.nil hs9 [0, 0] rfl rfl rfl rfl (fun g_ => ⟨rfl, rfl, trivial⟩) ?_
   refine WL.run tbk 1 hs9 [] rfl trivial ?_
   refine WL.pO tbk 3 Acts.nil hs9 [0] rfl rfl rfl rfl (fun g_ => ⟨rfl, trivial⟩) ?_
   refine WL.run tbk 1 hs9 [] rfl trivial ?_
   refine WL.pO tbk 5 Acts.nil hs9 [0, 0] rfl rfl rfl rfl (fun g_ => ⟨rfl, rfl, trivial⟩) ?_
   refine WL.run tbk 1 hs9 [] rfl trivial ?_
   apply WL.gO 10 Acts.nil hs9 rfl
   ·intro g12 J13
    have qg12 := g12
    try simp only [bf, within_iff, within_not] at qg12
    refine WL.runA tbk 3 (Acts.nil.cons (j := 22) rfl g12) hs9 [0] rfl ⟨rfl, trivial⟩ ?_
    refine WL.pA tbk 6 (Acts.nil.cons (j := 22) rfl g12) hs9 [0, 0] rfl rfl rfl rfl (fun g_ => by (try simp only [bf, within_iff, within_not] at g_); exact ⟨by omega, rfl, rfl, trivial⟩) ?_
    exact WL.eO 4 Acts.nil J13 hs9 g12 rfl rfl
   ·intro _ hs14
    refine WL.run tbk 1 hs14 [] rfl trivial ?_
    refine WL.pO tbk 3 Acts.nil hs14 [0] rfl rfl rfl rfl (fun g_ => ⟨rfl, trivial⟩) ?_
    refine WL.run tbk 1 hs14 [] rfl trivial ?_
    refine WL.pO tbk 5 Acts.nil hs14 [0, 0] rfl rfl rfl rfl (fun g_ => ⟨rfl, rfl, trivial⟩) ?_
    refine WL.run tbk 1 hs14 [] rfl trivial ?_
    refine WL.pO tbk 3 Acts.nil hs14 [0] rfl rfl rfl rfl (fun g_ => ⟨rfl, trivial⟩) ?_
    refine WL.run tbk 1 hs14 [] rfl trivial ?_
    refine WL.pO tbk 5 Acts.nil hs14 [0, 0] rfl rfl rfl rfl (fun g_ => ⟨rfl, rfl, trivial⟩) ?_
    refine WL.run tbk 1 hs14 [] rfl trivial ?_
    apply WL.gO 4 Acts.nil hs14 rfl
    ·intro g15 J16
     have qg15 := g15
     try simp only [bf, within_iff, within_not] at qg15
     refine WL.runA tbk 2 (Acts.nil.cons (j := 58) rfl g15) hs14 [0] rfl ⟨rfl, trivial⟩ ?_
     refine WL.call (wantF rfl g15) rfl rfl (Run.call Tryz.call139 rfl rfl rfl) (c_spec_AttrOk _ _ _ _ _ _) ?_
     rintro _ whs17 ⟨rfl, hs17⟩
     replace hs17 := hs14.call0 hs17
     refine ⟨_, rfl, ?_⟩
     refine WL.runA tbk 1 (Acts.nil.cons (j := 58) rfl g15) hs17 [] rfl trivial ?_
     exact WL.eO 4 Acts.nil J16 hs17 g15 rfl rfl
    ·intro _ hs18
     refine WL.run tbk 1 hs18 [] rfl trivial ?_
     apply WL.gO 4 Acts.nil hs18 rfl
     ·intro g19 J20
      have qg19 := g19
      try simp only [bf, within_iff, within_not] at qg19
      refine WL.runA tbk 2 (Acts.nil.cons (j := 64) rfl g19) hs18 [0] rfl ⟨rfl, trivial⟩ ?_
      refine WL.call (wantF rfl g19) rfl rfl (Run.call Tryz.call139 rfl rfl rfl) (c_spec_AttrOk _ _ _ _ _ _) ?_
      rintro _ whs21 ⟨rfl, hs21⟩
      replace hs21 := hs18.call0 hs21
      refine ⟨_, rfl, ?_⟩
      refine WL.runA tbk 1 (Acts.nil.cons (j := 64) rfl g19) hs21 [] rfl trivial ?_
      exact WL.eO 4 Acts.nil J20 hs21 g19 rfl rfl
     ·intro _ hs22
      refine WL.nil ?_
      refine WC.cond rfl (fun h23 => ?_) (fun h23 => ?_)
      ·have qh23 := h23
       try simp only [bf, within_iff, within_not] at qh23
       have hp2 : scrP2 s.dat = false := by have h9 := h23; unfold scrP2 gridHas within; show ((((decide (0 ≤ s.X) && decide (s.X ≤ s.Main.W - 1)) && (decide (0 ≤ s.Y) && decide (s.Y ≤ s.Main.H - 1))) && ((decide (0 ≤ s.SaveX) && decide (s.SaveX ≤ s.Main.W - 1)) && (decide (0 ≤ s.SaveY) && decide (s.SaveY ≤ s.Main.H - 1)))) && ((!s.Wrap || decide (s.X = s.W - 1)) && (attrOk s.A.Fg s.A.Bg && attrOk s.SaveA.Fg s.SaveA.Bg))) = false; revert h9; cases s.Wrap <;> cases attrOk s.A.Fg s.A.Bg <;> cases attrOk s.SaveA.Fg s.SaveA.Bg <;> intro h9 <;> simp at h9 ⊢ <;> omega
       refine WC.rr tbk hs22 [] rfl trivial ?_
       refine WC.ret ?_
       refine tkR ?_
       clear hK11
       refine retV1 rfl (resV.tmp rfl) ?_
       refine ⟨congrArg Ending.returned ?_, hs22.nil⟩
       rw [scrOk_no (.inr (.inl hp2))]
      ·have qh23 := h23
       try simp only [bf, within_iff, within_not] at qh23
       have hp2 : scrP2 s.dat = true := by have h9 := h23; unfold scrP2 gridHas within; show ((((decide (0 ≤ s.X) && decide (s.X ≤ s.Main.W - 1)) && (decide (0 ≤ s.Y) && decide (s.Y ≤ s.Main.H - 1))) && ((decide (0 ≤ s.SaveX) && decide (s.SaveX ≤ s.Main.W - 1)) && (decide (0 ≤ s.SaveY) && decide (s.SaveY ≤ s.Main.H - 1)))) && ((!s.Wrap || decide (s.X = s.W - 1)) && (attrOk s.A.Fg s.A.Bg && attrOk s.SaveA.Fg s.SaveA.Bg))) = true; revert h9; cases s.Wrap <;> cases attrOk s.A.Fg s.A.Bg <;> cases attrOk s.SaveA.Fg s.SaveA.Bg <;> intro h9 <;> simp at h9 ⊢ <;> omega
       refine WC.skip ?_
       refine hK11 _ _ ?_
       refine WC.seq (fun K24 hK24 => ?_)
       refine WC.sr ?_
       refine WL.run tbk 4 hs22 [0] rfl ⟨rfl, trivial⟩ ?_
       refine WL.pO tbk 5 Acts.nil hs22 [0, 0] rfl rfl rfl rfl (fun g_ => ⟨rfl, rfl, trivial⟩) ?_
       refine WL.run tbk 1 hs22 [] rfl trivial ?_
       refine WL.pO tbk 5 Acts.nil hs22 [0, 0] rfl rfl rfl rfl (fun g_ => ⟨rfl, rfl, trivial⟩) ?_
       refine WL.run tbk 1 hs22 [] rfl trivial ?_
       apply WL.gO 10 Acts.nil hs22 rfl
       ·intro g25 J26
        have qg25 := g25
        try simp only [bf, within_iff, within_not] at qg25
        refine WL.runA tbk 6 (Acts.nil.cons (j := 17) rfl g25) hs22 [0, 0] rfl ⟨rfl, rfl, trivial⟩ ?_
        refine WL.pA tbk 3 (Acts.nil.cons (j := 17) rfl g25) hs22 [0] rfl rfl rfl rfl (fun g_ => ⟨rfl, trivial⟩) ?_
        exact WL.eO 7 Acts.nil J26 hs22 g25 rfl rfl
       ·intro _ hs27
        refine WL.run tbk 1 hs27 [] rfl trivial ?_
        refine WL.pO tbk 3 Acts.nil hs27 [0] rfl rfl rfl rfl (fun g_ => ⟨rfl, trivial⟩) ?_
        refine WL.run tbk 1 hs27 [] rfl trivial ?_
        refine WL.pO tbk 3 Acts.nil hs27 [0] rfl rfl rfl rfl (fun g_ => ⟨rfl, trivial⟩) ?_
        refine WL.run tbk 1 hs27 [] rfl trivial ?_
        refine WL.pO tbk 6 Acts.nil hs27 [0, 0] rfl rfl rfl rfl (fun g_ => ⟨rfl, rfl, trivial⟩) ?_
        refine WL.nil ?_
        refine WC.cond rfl (fun h28 => ?_) (fun h28 => ?_)
        ·have qh28 := h28
         try simp only [bf, within_iff, within_not] at qh28
         have hp34 : scrP3 s.dat = false ∨ scrP4 s.dat = false := by have h9 := h28; unfold scrP3 scrP4 within; show ((decide (0 ≤ s.Top) && decide (s.Top ≤ s.Bot)) && (decide (s.Bot < s.H) && (!decide (s.Top = s.Bot) || decide (s.H = 1)))) = false ∨ ((decide (0 ≤ s.Limit) && decide (s.Limit ≤ 100)) && decide (((s.Back.xs.map RowR.dat).length : Int) ≤ s.Limit)) = false; rw [List.length_map, nl_s_Back]; simp at h9 ⊢; omega
         refine WC.rr tbk hs27 [] rfl trivial ?_
         refine WC.ret ?_
         refine tkR ?_
         clear hK24
         refine retV1 rfl (resV.tmp rfl) ?_
         refine ⟨congrArg Ending.returned ?_, hs27.nil⟩
         rw [scrOk_no (.inr (.inr (hp34.elim .inl (fun h => .inr (.inl h)))))]
        ·have qh28 := h28
         try simp only [bf, within_iff, within_not] at qh28
         have hp34 : scrP3 s.dat = true ∧ scrP4 s.dat = true := by have h9 := h28; unfold scrP3 scrP4 within; show ((decide (0 ≤ s.Top) && decide (s.Top ≤ s.Bot)) && (decide (s.Bot < s.H) && (!decide (s.Top = s.Bot) || decide (s.H = 1)))) = true ∧ ((decide (0 ≤ s.Limit) && decide (s.Limit ≤ 100)) && decide (((s.Back.xs.map RowR.dat).length : Int) ≤ s.Limit)) = true; rw [List.length_map, nl_s_Back]; simp at h9 ⊢; omega
         refine WC.skip ?_
         refine hK24 _ _ ?_
         refine WC.seq (fun K29 hK29 => ?_)
         refine WC.rr tbk hs27 [0] rfl ⟨rfl, trivial⟩ ?_
         refine WC.block ?_
         refine WC.loopS [(1, _), (48, _), (118, _), (165, _), (167, _), (168, _)] ⟨rfl, rfl, rfl, rfl, rfl, rfl, trivial⟩ hs27 (fun k_ f w' => ∃ (i : Nat), k_ = s.Tabs.n - i ∧ (i ≤ s.Tabs.n) ∧ (∀ j, j < i → ascAt s.Tabs.xs 0 (s.W - 1) j = true) ∧ Sub [(169, .int .i64 i)] f) ((fun (i : Nat) => s.Tabs.n - i) (0)) ?_ ?_
         ·refine ⟨0, rfl, ?_, ?_, ⟨rfl, trivial⟩⟩
          · exact Nat.zero_le _
          · exact fun j hj => absurd hj (by omega)
         ·clear hs27
          rintro _ f w ⟨i, rfl, p0, p1, hG⟩ hF hs30
          refine WC.sub _ (hG.app hF) ?_
          clear hG hF
          refine WC.rr tbk hs30 [] rfl trivial ?_
          refine WC.seq (fun K31 hK31 => ?_)
          refine WC.cond rfl (fun h32 => ?_) (fun h32 => ?_)
          ·have qh32 := h32
           try simp only [bf, within_iff, within_not] at qh32
           refine WC.skip ?_
           refine hK31 _ _ ?_
           refine WC.seq (fun K33 hK33 => ?_)
           refine WC.block ?_
           refine WC.sr ?_
           refine WL.run tbk 1 hs30 [] rfl trivial ?_
           refine WL.val rfl rfl rfl (Run.idxN Tryz.runUnderlying23 Tryz.sizeOf3 rfl rfl rfl ?_ ?_ ?_) ?_
           · exact SlF.some_ (SlF.st0 f_s.Tabs hs30)
           · omega
           · omega
           refine WL.val rfl rfl rfl (Run.load Tryz.isAgg3 rfl rfl (SlF.one1 (SlF.st0 f_s.Tabs hs30) ?_ rfl)) ?_
           · omega
           refine WL.run tbk 2 hs30 [] rfl trivial ?_
           refine WL.nil ?_
           refine WC.sr ?_
           refine WL.run tbk 3 hs30 [] rfl trivial ?_
           refine WL.pO tbk 4 Acts.nil hs30 [0] rfl rfl rfl rfl (fun g_ => ⟨rfl, trivial⟩) ?_
           refine WL.run tbk 1 hs30 [] rfl trivial ?_
           apply WL.gO 12 Acts.nil hs30 rfl
           ·intro g34 J35
            have qg34 := g34
            try simp only [bf, within_iff, within_not] at qg34
            refine WL.runA tbk 3 (Acts.nil.cons (j := 8) rfl g34) hs30 [] rfl trivial ?_
            apply WL.gA 8 (Acts.nil.cons (j := 8) rfl g34) hs30 rfl
            ·intro g36 J37
             have qg36 := g36
             try simp only [bf, within_iff, within_not] at qg36
             refine WL.runA tbk 4 (Acts.nil.cons (j := 11) rfl g36) hs30 [0] rfl ⟨by omega, rfl, trivial⟩ ?_
             refine WL.val (wantT rfl g36) rfl rfl (Run.idxK (i - 1) Tryz.runUnderlying23 Tryz.sizeOf3 rfl rfl rfl ?_ ?_ ?_) ?_
             · exact SlF.some_ (SlF.st0 f_s.Tabs hs30)
             · omega
             · omega
             refine WL.val (wantT rfl g36) rfl rfl (Run.load Tryz.isAgg3 rfl rfl (SlF.one1 (SlF.st0 f_s.Tabs hs30) ?_ rfl)) ?_
             · omega
             refine WL.runA tbk 2 (Acts.nil.cons (j := 11) rfl g36) hs30 [] rfl trivial ?_
             exact WL.eA 8 (Acts.nil.cons (j := 8) rfl g34) J37 hs30 g36 rfl rfl
            ·intro _ hs38
             exact WL.eO 4 Acts.nil J35 hs38 g34 rfl rfl
           ·intro _ hs39
            refine WL.nil ?_
            refine WC.cond rfl (fun h40 => ?_) (fun h40 => ?_)
            ·have qh40 := h40
             try simp only [bf, within_iff, within_not] at qh40
             have ha : ascAt s.Tabs.xs 0 (s.W - 1) i = false := by unfold ascAt within iat; have h9 := h40; simp at h9 ⊢; omega
             refine WC.rr tbk hs39 [] rfl trivial ?_
             refine WC.ret ?_
             refine ibR (tkR (tkR (ibR (tkR ?_))))
             clear hK33 hK29
             refine retV1 rfl (resV.tmp rfl) ?_
             refine ⟨congrArg Ending.returned ?_, hs39.nil⟩
             rw [scrOk_no (.inr (.inr (.inr (.inr (.inl (isAsc_not (i := i) (by show i < s.Tabs.xs.length; omega) ha))))))]
            ·have qh40 := h40
             try simp only [bf, within_iff, within_not] at qh40
             have ha : ascAt s.Tabs.xs 0 (s.W - 1) i = true := by unfold ascAt within iat; have h9 := h40; simp at h9 ⊢; omega
             refine WC.skip ?_
             refine hK33 _ _ ?_
             refine WC.region ?_
             refine WL.run tbk 2 hs39 [] rfl ⟨by omega, trivial⟩ ?_
             refine WL.nil ?_
             refine tkN ?_
             refine ⟨⟨rfl, rfl, rfl, rfl, rfl, rfl, trivial⟩, hs39, _, ?_, i + 1, rfl, ?_, ?_, ⟨rfl, trivial⟩⟩
             · omega
             · omega
             · intro j hj; rcases Nat.lt_or_ge j i with h_ | h_
               · exact p1 j h_
               · obtain rfl : j = i := by omega
                 exact ha
          ·have qh32 := h32
           try simp only [bf, within_iff, within_not] at qh32
           have hasc : isAsc s.dat.Tabs 0 (s.dat.W - 1) = true := isAsc_all (fun j hj => p1 j (by have : j < s.Tabs.xs.length := hj; omega))
           refine WC.exit ?_
           refine hK29 _ _ ?_
           refine WC.seq (fun K41 hK41 => ?_)
           refine WC.rr tbk hs30 [0] rfl ⟨rfl, trivial⟩ ?_
           refine WC.block ?_
           refine WC.loopS [(48, _), (118, _), (165, _), (170, _), (198, _), (199, _)] ⟨rfl, rfl, rfl, rfl, rfl, rfl, trivial⟩ hs30 (fun k_ f w' => ∃ (i : Nat), k_ = s.Back.n - i ∧ (i ≤ s.Back.n) ∧ (∀ j, j < i → rowOk (RowR.dat (gat encRowR s.Back.xs j)) = true) ∧ Sub [(200, .int .i64 i)] f) ((fun (i : Nat) => s.Back.n - i) (0)) ?_ ?_
           ·refine ⟨0, rfl, ?_, ?_, ⟨rfl, trivial⟩⟩
            · exact Nat.zero_le _
            · exact fun j hj => absurd hj (by omega)
           ·clear hs30
            rintro _ f w ⟨i, rfl, r0, r1, hG⟩ hF hs42
            refine WC.sub _ (hG.app hF) ?_
            clear hG hF
            refine WC.rr tbk hs42 [] rfl trivial ?_
            refine WC.seq (fun K43 hK43 => ?_)
            refine WC.cond rfl (fun h44 => ?_) (fun h44 => ?_)
            ·have qh44 := h44
             try simp only [bf, within_iff, within_not] at qh44
             refine WC.skip ?_
             refine hK43 _ _ ?_
             refine WC.seq (fun K45 hK45 => ?_)
             refine WC.block ?_
             refine WC.sr ?_
             refine WL.val rfl rfl rfl (Run.idxN Tryz.runUnderlying31 Tryz.sizeOf98 rfl rfl rfl ?_ ?_ ?_) ?_
             · exact SlF.some_ (SlF.st0 f_s.Back.sl hs42)
             · omega
             · omega
             refine WL.val rfl rfl rfl (Run.loadA Tryz.isAgg98 Tryz.sizeOf98 rfl rfl (SlF.whole (SlF.st0 f_s.Back.sl hs42) ?_)) ?_
             · omega
             refine WL.al hs42 Tryz.zeroValue98 rfl rfl (fun b46 _ hs47 => ?_)
             refine WL.st tbk hs47 0 rfl rfl (fun _ hs48 => ?_)
             refine WL.nil ?_
             refine WC.sr ?_
             refine WL.run tbk 1 hs48 [0] rfl ⟨rfl, trivial⟩ ?_
             refine WL.call rfl rfl rfl (Run.call Tryz.call140 rfl rfl rfl) (c_spec_l09Row (gat encRowR s.Back.xs i) _ (okRowR.st0 (SlN.nth f_s.Back (by omega)) hs48)) ?_
             rintro _ whs49 ⟨rfl, hs49⟩
             replace hs49 := hs48.call0 hs49
             refine ⟨_, rfl, ?_⟩
             refine WL.run tbk 1 hs49 [] rfl trivial ?_
             refine WL.nil ?_
             refine WC.cond rfl (fun h50 => ?_) (fun h50 => ?_)
             ·have qh50 := h50
              try simp only [bf, within_iff, within_not] at qh50
              refine WC.rr tbk hs49 [] rfl trivial ?_
              refine WC.ret ?_
              refine ibR (tkR (tkR (ibR (tkR ?_))))
              clear hK45 hK41
              refine retV1 rfl (resV.tmp rfl) ?_
              refine ⟨congrArg Ending.returned ?_, hs49.nil⟩
              rw [scrOk_no (.inr (.inr (.inr (.inr (.inr (all_gat_not (F := encRowR) (j := i) (by omega) (by simpa using h50)))))))]
             ·have qh50 := h50
              try simp only [bf, within_iff, within_not] at qh50
              refine WC.skip ?_
              refine hK45 _ _ ?_
              refine WC.region ?_
              refine WL.run tbk 2 hs49 [] rfl ⟨by omega, trivial⟩ ?_
              refine WL.nil ?_
              refine tkN ?_
              refine ⟨⟨rfl, rfl, rfl, rfl, rfl, rfl, trivial⟩, (hs49.drop (by repeat (first | exact List.Sublist.refl _ | exact List.sublist_append_left _ _ | exact List.Sublist.trans (List.sublist_append_left _ _) (List.sublist_append_left _ _) | apply List.Sublist.cons | refine List.Sublist.trans ?_ (List.sublist_append_right _ _)))), _, ?_, i + 1, rfl, ?_, ?_, ⟨rfl, trivial⟩⟩
              · omega
              · omega
              · intro j hj; rcases Nat.lt_or_ge j i with h_ | h_
                · exact r1 j h_
                · obtain rfl : j = i := by omega
                  simpa using h50
            ·have qh44 := h44
             try simp only [bf, within_iff, within_not] at qh44
             refine WC.exit ?_
             refine hK41 _ _ ?_
             refine WC.rr tbk hs42 [] rfl trivial ?_
             refine WC.ret ?_
             refine retV1 rfl (resV.tmp rfl) ?_
             refine ⟨congrArg Ending.returned ?_, hs42.nil⟩
             rw [scrOk_all hp1 hp2 hp34.1 hp34.2 hasc (all_gat (F := encRowR) (fun j hj => r1 j (by omega)))]
end Go.Proofs.YtjmegoiclgancaaGreat
