/- Walks of Go functions, printed by a program (wip/gen). -/
import Derived.Test.YtlmcekfdlgkffaaMA
import Derived.Test.YtlmcekfdlgkffaaTB
namespace Go.Proofs.Ytlmcekfdlgkffaa
open Go Go.RowKit
set_option linter.unusedVariables false
set_option linter.unusedSimpArgs false
theorem mixed : Try.prog.follows .mixedOrders = true := by kernel_rfl
theorem info_3 : Try.prog.info? 3 = some Try.t3 := by kernel_rfl
theorem info_5 : Try.prog.info? 5 = some Try.t5 := by kernel_rfl
theorem info_100 : Try.prog.info? 100 = some Try.t100 := by kernel_rfl
theorem c_impl_within (n lo hi : Int) (w : World) :
    Calls Try.prog 72 #[i64 n, i64 lo, i64 hi] w fun e w' => e = .returned (.bool (within n lo hi)) ∧ St w [] [] w' := by
 refine enter (vs := [i64 n, i64 lo, i64 hi]) 15 Try.func72 rfl Try.ntmps72 rfl rfl ?_
 have hs1 := St.init w
 refine WC.rr tbk hs1 [] rfl trivial ?_
 refine WC.sr ?_
 refine WL.run tbk 4 hs1 [] rfl trivial ?_
 refine WL.pA tbk 3 Acts.nil hs1 [] rfl rfl rfl rfl (fun g_ => trivial) ?_
 refine WL.run tbk 1 hs1 [] rfl trivial ?_
 refine WL.nil ?_
 refine WC.ret ?_
 refine retV1 rfl (resV.tmp rfl) ?_
 refine ⟨congrArg Ending.returned ?_, hs1.nil⟩
 rfl
theorem c_impl_Shows (n : Int) (w : World) :
    Calls Try.prog 119 #[i64 n] w fun e w' => e = .returned (.bool (shows n)) ∧ St w [] [] w' := by
 refine enter (vs := [i64 n]) 14 Try.func119 rfl Try.ntmps119 rfl rfl ?_
 have hs1 := St.init w
 refine WC.rr tbk hs1 [] rfl trivial ?_
 refine WC.sr ?_
 refine WL.run tbk 1 hs1 [] rfl trivial ?_
 refine WL.call rfl rfl rfl (Run.call Try.call72 rfl rfl rfl) (c_impl_within _ _ _ _) ?_
 rintro _ whs2 ⟨rfl, hs2⟩
 replace hs2 := hs1.call0 hs2
 refine ⟨_, rfl, ?_⟩
 refine WL.run tbk 1 hs2 [] rfl trivial ?_
 apply WL.gO 7 Acts.nil hs2 rfl
 ·intro g3 J4
  have qg3 := g3
  try simp only [bf, within_iff, within_not] at qg3
  refine WL.runA tbk 1 (Acts.nil.cons (j := 2) rfl g3) hs2 [] rfl trivial ?_
  refine WL.call (wantF rfl g3) rfl rfl (Run.call Try.call72 rfl rfl rfl) (c_impl_within _ _ _ _) ?_
  rintro _ whs5 ⟨rfl, hs5⟩
  replace hs5 := hs2.call0 hs5
  refine ⟨_, rfl, ?_⟩
  refine WL.runA tbk 1 (Acts.nil.cons (j := 2) rfl g3) hs5 [] rfl trivial ?_
  apply WL.gA 3 (Acts.nil.cons (j := 2) rfl g3) hs5 rfl
  ·intro g6 J7
   have qg6 := g6
   try simp only [bf, within_iff, within_not] at qg6
   refine WL.runA tbk 1 (Acts.nil.cons (j := 5) rfl g6) hs5 [] rfl trivial ?_
   refine WL.call (wantT rfl g6) rfl rfl (Run.call Try.call72 rfl rfl rfl) (c_impl_within _ _ _ _) ?_
   rintro _ whs8 ⟨rfl, hs8⟩
   replace hs8 := hs5.call0 hs8
   refine ⟨_, rfl, ?_⟩
   refine WL.runA tbk 1 (Acts.nil.cons (j := 5) rfl g6) hs8 [] rfl trivial ?_
   exact WL.eA 3 (Acts.nil.cons (j := 2) rfl g3) J7 hs8 g6 rfl rfl
  ·intro _ hs9
   exact WL.eO 4 Acts.nil J4 hs9 g3 rfl rfl
 ·intro _ hs10
  refine WL.run tbk 1 hs10 [] rfl trivial ?_
  refine WL.nil ?_
  refine WC.ret ?_
  refine retV1 rfl (resV.tmp rfl) ?_
  refine ⟨congrArg Ending.returned ?_, hs10.nil⟩
  rfl
theorem c_laws_szByteS (A_a : Option Addr) (n_a c_a : Nat) (a : List UInt8) (left : Int) (w : World) (f_a : SlF encB w A_a n_a a) (h1 : 0 ≤ left) (h2 : left ≤ 1048576) (h3 : n_a ≤ 9223372036854775807) :
    Calls Try.prog 65 #[.slice A_a n_a c_a, i64 left] w fun e w' => e = .returned (.int .i64 (szR left n_a)) ∧ St w [] [] w' := by
 refine enter (vs := [.slice A_a n_a c_a, i64 left]) 12 Try.func65 rfl Try.ntmps65 rfl rfl ?_
 have hs1 := St.init w
 refine WC.rr tbk hs1 [] rfl trivial ?_
 refine WC.rr tbk hs1 [] rfl ⟨by omega, trivial⟩ ?_
 refine WC.seq (fun K2 hK2 => ?_)
 refine WC.rr tbk hs1 [] rfl trivial ?_
 refine WC.cD rfl (fun qh3 => ?_) (fun qh3 => ?_)
 ·refine WC.rr tbk hs1 [] rfl trivial ?_
  refine WC.ret ?_
  refine tkR ?_
  clear hK2
  refine retV1 rfl (resV.tmp rfl) ?_
  refine ⟨congrArg Ending.returned ?_, hs1.nil⟩
  simp only [szR]; rw [if_neg (by omega)]
 ·refine WC.skip ?_
  refine hK2 _ _ ?_
  refine WC.rr tbk hs1 [] rfl trivial ?_
  refine WC.ret ?_
  refine retV1 rfl (resV.tmp rfl) ?_
  refine ⟨congrArg Ending.returned ?_, hs1.nil⟩
  simp only [szR]; rw [if_pos (by omega)]
theorem c_laws_toByteS (A_a : Option Addr) (n_a c_a : Nat) (a : List UInt8) (w : World) (f_a : SlF encB w A_a n_a a) (hn : n_a ≤ 1099511627776) :
    Calls Try.prog 28 #[.slice A_a n_a c_a] w fun e w' => ∃ A c L1, e = .returned (.slice A (a).length c) ∧ St w [] L1 w' ∧ OwnF encB 5 (.slice A (a).length c) (a) L1 := by
 refine enter (vs := [.slice A_a n_a c_a]) 22 Try.func28 rfl Try.ntmps28 rfl rfl ?_
 have hs1 := St.init w
 refine WC.rr tbk hs1 [] rfl trivial ?_
 refine WC.sr ?_
 refine WL.run tbk 2 hs1 [] rfl trivial ?_
 refine WL.makeF (F := encB) hs1 Try.underlying23 info_5 rfl rfl rfl rfl rfl rfl rfl rfl rfl ?_ ?_ (fun A5 c6 L2 whs3 hs3 ho4 => ?_)
 · have e_ : Try.t5.bytes = 1 := rfl
   rw [e_]; omega
 · omega
 refine WL.run tbk 1 hs3 [] rfl trivial ?_
 refine WL.nil ?_
 refine WC.seq (fun K7 hK7 => ?_)
 refine WC.rr tbk hs3 [] rfl trivial ?_
 refine WC.block ?_
 refine WC.loopO [(0, _), (2, _)] ⟨rfl, rfl, trivial⟩ hs3 (fun k_ f L_ => ∃ (i : Nat) (A8 : Option Addr) (c9 : Nat), k_ = n_a - i ∧ (i ≤ n_a) ∧ OwnF encB 5 (.slice A8 (n_a) c9) (fillG encB a i) L_ ∧ Sub [(3, .slice A8 (n_a) c9), (4, .int .i64 i)] f) (((fun (i : Nat) => n_a - i) (0))) ?_ ?_
 ·refine ⟨0, _, _, rfl, ?_, (fillG_zero f_a.len ▸ ho4), ⟨rfl, rfl, trivial⟩⟩
  · exact Nat.zero_le _
 ·clear hs3
  rintro _ f w L10 ⟨i, A8, c9, rfl, p0, ho11, hG⟩ hF hs12
  refine WC.sub _ (hG.app hF) ?_
  clear hG hF
  refine WC.seq (fun K13 hK13 => ?_)
  refine WC.rr tbk hs12 [] rfl trivial ?_
  refine WC.cond rfl (fun h14 => ?_) (fun h14 => ?_)
  ·have qh14 := h14
   try simp only [bf, within_iff, within_not] at qh14
   refine WC.skip ?_
   refine hK13 _ _ ?_
   refine WC.seq (fun K15 hK15 => ?_)
   refine WC.block ?_
   refine WC.region ?_
   refine WL.run tbk 4 hs12 [] rfl trivial ?_
   refine WL.val rfl rfl rfl (Run.idxN Try.runUnderlying23 Try.sizeOf5 rfl rfl rfl ?_ ?_ ?_) ?_
   · exact SlF.some_ (SlF.st0 f_a hs12)
   · omega
   · omega
   refine WL.val rfl rfl rfl (Run.load Try.isAgg5 rfl rfl (SlF.one1 (SlF.st0 f_a hs12) ?_ rfl)) ?_
   · omega
   refine WL.val rfl rfl rfl (Run.idxN Try.runUnderlying23 Try.sizeOf5 rfl rfl rfl ?_ ?_ ?_) ?_
   · exact SlF.some_ (SlF.ofOwn ho11 (fun p_ hp_ => (hs12.own p_ (List.mem_append_left _ hp_)).1))
   · omega
   · omega
   refine WL.storeF1 (x' := _) hs12 ho11 Try.sizeOf5 rfl rfl rfl rfl rfl rfl rfl rfl rfl ?_ rfl (fun L16 whs17 hs17 ho18 _ => ?_)
   · omega
   refine WL.nil ?_
   refine hK15 _ _ ?_
   refine WC.region ?_
   refine WL.run tbk 3 hs17 [] rfl ⟨by omega, trivial⟩ ?_
   refine WL.nil ?_
   refine tkN ?_
   rw [fillG_set (i := i) (by rw [f_a.len]; omega) (by simp) (by simp)] at ho18
   refine ⟨⟨rfl, rfl, trivial⟩, _, hs17, _, ?_, i + 1, _, _, rfl, ?_, ho18, ⟨rfl, rfl, trivial⟩⟩
   · omega
   · omega
  ·have qh14 := h14
   try simp only [bf, within_iff, within_not] at qh14
   refine WC.exit ?_
   refine hK7 _ _ ?_
   refine WC.rr tbk hs12 [] rfl trivial ?_
   refine WC.ret ?_
   refine retV1 rfl (resV.tmp rfl) ?_
   have hx_ := OwnF.eqOf (xs := a) ho11 (fillG_full (by rw [f_a.len]; omega))
   have hy_ := ho11
   rw [hx_] at hy_
   obtain ⟨A_, c_, hz_⟩ := hy_.shape
   exact ⟨A_, c_, _, congrArg Ending.returned hz_, (St.keep1 hs12), hz_ ▸ hy_⟩
theorem c_laws_eqByteS (A_a : Option Addr) (n_a c_a : Nat) (a : List UInt8) (A_b : Option Addr) (n_b c_b : Nat) (b : List UInt8) (w : World) (f_a : SlF encB w A_a n_a a) (f_b : SlF encB w A_b n_b b) (hn : n_a ≤ 1099511627776) (hab : a = b) :
    Calls Try.prog 31 #[.slice A_a n_a c_a, .slice A_b n_b c_b] w fun e w' => e = .returned (.bool true) ∧ St w [] [] w' := by
 subst hab
 obtain rfl : n_a = n_b := f_a.len.symm.trans f_b.len
 refine enter (vs := [.slice A_a n_a c_a, .slice A_b n_a c_b]) 26 Try.func31 rfl Try.ntmps31 rfl rfl ?_
 have hs1 := St.init w
 refine WC.rr tbk hs1 [] rfl trivial ?_
 refine WC.seq (fun K2 hK2 => ?_)
 refine WC.rr tbk hs1 [] rfl trivial ?_
 refine WC.condF rfl (by simp) ?_
 refine WC.skip ?_
 refine hK2 _ _ ?_
 refine WC.seq (fun K4 hK4 => ?_)
 refine WC.rr tbk hs1 [] rfl trivial ?_
 refine WC.block ?_
 refine WC.loopS [(0, _), (1, _), (10, _)] ⟨rfl, rfl, rfl, trivial⟩ hs1 (fun k_ f w' => ∃ (i : Nat), k_ = n_a - i ∧ (i ≤ n_a) ∧ Sub [(5, .int .i64 i)] f) ((fun (i : Nat) => n_a - i) (0)) ?_ ?_
 ·refine ⟨0, rfl, ?_, ⟨rfl, trivial⟩⟩
  · exact Nat.zero_le _
 ·clear hs1
  rintro _ f w ⟨i, rfl, p0, hG⟩ hF hs5
  refine WC.sub _ (hG.app hF) ?_
  clear hG hF
  refine WC.seq (fun K6 hK6 => ?_)
  refine WC.rr tbk hs5 [] rfl trivial ?_
  refine WC.cD rfl (fun qh7 => ?_) (fun qh7 => ?_)
  ·refine WC.skip ?_
   refine hK6 _ _ ?_
   refine WC.seq (fun K8 hK8 => ?_)
   refine WC.block ?_
   refine WC.sq hs5 mixed (by kernel_rfl) ?_
   refine WQ.run tbk 2 [] rfl trivial ?_
   refine WQ.val rfl rfl rfl (fun w_ hs_ => (Run.idxN Try.runUnderlying23 Try.sizeOf5 rfl rfl rfl ?_ ?_ ?_)) ?_
   · exact SlF.some_ (SlF.st0 f_a (hs_ : St _ _ _ _))
   · omega
   · omega
   refine WQ.val rfl rfl rfl (fun w_ hs_ => (Run.load Try.isAgg5 rfl rfl (SlF.one1 (SlF.st0 f_a (hs_ : St _ _ _ _)) ?_ rfl))) ?_
   · omega
   refine WQ.run tbk 2 [] rfl trivial ?_
   refine WQ.val rfl rfl rfl (fun w_ hs_ => (Run.idxN Try.runUnderlying23 Try.sizeOf5 rfl rfl rfl ?_ ?_ ?_)) ?_
   · exact SlF.some_ (SlF.st0 f_b (hs_ : St _ _ _ _))
   · omega
   · omega
   refine WQ.val rfl rfl rfl (fun w_ hs_ => (Run.load Try.isAgg5 rfl rfl (SlF.one1 (SlF.st0 f_b (hs_ : St _ _ _ _)) ?_ rfl))) ?_
   · omega
   refine WQ.run tbk 1 [] rfl trivial ?_
   refine WQ.nil (fun _ (hs9 : St _ _ _ _) => ?_)
   refine WC.condF rfl (by simp) ?_
   refine WC.skip ?_
   refine hK8 _ _ ?_
   refine WC.region ?_
   refine WL.run tbk 3 hs9 [] rfl ⟨by omega, trivial⟩ ?_
   refine WL.nil ?_
   refine tkN ?_
   refine ⟨⟨rfl, rfl, rfl, trivial⟩, hs9, _, ?_, i + 1, rfl, ?_, ⟨rfl, trivial⟩⟩
   · omega
   · omega
  ·refine WC.exit ?_
   refine hK4 _ _ ?_
   refine WC.rr tbk hs5 [] rfl trivial ?_
   refine WC.ret ?_
   refine retV1 rfl (resV.tmp rfl) ?_
   refine ⟨congrArg Ending.returned ?_, hs5.nil⟩
   rfl
theorem c_laws_toAttr (a_Fg : Int) (a_Bg : Int) (a_Bold : Bool) (a_Under : Bool) (a_Turn : Bool) (w : World) :
    Calls Try.prog 87 #[.agg #[i64 a_Fg, i64 a_Bg, .bool a_Bold, .bool a_Under, .bool a_Turn]] w fun e w' => e = .returned (.agg #[i64 a_Fg, i64 a_Bg, .bool a_Bold, .bool a_Under, .bool a_Turn]) ∧ St w [] [] w' := by
 refine enter (vs := [.agg #[i64 a_Fg, i64 a_Bg, .bool a_Bold, .bool a_Under, .bool a_Turn]]) 20 Try.func87 rfl Try.ntmps87 rfl rfl ?_
 have hs1 := St.init w
 refine WC.sr ?_
 refine WL.bx hs1 rfl (fun b2 _ hs3 => ?_)
 refine WL.al hs3 Try.zeroValue30 rfl rfl (fun b4 _ hs5 => ?_)
 refine WL.nil ?_
 refine WC.sr ?_
 refine WL.al hs5 Try.zeroValue30 rfl rfl (fun b6 _ hs7 => ?_)
 refine WL.nil ?_
 refine WC.sr ?_
 refine WL.run tbk 3 hs7 [2] rfl ⟨rfl, trivial⟩ ?_
 refine WL.st tbk hs7 0 rfl rfl (fun _ hs8 => ?_)
 refine WL.nil ?_
 refine WC.sr ?_
 refine WL.run tbk 3 hs8 [2] rfl ⟨rfl, trivial⟩ ?_
 refine WL.st tbk hs8 0 rfl rfl (fun _ hs9 => ?_)
 refine WL.nil ?_
 refine WC.sr ?_
 refine WL.run tbk 3 hs9 [2] rfl ⟨rfl, trivial⟩ ?_
 refine WL.st tbk hs9 0 rfl rfl (fun _ hs10 => ?_)
 refine WL.nil ?_
 refine WC.sr ?_
 refine WL.run tbk 3 hs10 [2] rfl ⟨rfl, trivial⟩ ?_
 refine WL.st tbk hs10 0 rfl rfl (fun _ hs11 => ?_)
 refine WL.nil ?_
 refine WC.sr ?_
 refine WL.run tbk 3 hs11 [2] rfl ⟨rfl, trivial⟩ ?_
 refine WL.st tbk hs11 0 rfl rfl (fun _ hs12 => ?_)
 refine WL.nil ?_
 refine WC.sr ?_
 refine WL.run tbk 1 hs12 [0] rfl ⟨rfl, trivial⟩ ?_
 refine WL.st tbk hs12 1 rfl rfl (fun _ hs13 => ?_)
 refine WL.nil ?_
 refine WC.ret ?_
 refine retV1 rfl (resV.cellA tbk hs13 1 rfl rfl rfl rfl) ?_
 refine ⟨congrArg Ending.returned ?_, hs13.nil⟩
 rfl
theorem c_laws_toCell (a_R : Int) (a_A_Fg : Int) (a_A_Bg : Int) (a_A_Bold : Bool) (a_A_Under : Bool) (a_A_Turn : Bool) (w : World) :
    Calls Try.prog 189 #[.agg #[i64 a_R, i64 a_A_Fg, i64 a_A_Bg, .bool a_A_Bold, .bool a_A_Under, .bool a_A_Turn]] w fun e w' => e = .returned (.agg #[i64 a_R, i64 a_A_Fg, i64 a_A_Bg, .bool a_A_Bold, .bool a_A_Under, .bool a_A_Turn]) ∧ St w [] [] w' := by
 refine enter (vs := [.agg #[i64 a_R, i64 a_A_Fg, i64 a_A_Bg, .bool a_A_Bold, .bool a_A_Under, .bool a_A_Turn]]) 12 Try.func189 rfl Try.ntmps189 rfl rfl ?_
 have hs1 := St.init w
 refine WC.sr ?_
 refine WL.bx hs1 rfl (fun b2 _ hs3 => ?_)
 refine WL.al hs3 Try.zeroValue100 rfl rfl (fun b4 _ hs5 => ?_)
 refine WL.nil ?_
 refine WC.sr ?_
 refine WL.al hs5 Try.zeroValue100 rfl rfl (fun b6 _ hs7 => ?_)
 refine WL.nil ?_
 refine WC.sr ?_
 refine WL.run tbk 3 hs7 [2] rfl ⟨rfl, trivial⟩ ?_
 refine WL.st tbk hs7 0 rfl rfl (fun _ hs8 => ?_)
 refine WL.nil ?_
 refine WC.sr ?_
 refine WL.run tbk 2 hs8 [2] rfl ⟨rfl, trivial⟩ ?_
 refine WL.call rfl rfl rfl (Run.call Try.call87 rfl rfl rfl) (c_laws_toAttr _ _ _ _ _ _) ?_
 rintro _ whs9 ⟨rfl, hs9⟩
 replace hs9 := hs8.call0 hs9
 refine ⟨_, rfl, ?_⟩
 refine WL.run tbk 1 hs9 [] rfl trivial ?_
 refine WL.st tbk hs9 0 rfl rfl (fun _ hs10 => ?_)
 refine WL.nil ?_
 refine WC.sr ?_
 refine WL.run tbk 1 hs10 [0] rfl ⟨rfl, trivial⟩ ?_
 refine WL.st tbk hs10 1 rfl rfl (fun _ hs11 => ?_)
 refine WL.nil ?_
 refine WC.ret ?_
 refine retV1 rfl (resV.cellA tbk hs11 1 rfl rfl rfl rfl) ?_
 refine ⟨congrArg Ending.returned ?_, hs11.nil⟩
 rfl
theorem c_laws_eqAttr (a_Fg : Int) (a_Bg : Int) (a_Bold : Bool) (a_Under : Bool) (a_Turn : Bool) (b_Fg : Int) (b_Bg : Int) (b_Bold : Bool) (b_Under : Bool) (b_Turn : Bool) (w : World) (hab : (⟨a_Fg, a_Bg, a_Bold, a_Under, a_Turn⟩ : AttrD) = (⟨b_Fg, b_Bg, b_Bold, b_Under, b_Turn⟩ : AttrD)) :
    Calls Try.prog 94 #[.agg #[i64 a_Fg, i64 a_Bg, .bool a_Bold, .bool a_Under, .bool a_Turn], .agg #[i64 b_Fg, i64 b_Bg, .bool b_Bold, .bool b_Under, .bool b_Turn]] w fun e w' => e = .returned (.bool true) ∧ St w [] [] w' := by
 cases hab
 refine enter (vs := [.agg #[i64 a_Fg, i64 a_Bg, .bool a_Bold, .bool a_Under, .bool a_Turn], .agg #[i64 a_Fg, i64 a_Bg, .bool a_Bold, .bool a_Under, .bool a_Turn]]) 30 Try.func94 rfl Try.ntmps94 rfl rfl ?_
 have hs1 := St.init w
 refine WC.sr ?_
 refine WL.bx hs1 rfl (fun b2 _ hs3 => ?_)
 refine WL.bx hs3 rfl (fun b4 _ hs5 => ?_)
 refine WL.run tbk 1 hs5 [] rfl trivial ?_
 refine WL.nil ?_
 refine WC.seq (fun K6 hK6 => ?_)
 refine WC.rr tbk hs5 [1, 0] rfl ⟨rfl, rfl, trivial⟩ ?_
 refine WC.condF rfl (by simp) ?_
 refine WC.skip ?_
 refine hK6 _ _ ?_
 refine WC.seq (fun K8 hK8 => ?_)
 refine WC.rr tbk hs5 [1, 0] rfl ⟨rfl, rfl, trivial⟩ ?_
 refine WC.condF rfl (by simp) ?_
 refine WC.skip ?_
 refine hK8 _ _ ?_
 refine WC.seq (fun K10 hK10 => ?_)
 refine WC.rr tbk hs5 [1, 0] rfl ⟨rfl, rfl, trivial⟩ ?_
 refine WC.condF rfl (by simp) ?_
 refine WC.skip ?_
 refine hK10 _ _ ?_
 refine WC.seq (fun K12 hK12 => ?_)
 refine WC.rr tbk hs5 [1, 0] rfl ⟨rfl, rfl, trivial⟩ ?_
 refine WC.condF rfl (by simp) ?_
 refine WC.skip ?_
 refine hK12 _ _ ?_
 refine WC.seq (fun K14 hK14 => ?_)
 refine WC.rr tbk hs5 [1, 0] rfl ⟨rfl, rfl, trivial⟩ ?_
 refine WC.condF rfl (by simp) ?_
 refine WC.skip ?_
 refine hK14 _ _ ?_
 refine WC.rr tbk hs5 [] rfl trivial ?_
 refine WC.ret ?_
 refine retV1 rfl (resV.tmp rfl) ?_
 refine ⟨congrArg Ending.returned ?_, hs5.nil⟩
 rfl
theorem c_laws_eqCell (a_R : Int) (a_A_Fg : Int) (a_A_Bg : Int) (a_A_Bold : Bool) (a_A_Under : Bool) (a_A_Turn : Bool) (b_R : Int) (b_A_Fg : Int) (b_A_Bg : Int) (b_A_Bold : Bool) (b_A_Under : Bool) (b_A_Turn : Bool) (w : World) (hab : (⟨a_R, ⟨a_A_Fg, a_A_Bg, a_A_Bold, a_A_Under, a_A_Turn⟩⟩ : CellD) = (⟨b_R, ⟨b_A_Fg, b_A_Bg, b_A_Bold, b_A_Under, b_A_Turn⟩⟩ : CellD)) :
    Calls Try.prog 191 #[.agg #[i64 a_R, i64 a_A_Fg, i64 a_A_Bg, .bool a_A_Bold, .bool a_A_Under, .bool a_A_Turn], .agg #[i64 b_R, i64 b_A_Fg, i64 b_A_Bg, .bool b_A_Bold, .bool b_A_Under, .bool b_A_Turn]] w fun e w' => e = .returned (.bool true) ∧ St w [] [] w' := by
 cases hab
 refine enter (vs := [.agg #[i64 a_R, i64 a_A_Fg, i64 a_A_Bg, .bool a_A_Bold, .bool a_A_Under, .bool a_A_Turn], .agg #[i64 a_R, i64 a_A_Fg, i64 a_A_Bg, .bool a_A_Bold, .bool a_A_Under, .bool a_A_Turn]]) 16 Try.func191 rfl Try.ntmps191 rfl rfl ?_
 have hs1 := St.init w
 refine WC.sr ?_
 refine WL.bx hs1 rfl (fun b2 _ hs3 => ?_)
 refine WL.bx hs3 rfl (fun b4 _ hs5 => ?_)
 refine WL.run tbk 1 hs5 [] rfl trivial ?_
 refine WL.nil ?_
 refine WC.seq (fun K6 hK6 => ?_)
 refine WC.rr tbk hs5 [1, 0] rfl ⟨rfl, rfl, trivial⟩ ?_
 refine WC.condF rfl (by simp) ?_
 refine WC.skip ?_
 refine hK6 _ _ ?_
 refine WC.seq (fun K8 hK8 => ?_)
 refine WC.sr ?_
 refine WL.run tbk 4 hs5 [1, 0] rfl ⟨rfl, rfl, trivial⟩ ?_
 refine WL.call rfl rfl rfl (Run.call Try.call94 rfl rfl rfl) (c_laws_eqAttr _ _ _ _ _ _ _ _ _ _ _ ?_) ?_
 · first | assumption | rfl | omega
 rintro _ whs9 ⟨rfl, hs9⟩
 replace hs9 := hs5.call0 hs9
 refine ⟨_, rfl, ?_⟩
 refine WL.run tbk 1 hs9 [] rfl trivial ?_
 refine WL.nil ?_
 refine WC.condF rfl (by simp) ?_
 refine WC.skip ?_
 refine hK8 _ _ ?_
 refine WC.rr tbk hs9 [] rfl trivial ?_
 refine WC.ret ?_
 refine retV1 rfl (resV.tmp rfl) ?_
 refine ⟨congrArg Ending.returned ?_, hs9.nil⟩
 rfl
theorem c_laws_toCellS (A_a : Option Addr) (n_a c_a : Nat) (a : List CellD) (w : World) (f_a : SlF encCell w A_a n_a a) (hn : n_a ≤ 1099511627776) :
    Calls Try.prog 147 #[.slice A_a n_a c_a] w fun e w' => ∃ A c L1, e = .returned (.slice A (a).length c) ∧ St w [] L1 w' ∧ OwnF encCell 100 (.slice A (a).length c) (a) L1 := by
 refine enter (vs := [.slice A_a n_a c_a]) 23 Try.func147 rfl Try.ntmps147 rfl rfl ?_
 have hs1 := St.init w
 refine WC.rr tbk hs1 [] rfl trivial ?_
 refine WC.sr ?_
 refine WL.run tbk 2 hs1 [] rfl trivial ?_
 refine WL.makeF (F := encCell) hs1 Try.underlying26 info_100 rfl rfl rfl rfl rfl rfl rfl rfl rfl ?_ ?_ (fun A5 c6 L2 whs3 hs3 ho4 => ?_)
 · have e_ : Try.t100.bytes = 32 := rfl
   rw [e_]; omega
 · omega
 refine WL.run tbk 1 hs3 [] rfl trivial ?_
 refine WL.nil ?_
 refine WC.seq (fun K7 hK7 => ?_)
 refine WC.rr tbk hs3 [] rfl trivial ?_
 refine WC.block ?_
 refine WC.loopO [(0, _), (2, _)] ⟨rfl, rfl, trivial⟩ hs3 (fun k_ f L_ => ∃ (i : Nat) (A8 : Option Addr) (c9 : Nat), k_ = n_a - i ∧ (i ≤ n_a) ∧ OwnF encCell 100 (.slice A8 (n_a) c9) (fillG encCell a i) L_ ∧ Sub [(3, .slice A8 (n_a) c9), (4, .int .i64 i)] f) (((fun (i : Nat) => n_a - i) (0))) ?_ ?_
 ·refine ⟨0, _, _, rfl, ?_, (fillG_zero f_a.len ▸ ho4), ⟨rfl, rfl, trivial⟩⟩
  · exact Nat.zero_le _
 ·clear hs3
  rintro _ f w L10 ⟨i, A8, c9, rfl, p0, ho11, hG⟩ hF hs12
  refine WC.sub _ (hG.app hF) ?_
  clear hG hF
  refine WC.seq (fun K13 hK13 => ?_)
  refine WC.rr tbk hs12 [] rfl trivial ?_
  refine WC.cond rfl (fun h14 => ?_) (fun h14 => ?_)
  ·have qh14 := h14
   try simp only [bf, within_iff, within_not] at qh14
   refine WC.skip ?_
   refine hK13 _ _ ?_
   refine WC.seq (fun K15 hK15 => ?_)
   refine WC.block ?_
   refine WC.region ?_
   refine WL.run tbk 4 hs12 [] rfl trivial ?_
   refine WL.val rfl rfl rfl (Run.idxN Try.runUnderlying62 Try.sizeOf191 rfl rfl rfl ?_ ?_ ?_) ?_
   · exact SlF.some_ (SlF.st0 f_a hs12)
   · omega
   · omega
   refine WL.val rfl rfl rfl (Run.loadA Try.isAgg191 Try.sizeOf191 rfl rfl (SlF.whole (SlF.st0 f_a hs12) ?_)) ?_
   · omega
   refine WL.call rfl rfl rfl (Run.call Try.call189 rfl rfl rfl) (c_laws_toCell _ _ _ _ _ _ _) ?_
   rintro _ whs16 ⟨rfl, hs16⟩
   replace hs16 := hs12.call0 hs16
   refine ⟨_, rfl, ?_⟩
   refine WL.val rfl rfl rfl (Run.idxN Try.runUnderlying26 Try.sizeOf100 rfl rfl rfl ?_ ?_ ?_) ?_
   · exact SlF.some_ (SlF.ofOwn ho11 (fun p_ hp_ => (hs16.own p_ (List.mem_append_left _ hp_)).1))
   · omega
   · omega
   refine WL.storeF1 (x' := _) hs16 ho11 Try.sizeOf100 rfl rfl rfl rfl rfl rfl rfl rfl rfl ?_ rfl (fun L17 whs18 hs18 ho19 _ => ?_)
   · omega
   refine WL.nil ?_
   refine hK15 _ _ ?_
   refine WC.region ?_
   refine WL.run tbk 3 hs18 [] rfl ⟨by omega, trivial⟩ ?_
   refine WL.nil ?_
   refine tkN ?_
   rw [fillG_set (i := i) (by rw [f_a.len]; omega) (by simp) (by simp)] at ho19
   refine ⟨⟨rfl, rfl, trivial⟩, _, hs18, _, ?_, i + 1, _, _, rfl, ?_, ho19, ⟨rfl, rfl, trivial⟩⟩
   · omega
   · omega
  ·have qh14 := h14
   try simp only [bf, within_iff, within_not] at qh14
   refine WC.exit ?_
   refine hK7 _ _ ?_
   refine WC.rr tbk hs12 [] rfl trivial ?_
   refine WC.ret ?_
   refine retV1 rfl (resV.tmp rfl) ?_
   have hx_ := OwnF.eqOf (xs := a) ho11 (fillG_full (by rw [f_a.len]; omega))
   have hy_ := ho11
   rw [hx_] at hy_
   obtain ⟨A_, c_, hz_⟩ := hy_.shape
   exact ⟨A_, c_, _, congrArg Ending.returned hz_, (St.keep1 hs12), hz_ ▸ hy_⟩
theorem c_laws_eqCellS (A_a : Option Addr) (n_a c_a : Nat) (a : List CellD) (A_b : Option Addr) (n_b c_b : Nat) (b : List CellD) (w : World) (f_a : SlF encCell w A_a n_a a) (f_b : SlF encCell w A_b n_b b) (hn : n_a ≤ 1099511627776) (hab : a = b) :
    Calls Try.prog 152 #[.slice A_a n_a c_a, .slice A_b n_b c_b] w fun e w' => e = .returned (.bool true) ∧ St w [] [] w' := by
 subst hab
 obtain rfl : n_a = n_b := f_a.len.symm.trans f_b.len
 refine enter (vs := [.slice A_a n_a c_a, .slice A_b n_a c_b]) 27 Try.func152 rfl Try.ntmps152 rfl rfl ?_
 have hs1 := St.init w
 refine WC.rr tbk hs1 [] rfl trivial ?_
 refine WC.seq (fun K2 hK2 => ?_)
 refine WC.rr tbk hs1 [] rfl trivial ?_
 refine WC.condF rfl (by simp) ?_
 refine WC.skip ?_
 refine hK2 _ _ ?_
 refine WC.seq (fun K4 hK4 => ?_)
 refine WC.rr tbk hs1 [] rfl trivial ?_
 refine WC.block ?_
 refine WC.loopS [(0, _), (1, _), (10, _)] ⟨rfl, rfl, rfl, trivial⟩ hs1 (fun k_ f w' => ∃ (i : Nat), k_ = n_a - i ∧ (i ≤ n_a) ∧ Sub [(5, .int .i64 i)] f) ((fun (i : Nat) => n_a - i) (0)) ?_ ?_
 ·refine ⟨0, rfl, ?_, ⟨rfl, trivial⟩⟩
  · exact Nat.zero_le _
 ·clear hs1
  rintro _ f w ⟨i, rfl, p0, hG⟩ hF hs5
  refine WC.sub _ (hG.app hF) ?_
  clear hG hF
  refine WC.seq (fun K6 hK6 => ?_)
  refine WC.rr tbk hs5 [] rfl trivial ?_
  refine WC.cD rfl (fun qh7 => ?_) (fun qh7 => ?_)
  ·refine WC.skip ?_
   refine hK6 _ _ ?_
   refine WC.seq (fun K8 hK8 => ?_)
   refine WC.block ?_
   refine WC.sq hs5 mixed (by kernel_rfl) ?_
   refine WQ.run tbk 2 [] rfl trivial ?_
   refine WQ.val rfl rfl rfl (fun w_ hs_ => (Run.idxN Try.runUnderlying26 Try.sizeOf100 rfl rfl rfl ?_ ?_ ?_)) ?_
   · exact SlF.some_ (SlF.st0 f_a (hs_ : St _ _ _ _))
   · omega
   · omega
   refine WQ.val rfl rfl rfl (fun w_ hs_ => (Run.loadA Try.isAgg100 Try.sizeOf100 rfl rfl (SlF.whole (SlF.st0 f_a (hs_ : St _ _ _ _)) ?_))) ?_
   · omega
   refine WQ.run tbk 2 [] rfl trivial ?_
   refine WQ.val rfl rfl rfl (fun w_ hs_ => (Run.idxN Try.runUnderlying26 Try.sizeOf100 rfl rfl rfl ?_ ?_ ?_)) ?_
   · exact SlF.some_ (SlF.st0 f_b (hs_ : St _ _ _ _))
   · omega
   · omega
   refine WQ.val rfl rfl rfl (fun w_ hs_ => (Run.loadA Try.isAgg100 Try.sizeOf100 rfl rfl (SlF.whole (SlF.st0 f_b (hs_ : St _ _ _ _)) ?_))) ?_
   · omega
   refine WQ.call rfl rfl rfl (fun w_ hs_ => (Run.call Try.call191 rfl rfl rfl)) (fun w_ hs_ => (c_laws_eqCell _ _ _ _ _ _ _ _ _ _ _ _ _ ?_).mono fun e_ w_ h_ => ⟨h_.1, (hs_ : St _ _ _ _).call0 h_.2⟩) ?_
   · first | assumption | rfl | omega
   refine WQ.run tbk 1 [] rfl trivial ?_
   refine WQ.nil (fun _ (hs9 : St _ _ _ _) => ?_)
   refine WC.condF rfl (by simp) ?_
   refine WC.skip ?_
   refine hK8 _ _ ?_
   refine WC.region ?_
   refine WL.run tbk 3 hs9 [] rfl ⟨by omega, trivial⟩ ?_
   refine WL.nil ?_
   refine tkN ?_
   refine ⟨⟨rfl, rfl, rfl, trivial⟩, hs9, _, ?_, i + 1, rfl, ?_, ⟨rfl, trivial⟩⟩
   · omega
   · omega
  ·refine WC.exit ?_
   refine hK4 _ _ ?_
   refine WC.rr tbk hs5 [] rfl trivial ?_
   refine WC.ret ?_
   refine retV1 rfl (resV.tmp rfl) ?_
   refine ⟨congrArg Ending.returned ?_, hs5.nil⟩
   rfl
theorem c_laws_szCellS (A_a : Option Addr) (n_a c_a : Nat) (a : List CellD) (left : Int) (w : World) (f_a : SlF encCell w A_a n_a a) (h1 : 0 ≤ left) (h2 : left ≤ 1048576) (h3 : n_a ≤ 9223372036854775807) :
    Calls Try.prog 144 #[.slice A_a n_a c_a, i64 left] w fun e w' => e = .returned (.int .i64 (szR left n_a)) ∧ St w [] [] w' := by
 refine enter (vs := [.slice A_a n_a c_a, i64 left]) 12 Try.func144 rfl Try.ntmps144 rfl rfl ?_
 have hs1 := St.init w
 refine WC.rr tbk hs1 [] rfl trivial ?_
 refine WC.rr tbk hs1 [] rfl ⟨by omega, trivial⟩ ?_
 refine WC.seq (fun K2 hK2 => ?_)
 refine WC.rr tbk hs1 [] rfl trivial ?_
 refine WC.cD rfl (fun qh3 => ?_) (fun qh3 => ?_)
 ·refine WC.rr tbk hs1 [] rfl trivial ?_
  refine WC.ret ?_
  refine tkR ?_
  clear hK2
  refine retV1 rfl (resV.tmp rfl) ?_
  refine ⟨congrArg Ending.returned ?_, hs1.nil⟩
  simp only [szR]; rw [if_neg (by omega)]
 ·refine WC.skip ?_
  refine hK2 _ _ ?_
  refine WC.rr tbk hs1 [] rfl trivial ?_
  refine WC.ret ?_
  refine retV1 rfl (resV.tmp rfl) ?_
  refine ⟨congrArg Ending.returned ?_, hs1.nil⟩
  simp only [szR]; rw [if_pos (by omega)]
theorem c_laws_eqIntS (A_a : Option Addr) (n_a c_a : Nat) (a : List Int) (A_b : Option Addr) (n_b c_b : Nat) (b : List Int) (w : World) (f_a : SlF encI w A_a n_a a) (f_b : SlF encI w A_b n_b b) (hn : n_a ≤ 1099511627776) (hab : a = b) :
    Calls Try.prog 74 #[.slice A_a n_a c_a, .slice A_b n_b c_b] w fun e w' => e = .returned (.bool true) ∧ St w [] [] w' := by
 subst hab
 obtain rfl : n_a = n_b := f_a.len.symm.trans f_b.len
 refine enter (vs := [.slice A_a n_a c_a, .slice A_b n_a c_b]) 26 Try.func74 rfl Try.ntmps74 rfl rfl ?_
 have hs1 := St.init w
 refine WC.rr tbk hs1 [] rfl trivial ?_
 refine WC.seq (fun K2 hK2 => ?_)
 refine WC.rr tbk hs1 [] rfl trivial ?_
 refine WC.condF rfl (by simp) ?_
 refine WC.skip ?_
 refine hK2 _ _ ?_
 refine WC.seq (fun K4 hK4 => ?_)
 refine WC.rr tbk hs1 [] rfl trivial ?_
 refine WC.block ?_
 refine WC.loopS [(0, _), (1, _), (10, _)] ⟨rfl, rfl, rfl, trivial⟩ hs1 (fun k_ f w' => ∃ (i : Nat), k_ = n_a - i ∧ (i ≤ n_a) ∧ Sub [(5, .int .i64 i)] f) ((fun (i : Nat) => n_a - i) (0)) ?_ ?_
 ·refine ⟨0, rfl, ?_, ⟨rfl, trivial⟩⟩
  · exact Nat.zero_le _
 ·clear hs1
  rintro _ f w ⟨i, rfl, p0, hG⟩ hF hs5
  refine WC.sub _ (hG.app hF) ?_
  clear hG hF
  refine WC.seq (fun K6 hK6 => ?_)
  refine WC.rr tbk hs5 [] rfl trivial ?_
  refine WC.cD rfl (fun qh7 => ?_) (fun qh7 => ?_)
  ·refine WC.skip ?_
   refine hK6 _ _ ?_
   refine WC.seq (fun K8 hK8 => ?_)
   refine WC.block ?_
   refine WC.sq hs5 mixed (by kernel_rfl) ?_
   refine WQ.run tbk 2 [] rfl trivial ?_
   refine WQ.val rfl rfl rfl (fun w_ hs_ => (Run.idxN Try.runUnderlying22 Try.sizeOf3 rfl rfl rfl ?_ ?_ ?_)) ?_
   · exact SlF.some_ (SlF.st0 f_a (hs_ : St _ _ _ _))
   · omega
   · omega
   refine WQ.val rfl rfl rfl (fun w_ hs_ => (Run.load Try.isAgg3 rfl rfl (SlF.one1 (SlF.st0 f_a (hs_ : St _ _ _ _)) ?_ rfl))) ?_
   · omega
   refine WQ.run tbk 2 [] rfl trivial ?_
   refine WQ.val rfl rfl rfl (fun w_ hs_ => (Run.idxN Try.runUnderlying22 Try.sizeOf3 rfl rfl rfl ?_ ?_ ?_)) ?_
   · exact SlF.some_ (SlF.st0 f_b (hs_ : St _ _ _ _))
   · omega
   · omega
   refine WQ.val rfl rfl rfl (fun w_ hs_ => (Run.load Try.isAgg3 rfl rfl (SlF.one1 (SlF.st0 f_b (hs_ : St _ _ _ _)) ?_ rfl))) ?_
   · omega
   refine WQ.run tbk 1 [] rfl trivial ?_
   refine WQ.nil (fun _ (hs9 : St _ _ _ _) => ?_)
   refine WC.condF rfl (by simp) ?_
   refine WC.skip ?_
   refine hK8 _ _ ?_
   refine WC.region ?_
   refine WL.run tbk 3 hs9 [] rfl ⟨by omega, trivial⟩ ?_
   refine WL.nil ?_
   refine tkN ?_
   refine ⟨⟨rfl, rfl, rfl, trivial⟩, hs9, _, ?_, i + 1, rfl, ?_, ⟨rfl, trivial⟩⟩
   · omega
   · omega
  ·refine WC.exit ?_
   refine hK4 _ _ ?_
   refine WC.rr tbk hs5 [] rfl trivial ?_
   refine WC.ret ?_
   refine retV1 rfl (resV.tmp rfl) ?_
   refine ⟨congrArg Ending.returned ?_, hs5.nil⟩
   rfl
theorem c_laws_szIntS (A_a : Option Addr) (n_a c_a : Nat) (a : List Int) (left : Int) (w : World) (f_a : SlF encI w A_a n_a a) (h1 : 0 ≤ left) (h2 : left ≤ 1048576) (h3 : n_a ≤ 9223372036854775807) :
    Calls Try.prog 64 #[.slice A_a n_a c_a, i64 left] w fun e w' => e = .returned (.int .i64 (szR left n_a)) ∧ St w [] [] w' := by
 refine enter (vs := [.slice A_a n_a c_a, i64 left]) 12 Try.func64 rfl Try.ntmps64 rfl rfl ?_
 have hs1 := St.init w
 refine WC.rr tbk hs1 [] rfl trivial ?_
 refine WC.rr tbk hs1 [] rfl ⟨by omega, trivial⟩ ?_
 refine WC.seq (fun K2 hK2 => ?_)
 refine WC.rr tbk hs1 [] rfl trivial ?_
 refine WC.cD rfl (fun qh3 => ?_) (fun qh3 => ?_)
 ·refine WC.rr tbk hs1 [] rfl trivial ?_
  refine WC.ret ?_
  refine tkR ?_
  clear hK2
  refine retV1 rfl (resV.tmp rfl) ?_
  refine ⟨congrArg Ending.returned ?_, hs1.nil⟩
  simp only [szR]; rw [if_neg (by omega)]
 ·refine WC.skip ?_
  refine hK2 _ _ ?_
  refine WC.rr tbk hs1 [] rfl trivial ?_
  refine WC.ret ?_
  refine retV1 rfl (resV.tmp rfl) ?_
  refine ⟨congrArg Ending.returned ?_, hs1.nil⟩
  simp only [szR]; rw [if_pos (by omega)]
theorem c_laws_toIntS (A_a : Option Addr) (n_a c_a : Nat) (a : List Int) (w : World) (f_a : SlF encI w A_a n_a a) (hn : n_a ≤ 1099511627776) :
    Calls Try.prog 70 #[.slice A_a n_a c_a] w fun e w' => ∃ A c L1, e = .returned (.slice A (a).length c) ∧ St w [] L1 w' ∧ OwnF encI 3 (.slice A (a).length c) (a) L1 := by
 refine enter (vs := [.slice A_a n_a c_a]) 22 Try.func70 rfl Try.ntmps70 rfl rfl ?_
 have hs1 := St.init w
 refine WC.rr tbk hs1 [] rfl trivial ?_
 refine WC.sr ?_
 refine WL.run tbk 2 hs1 [] rfl trivial ?_
 refine WL.makeF (F := encI) hs1 Try.underlying22 info_3 rfl rfl rfl rfl rfl rfl rfl rfl rfl ?_ ?_ (fun A5 c6 L2 whs3 hs3 ho4 => ?_)
 · have e_ : Try.t3.bytes = 8 := rfl
   rw [e_]; omega
 · omega
 refine WL.run tbk 1 hs3 [] rfl trivial ?_
 refine WL.nil ?_
 refine WC.seq (fun K7 hK7 => ?_)
 refine WC.rr tbk hs3 [] rfl trivial ?_
 refine WC.block ?_
 refine WC.loopO [(0, _), (2, _)] ⟨rfl, rfl, trivial⟩ hs3 (fun k_ f L_ => ∃ (i : Nat) (A8 : Option Addr) (c9 : Nat), k_ = n_a - i ∧ (i ≤ n_a) ∧ OwnF encI 3 (.slice A8 (n_a) c9) (fillG encI a i) L_ ∧ Sub [(3, .slice A8 (n_a) c9), (4, .int .i64 i)] f) (((fun (i : Nat) => n_a - i) (0))) ?_ ?_
 ·refine ⟨0, _, _, rfl, ?_, (fillG_zero f_a.len ▸ ho4), ⟨rfl, rfl, trivial⟩⟩
  · exact Nat.zero_le _
 ·clear hs3
  rintro _ f w L10 ⟨i, A8, c9, rfl, p0, ho11, hG⟩ hF hs12
  refine WC.sub _ (hG.app hF) ?_
  clear hG hF
  refine WC.seq (fun K13 hK13 => ?_)
  refine WC.rr tbk hs12 [] rfl trivial ?_
  refine WC.cond rfl (fun h14 => ?_) (fun h14 => ?_)
  ·have qh14 := h14
   try simp only [bf, within_iff, within_not] at qh14
   refine WC.skip ?_
   refine hK13 _ _ ?_
   refine WC.seq (fun K15 hK15 => ?_)
   refine WC.block ?_
   refine WC.region ?_
   refine WL.run tbk 4 hs12 [] rfl trivial ?_
   refine WL.val rfl rfl rfl (Run.idxN Try.runUnderlying22 Try.sizeOf3 rfl rfl rfl ?_ ?_ ?_) ?_
   · exact SlF.some_ (SlF.st0 f_a hs12)
   · omega
   · omega
   refine WL.val rfl rfl rfl (Run.load Try.isAgg3 rfl rfl (SlF.one1 (SlF.st0 f_a hs12) ?_ rfl)) ?_
   · omega
   refine WL.val rfl rfl rfl (Run.idxN Try.runUnderlying22 Try.sizeOf3 rfl rfl rfl ?_ ?_ ?_) ?_
   · exact SlF.some_ (SlF.ofOwn ho11 (fun p_ hp_ => (hs12.own p_ (List.mem_append_left _ hp_)).1))
   · omega
   · omega
   refine WL.storeF1 (x' := _) hs12 ho11 Try.sizeOf3 rfl rfl rfl rfl rfl rfl rfl rfl rfl ?_ rfl (fun L16 whs17 hs17 ho18 _ => ?_)
   · omega
   refine WL.nil ?_
   refine hK15 _ _ ?_
   refine WC.region ?_
   refine WL.run tbk 3 hs17 [] rfl ⟨by omega, trivial⟩ ?_
   refine WL.nil ?_
   refine tkN ?_
   rw [fillG_set (i := i) (by rw [f_a.len]; omega) (by simp) (by simp)] at ho18
   refine ⟨⟨rfl, rfl, trivial⟩, _, hs17, _, ?_, i + 1, _, _, rfl, ?_, ho18, ⟨rfl, rfl, trivial⟩⟩
   · omega
   · omega
  ·have qh14 := h14
   try simp only [bf, within_iff, within_not] at qh14
   refine WC.exit ?_
   refine hK7 _ _ ?_
   refine WC.rr tbk hs12 [] rfl trivial ?_
   refine WC.ret ?_
   refine retV1 rfl (resV.tmp rfl) ?_
   have hx_ := OwnF.eqOf (xs := a) ho11 (fillG_full (by rw [f_a.len]; omega))
   have hy_ := ho11
   rw [hx_] at hy_
   obtain ⟨A_, c_, hz_⟩ := hy_.shape
   exact ⟨A_, c_, _, congrArg Ending.returned hz_, (St.keep1 hs12), hz_ ▸ hy_⟩
theorem c_laws_markByteS (v_a : Value) (a : List UInt8) (L_a : Hp) (k : Int) (w : World) (o_a : OwnF encB 5 v_a a L_a) (h_a : ∀ p, p ∈ L_a → w.heap[p.1]? = some p.2) (h1 : 0 ≤ k) (h2 : k ≤ 1099511627776) (h3 : a.length ≤ 1099511627776) :
    Calls Try.prog 32 #[v_a, i64 k] w fun e w' => ∃ L1, e = .returned (.int .i64 (k + 1 * a.length)) ∧ St w (L_a.map (·.1)) L1 w' ∧ OwnF encB 5 v_a (marks ub 1 k a.length) L1 := by
 obtain ⟨A_a, c_a, rfl⟩ := o_a.shape
 refine enter (vs := [.slice A_a a.length c_a, i64 k]) 20 Try.func32 rfl Try.ntmps32 rfl rfl ?_
 have hs1 := St.lent1 w L_a o_a h_a
 refine WC.rr tbk hs1 [] rfl trivial ?_
 refine WC.seq (fun K2 hK2 => ?_)
 refine WC.rr tbk hs1 [] rfl trivial ?_
 refine WC.block ?_
 refine WC.loopO [(4, _)] ⟨rfl, trivial⟩ hs1 (fun k_ f L_ => ∃ (i : Nat) (q : Int), k_ = a.length - i ∧ (i ≤ a.length) ∧ (q = k + 1 * i) ∧ OwnF encB 5 (.slice A_a (a.length) c_a) (fillM ub 1 k a i) L_ ∧ Sub [(0, .slice A_a (a.length) c_a), (5, .int .i64 i), (1, .int .i64 q)] f) (((fun (i : Nat) (q : Int) => a.length - i) (0) (k))) ?_ ?_
 ·refine ⟨0, k, rfl, ?_, ?_, (fillM_zero.symm ▸ o_a), ⟨rfl, rfl, rfl, trivial⟩⟩
  · exact Nat.zero_le _
  · simp
 ·clear hs1
  rintro _ f w L5 ⟨i, q, rfl, p0, p1, ho6, hG⟩ hF hs7
  refine WC.sub _ (hG.app hF) ?_
  clear hG hF
  have hfl : (fillM ub 1 k a i).length = a.length := fillM_len p0
  have hq : k + ((1 : Nat) : Int) * (i : Int) = q := by omega
  refine WC.seq (fun K8 hK8 => ?_)
  refine WC.rr tbk hs7 [] rfl trivial ?_
  refine WC.cond rfl (fun h9 => ?_) (fun h9 => ?_)
  ·have qh9 := h9
   try simp only [bf, within_iff, within_not] at qh9
   refine WC.skip ?_
   refine hK8 _ _ ?_
   refine WC.seq (fun K10 hK10 => ?_)
   refine WC.block ?_
   refine WC.sr ?_
   refine WL.run tbk 4 hs7 [] rfl trivial ?_
   refine WL.val rfl rfl rfl (Run.idxN Try.runUnderlying23 Try.sizeOf5 rfl rfl rfl ?_ ?_ ?_) ?_
   · exact SlF.some_ (SlF.ofOwn ho6 (fun p_ hp_ => (hs7.own p_ (List.mem_append_left _ hp_)).1))
   · omega
   · omega
   refine WL.storeF1 (x' := _) hs7 ho6 Try.sizeOf5 rfl rfl rfl rfl rfl rfl rfl rfl rfl ?_ (by first | rfl | (rw [gat_set (by (try simp only [List.length_set]); omega) rfl]; rfl)) (fun L11 whs12 hs12 ho13 _ => ?_)
   · omega
   refine WL.nil ?_
   refine WC.region ?_
   refine WL.run tbk 3 hs12 [] rfl ⟨by omega, trivial⟩ ?_
   refine WL.nil ?_
   refine hK10 _ _ ?_
   refine WC.region ?_
   refine WL.run tbk 3 hs12 [] rfl ⟨by omega, trivial⟩ ?_
   refine WL.nil ?_
   refine tkN ?_
   try simp only [List.set_set] at ho13
   rw [fillM_set (i := i) (by omega) (by rw [hq]) (by simp)] at ho13
   refine ⟨⟨rfl, trivial⟩, _, hs12, _, ?_, i + 1, _, rfl, ?_, ?_, ho13, ⟨rfl, rfl, rfl, trivial⟩⟩
   · omega
   · omega
   · omega
  ·have qh9 := h9
   try simp only [bf, within_iff, within_not] at qh9
   refine WC.exit ?_
   refine hK2 _ _ ?_
   refine WC.rr tbk hs7 [] rfl trivial ?_
   refine WC.ret ?_
   refine retV1 rfl (resV.tmp rfl) ?_
   have hx_ := OwnF.eqOf (xs := marks ub 1 k a.length) ho6 (fillM_full (by omega))
   have hi_ : i = a.length := by omega
   refine ⟨_, ?_, (St.keep1 hs7), hx_ ▸ ho6⟩
   rw [p1, hi_]
theorem c_laws_heldByteS (A_a : Option Addr) (n_a c_a : Nat) (a : List UInt8) (k : Int) (m : Nat) (w : World) (f_a : SlF encB w A_a n_a a) (hm : a = marks ub 1 k m) (h1 : 0 ≤ k) (h2 : k ≤ 1099511627776) (h3 : n_a ≤ 1099511627776) :
    Calls Try.prog 58 #[.slice A_a n_a c_a, i64 k] w fun e w' => e = .returned (.int .i64 (k + 1 * m)) ∧ St w [] [] w' := by
 have hnm : n_a = m := by rw [← f_a.len, hm, marks_len]
 subst hnm
 refine enter (vs := [.slice A_a n_a c_a, i64 k]) 22 Try.func58 rfl Try.ntmps58 rfl rfl ?_
 have hs1 := St.init w
 refine WC.rr tbk hs1 [] rfl trivial ?_
 refine WC.seq (fun K2 hK2 => ?_)
 refine WC.rr tbk hs1 [] rfl trivial ?_
 refine WC.block ?_
 refine WC.loopS [(0, _)] ⟨rfl, trivial⟩ hs1 (fun k_ f w' => ∃ (i : Nat) (q : Int), k_ = n_a - i ∧ (i ≤ n_a) ∧ (q = k + 1 * i) ∧ Sub [(5, .int .i64 i), (1, .int .i64 q)] f) ((fun (i : Nat) (q : Int) => n_a - i) (0) (k)) ?_ ?_
 ·refine ⟨0, k, rfl, ?_, ?_, ⟨rfl, rfl, trivial⟩⟩
  · exact Nat.zero_le _
  · simp
 ·clear hs1
  rintro _ f w ⟨i, q, rfl, p0, p1, hG⟩ hF hs3
  refine WC.sub _ (hG.app hF) ?_
  clear hG hF
  have hq : k + ((1 : Nat) : Int) * (i : Int) = q := by omega
  refine WC.seq (fun K4 hK4 => ?_)
  refine WC.rr tbk hs3 [] rfl trivial ?_
  refine WC.cD rfl (fun qh5 => ?_) (fun qh5 => ?_)
  ·have hg : gat encB a i = ub q := by rw [hm, marks_gat (by omega), hq]
   refine WC.skip ?_
   refine hK4 _ _ ?_
   refine WC.seq (fun K6 hK6 => ?_)
   refine WC.block ?_
   refine WC.seq (fun K7 hK7 => ?_)
   refine WC.sr ?_
   refine WL.run tbk 2 hs3 [] rfl trivial ?_
   refine WL.val rfl rfl rfl (Run.idxN Try.runUnderlying23 Try.sizeOf5 rfl rfl rfl ?_ ?_ ?_) ?_
   · exact SlF.some_ (SlF.st0 f_a hs3)
   · omega
   · omega
   refine WL.val rfl rfl rfl (Run.load Try.isAgg5 rfl rfl (SlF.one1 (SlF.st0 f_a hs3) ?_ rfl)) ?_
   · omega
   refine WL.run tbk 3 hs3 [] rfl trivial ?_
   refine WL.nil ?_
   refine WC.condF rfl (by simp [hg]) ?_
   refine WC.skip ?_
   refine hK7 _ _ ?_
   refine WC.region ?_
   refine WL.run tbk 3 hs3 [] rfl ⟨by omega, trivial⟩ ?_
   refine WL.nil ?_
   refine hK6 _ _ ?_
   refine WC.region ?_
   refine WL.run tbk 3 hs3 [] rfl ⟨by omega, trivial⟩ ?_
   refine WL.nil ?_
   refine tkN ?_
   refine ⟨⟨rfl, trivial⟩, hs3, _, ?_, i + 1, _, rfl, ?_, ?_, ⟨rfl, rfl, trivial⟩⟩
   · omega
   · omega
   · omega
  ·refine WC.exit ?_
   refine hK2 _ _ ?_
   refine WC.rr tbk hs3 [] rfl trivial ?_
   refine WC.ret ?_
   refine retV1 rfl (resV.tmp rfl) ?_
   refine ⟨congrArg Ending.returned ?_, hs3.nil⟩
   rw [p1, show i = n_a from by omega]
theorem c_laws_markCellS (v_a : Value) (a : List CellD) (L_a : Hp) (k : Int) (w : World) (o_a : OwnF encCell 100 v_a a L_a) (h_a : ∀ p, p ∈ L_a → w.heap[p.1]? = some p.2) (h1 : 0 ≤ k) (h2 : k ≤ 1099511627776) (h3 : a.length ≤ 1099511627776) :
    Calls Try.prog 154 #[v_a, i64 k] w fun e w' => ∃ L1, e = .returned (.int .i64 (k + 6 * a.length)) ∧ St w (L_a.map (·.1)) L1 w' ∧ OwnF encCell 100 v_a (marks mkCell 6 k a.length) L1 := by
 obtain ⟨A_a, c_a, rfl⟩ := o_a.shape
 refine enter (vs := [.slice A_a a.length c_a, i64 k]) 66 Try.func154 rfl Try.ntmps154 rfl rfl ?_
 have hs1 := St.lent1 w L_a o_a h_a
 refine WC.rr tbk hs1 [] rfl trivial ?_
 refine WC.seq (fun K2 hK2 => ?_)
 refine WC.rr tbk hs1 [] rfl trivial ?_
 refine WC.block ?_
 refine WC.loopO [(4, _)] ⟨rfl, trivial⟩ hs1 (fun k_ f L_ => ∃ (i : Nat) (q : Int), k_ = a.length - i ∧ (i ≤ a.length) ∧ (q = k + 6 * i) ∧ OwnF encCell 100 (.slice A_a (a.length) c_a) (fillM mkCell 6 k a i) L_ ∧ Sub [(0, .slice A_a (a.length) c_a), (5, .int .i64 i), (1, .int .i64 q)] f) (((fun (i : Nat) (q : Int) => a.length - i) (0) (k))) ?_ ?_
 ·refine ⟨0, k, rfl, ?_, ?_, (fillM_zero.symm ▸ o_a), ⟨rfl, rfl, rfl, trivial⟩⟩
  · exact Nat.zero_le _
  · simp
 ·clear hs1
  rintro _ f w L5 ⟨i, q, rfl, p0, p1, ho6, hG⟩ hF hs7
  refine WC.sub _ (hG.app hF) ?_
  clear hG hF
  have hfl : (fillM mkCell 6 k a i).length = a.length := fillM_len p0
  have hq : k + ((6 : Nat) : Int) * (i : Int) = q := by omega
  refine WC.seq (fun K8 hK8 => ?_)
  refine WC.rr tbk hs7 [] rfl trivial ?_
  refine WC.cond rfl (fun h9 => ?_) (fun h9 => ?_)
  ·have qh9 := h9
   try simp only [bf, within_iff, within_not] at qh9
   refine WC.skip ?_
   refine hK8 _ _ ?_
   refine WC.seq (fun K10 hK10 => ?_)
   refine WC.block ?_
   refine WC.sr ?_
   refine WL.run tbk 3 hs7 [] rfl trivial ?_
   refine WL.val rfl rfl rfl (Run.idxN Try.runUnderlying26 Try.sizeOf100 rfl rfl rfl ?_ ?_ ?_) ?_
   · exact SlF.some_ (SlF.ofOwn ho6 (fun p_ hp_ => (hs7.own p_ (List.mem_append_left _ hp_)).1))
   · omega
   · omega
   refine WL.val rfl rfl rfl (Run.fieldO Try.runUnderlying100 rfl rfl rfl Try.sizeOf3 rfl) ?_
   refine WL.storeF (x' := ⟨q, ⟨(gat encCell (fillM mkCell 6 k a i) i).A.Fg, (gat encCell (fillM mkCell 6 k a i) i).A.Bg, (gat encCell (fillM mkCell 6 k a i) i).A.Bold, (gat encCell (fillM mkCell 6 k a i) i).A.Under, (gat encCell (fillM mkCell 6 k a i) i).A.Turn⟩⟩) hs7 ho6 Try.sizeOf3 rfl rfl rfl rfl rfl rfl rfl rfl rfl ?_ (by first | rfl | (rw [gat_set (by (try simp only [List.length_set]); omega) rfl]; rfl)) (fun L11 whs12 hs12 ho13 _ => ?_)
   · omega
   refine WL.nil ?_
   refine WC.rr tbk hs12 [] rfl ⟨by omega, trivial⟩ ?_
   refine WC.sr ?_
   refine WL.run tbk 3 hs12 [] rfl trivial ?_
   refine WL.val rfl rfl rfl (Run.idxN Try.runUnderlying26 Try.sizeOf100 rfl rfl rfl ?_ ?_ ?_) ?_
   · exact SlF.some_ (SlF.ofOwn ho13 (fun p_ hp_ => (hs12.own p_ (List.mem_append_left _ hp_)).1))
   · omega
   · omega
   refine WL.val rfl rfl rfl (Run.fieldO Try.runUnderlying100 rfl rfl rfl Try.sizeOf30 rfl) ?_
   refine WL.val rfl rfl rfl (Run.fieldE Try.runUnderlying30 rfl rfl rfl Try.sizeOf3 rfl) ?_
   refine WL.storeF (x' := ⟨q, ⟨(q + 1), (gat encCell (fillM mkCell 6 k a i) i).A.Bg, (gat encCell (fillM mkCell 6 k a i) i).A.Bold, (gat encCell (fillM mkCell 6 k a i) i).A.Under, (gat encCell (fillM mkCell 6 k a i) i).A.Turn⟩⟩) hs12 ho13 Try.sizeOf3 rfl rfl rfl rfl rfl rfl rfl rfl rfl ?_ (by first | rfl | (rw [gat_set (by (try simp only [List.length_set]); omega) rfl]; rfl)) (fun L14 whs15 hs15 ho16 _ => ?_)
   · omega
   refine WL.nil ?_
   refine WC.rr tbk hs15 [] rfl ⟨by omega, trivial⟩ ?_
   refine WC.sr ?_
   refine WL.run tbk 3 hs15 [] rfl trivial ?_
   refine WL.val rfl rfl rfl (Run.idxN Try.runUnderlying26 Try.sizeOf100 rfl rfl rfl ?_ ?_ ?_) ?_
   · exact SlF.some_ (SlF.ofOwn ho16 (fun p_ hp_ => (hs15.own p_ (List.mem_append_left _ hp_)).1))
   · omega
   · omega
   refine WL.val rfl rfl rfl (Run.fieldO Try.runUnderlying100 rfl rfl rfl Try.sizeOf30 rfl) ?_
   refine WL.val rfl rfl rfl (Run.fieldE Try.runUnderlying30 rfl rfl rfl Try.sizeOf3 rfl) ?_
   refine WL.storeF (x' := ⟨q, ⟨(q + 1), (q + 1 + 1), (gat encCell (fillM mkCell 6 k a i) i).A.Bold, (gat encCell (fillM mkCell 6 k a i) i).A.Under, (gat encCell (fillM mkCell 6 k a i) i).A.Turn⟩⟩) hs15 ho16 Try.sizeOf3 rfl rfl rfl rfl rfl rfl rfl rfl rfl ?_ (by first | rfl | (rw [gat_set (by (try simp only [List.length_set]); omega) rfl]; rfl)) (fun L17 whs18 hs18 ho19 _ => ?_)
   · omega
   refine WL.nil ?_
   refine WC.rr tbk hs18 [] rfl ⟨by omega, trivial⟩ ?_
   refine WC.sr ?_
   refine WL.run tbk 3 hs18 [] rfl trivial ?_
   refine WL.val rfl rfl rfl (Run.rem rfl rfl rfl ?_ ?_) ?_
   · omega
   · omega
   refine WL.run tbk 1 hs18 [] rfl trivial ?_
   refine WL.val rfl rfl rfl (Run.idxN Try.runUnderlying26 Try.sizeOf100 rfl rfl rfl ?_ ?_ ?_) ?_
   · exact SlF.some_ (SlF.ofOwn ho19 (fun p_ hp_ => (hs18.own p_ (List.mem_append_left _ hp_)).1))
   · omega
   · omega
   refine WL.val rfl rfl rfl (Run.fieldO Try.runUnderlying100 rfl rfl rfl Try.sizeOf30 rfl) ?_
   refine WL.val rfl rfl rfl (Run.fieldE Try.runUnderlying30 rfl rfl rfl Try.sizeOf4 rfl) ?_
   refine WL.storeF (x' := ⟨q, ⟨(q + 1), (q + 1 + 1), decide ((q + 1 + 1 + 1) % 3 = 0), (gat encCell (fillM mkCell 6 k a i) i).A.Under, (gat encCell (fillM mkCell 6 k a i) i).A.Turn⟩⟩) hs18 ho19 Try.sizeOf4 rfl rfl rfl rfl rfl rfl rfl rfl rfl ?_ (by first | rfl | (rw [gat_set (by (try simp only [List.length_set]); omega) rfl]; rfl)) (fun L20 whs21 hs21 ho22 _ => ?_)
   · omega
   refine WL.nil ?_
   refine WC.rr tbk hs21 [] rfl ⟨by omega, trivial⟩ ?_
   refine WC.sr ?_
   refine WL.run tbk 3 hs21 [] rfl trivial ?_
   refine WL.val rfl rfl rfl (Run.rem rfl rfl rfl ?_ ?_) ?_
   · omega
   · omega
   refine WL.run tbk 1 hs21 [] rfl trivial ?_
   refine WL.val rfl rfl rfl (Run.idxN Try.runUnderlying26 Try.sizeOf100 rfl rfl rfl ?_ ?_ ?_) ?_
   · exact SlF.some_ (SlF.ofOwn ho22 (fun p_ hp_ => (hs21.own p_ (List.mem_append_left _ hp_)).1))
   · omega
   · omega
   refine WL.val rfl rfl rfl (Run.fieldO Try.runUnderlying100 rfl rfl rfl Try.sizeOf30 rfl) ?_
   refine WL.val rfl rfl rfl (Run.fieldE Try.runUnderlying30 rfl rfl rfl Try.sizeOf4 rfl) ?_
   refine WL.storeF (x' := ⟨q, ⟨(q + 1), (q + 1 + 1), decide ((q + 1 + 1 + 1) % 3 = 0), decide ((q + 1 + 1 + 1 + 1) % 3 = 0), (gat encCell (fillM mkCell 6 k a i) i).A.Turn⟩⟩) hs21 ho22 Try.sizeOf4 rfl rfl rfl rfl rfl rfl rfl rfl rfl ?_ (by first | rfl | (rw [gat_set (by (try simp only [List.length_set]); omega) rfl]; rfl)) (fun L23 whs24 hs24 ho25 _ => ?_)
   · omega
   refine WL.nil ?_
   refine WC.rr tbk hs24 [] rfl ⟨by omega, trivial⟩ ?_
   refine WC.sr ?_
   refine WL.run tbk 3 hs24 [] rfl trivial ?_
   refine WL.val rfl rfl rfl (Run.rem rfl rfl rfl ?_ ?_) ?_
   · omega
   · omega
   refine WL.run tbk 1 hs24 [] rfl trivial ?_
   refine WL.val rfl rfl rfl (Run.idxN Try.runUnderlying26 Try.sizeOf100 rfl rfl rfl ?_ ?_ ?_) ?_
   · exact SlF.some_ (SlF.ofOwn ho25 (fun p_ hp_ => (hs24.own p_ (List.mem_append_left _ hp_)).1))
   · omega
   · omega
   refine WL.val rfl rfl rfl (Run.fieldO Try.runUnderlying100 rfl rfl rfl Try.sizeOf30 rfl) ?_
   refine WL.val rfl rfl rfl (Run.fieldE Try.runUnderlying30 rfl rfl rfl Try.sizeOf4 rfl) ?_
   refine WL.storeF (x' := ⟨q, ⟨(q + 1), (q + 1 + 1), decide ((q + 1 + 1 + 1) % 3 = 0), decide ((q + 1 + 1 + 1 + 1) % 3 = 0), decide ((q + 1 + 1 + 1 + 1 + 1) % 3 = 0)⟩⟩) hs24 ho25 Try.sizeOf4 rfl rfl rfl rfl rfl rfl rfl rfl rfl ?_ (by first | rfl | (rw [gat_set (by (try simp only [List.length_set]); omega) rfl]; rfl)) (fun L26 whs27 hs27 ho28 _ => ?_)
   · omega
   refine WL.nil ?_
   refine WC.region ?_
   refine WL.run tbk 3 hs27 [] rfl ⟨by omega, trivial⟩ ?_
   refine WL.nil ?_
   refine hK10 _ _ ?_
   refine WC.region ?_
   refine WL.run tbk 3 hs27 [] rfl ⟨by omega, trivial⟩ ?_
   refine WL.nil ?_
   refine tkN ?_
   try simp only [List.set_set] at ho28
   rw [fillM_set (i := i) (by omega) (by rw [hq]; rfl) (by simp)] at ho28
   refine ⟨⟨rfl, trivial⟩, _, hs27, _, ?_, i + 1, _, rfl, ?_, ?_, ho28, ⟨rfl, rfl, rfl, trivial⟩⟩
   · omega
   · omega
   · omega
  ·have qh9 := h9
   try simp only [bf, within_iff, within_not] at qh9
   refine WC.exit ?_
   refine hK2 _ _ ?_
   refine WC.rr tbk hs7 [] rfl trivial ?_
   refine WC.ret ?_
   refine retV1 rfl (resV.tmp rfl) ?_
   have hx_ := OwnF.eqOf (xs := marks mkCell 6 k a.length) ho6 (fillM_full (by omega))
   have hi_ : i = a.length := by omega
   refine ⟨_, ?_, (St.keep1 hs7), hx_ ▸ ho6⟩
   rw [p1, hi_]
theorem c_laws_heldCellS (A_a : Option Addr) (n_a c_a : Nat) (a : List CellD) (k : Int) (m : Nat) (w : World) (f_a : SlF encCell w A_a n_a a) (hm : a = marks mkCell 6 k m) (h1 : 0 ≤ k) (h2 : k ≤ 1099511627776) (h3 : n_a ≤ 1099511627776) :
    Calls Try.prog 155 #[.slice A_a n_a c_a, i64 k] w fun e w' => e = .returned (.int .i64 (k + 6 * m)) ∧ St w [] [] w' := by
 have hnm : n_a = m := by rw [← f_a.len, hm, marks_len]
 subst hnm
 refine enter (vs := [.slice A_a n_a c_a, i64 k]) 78 Try.func155 rfl Try.ntmps155 rfl rfl ?_
 have hs1 := St.init w
 refine WC.rr tbk hs1 [] rfl trivial ?_
 refine WC.seq (fun K2 hK2 => ?_)
 refine WC.rr tbk hs1 [] rfl trivial ?_
 refine WC.block ?_
 refine WC.loopS [(0, _)] ⟨rfl, trivial⟩ hs1 (fun k_ f w' => ∃ (i : Nat) (q : Int), k_ = n_a - i ∧ (i ≤ n_a) ∧ (q = k + 6 * i) ∧ Sub [(5, .int .i64 i), (1, .int .i64 q)] f) ((fun (i : Nat) (q : Int) => n_a - i) (0) (k)) ?_ ?_
 ·refine ⟨0, k, rfl, ?_, ?_, ⟨rfl, rfl, trivial⟩⟩
  · exact Nat.zero_le _
  · simp
 ·clear hs1
  rintro _ f w ⟨i, q, rfl, p0, p1, hG⟩ hF hs3
  refine WC.sub _ (hG.app hF) ?_
  clear hG hF
  have hq : k + ((6 : Nat) : Int) * (i : Int) = q := by omega
  refine WC.seq (fun K4 hK4 => ?_)
  refine WC.rr tbk hs3 [] rfl trivial ?_
  refine WC.cD rfl (fun qh5 => ?_) (fun qh5 => ?_)
  ·have hg : gat encCell a i = mkCell q := by rw [hm, marks_gat (by omega), hq]
   refine WC.skip ?_
   refine hK4 _ _ ?_
   refine WC.seq (fun K6 hK6 => ?_)
   refine WC.block ?_
   refine WC.seq (fun K7 hK7 => ?_)
   refine WC.sr ?_
   refine WL.run tbk 2 hs3 [] rfl trivial ?_
   refine WL.val rfl rfl rfl (Run.idxN Try.runUnderlying26 Try.sizeOf100 rfl rfl rfl ?_ ?_ ?_) ?_
   · exact SlF.some_ (SlF.st0 f_a hs3)
   · omega
   · omega
   refine WL.val rfl rfl rfl (Run.fieldO Try.runUnderlying100 rfl rfl rfl Try.sizeOf3 rfl) ?_
   refine WL.val rfl rfl rfl (Run.load Try.isAgg3 rfl rfl (SlF.fld (SlF.st0 f_a hs3) ?_ rfl)) ?_
   · omega
   refine WL.run tbk 2 hs3 [] rfl trivial ?_
   refine WL.nil ?_
   refine WC.condF rfl (by simp [hg, mkCell]) ?_
   refine WC.skip ?_
   refine hK7 _ _ ?_
   refine WC.rr tbk hs3 [] rfl ⟨by omega, trivial⟩ ?_
   refine WC.seq (fun K9 hK9 => ?_)
   refine WC.sr ?_
   refine WL.run tbk 2 hs3 [] rfl trivial ?_
   refine WL.val rfl rfl rfl (Run.idxN Try.runUnderlying26 Try.sizeOf100 rfl rfl rfl ?_ ?_ ?_) ?_
   · exact SlF.some_ (SlF.st0 f_a hs3)
   · omega
   · omega
   refine WL.val rfl rfl rfl (Run.fieldO Try.runUnderlying100 rfl rfl rfl Try.sizeOf30 rfl) ?_
   refine WL.val rfl rfl rfl (Run.fieldE Try.runUnderlying30 rfl rfl rfl Try.sizeOf3 rfl) ?_
   refine WL.val rfl rfl rfl (Run.load Try.isAgg3 rfl rfl (SlF.fld (SlF.st0 f_a hs3) ?_ rfl)) ?_
   · omega
   refine WL.run tbk 2 hs3 [] rfl trivial ?_
   refine WL.nil ?_
   refine WC.condF rfl (by simp [hg, mkCell]) ?_
   refine WC.skip ?_
   refine hK9 _ _ ?_
   refine WC.rr tbk hs3 [] rfl ⟨by omega, trivial⟩ ?_
   refine WC.seq (fun K11 hK11 => ?_)
   refine WC.sr ?_
   refine WL.run tbk 2 hs3 [] rfl trivial ?_
   refine WL.val rfl rfl rfl (Run.idxN Try.runUnderlying26 Try.sizeOf100 rfl rfl rfl ?_ ?_ ?_) ?_
   · exact SlF.some_ (SlF.st0 f_a hs3)
   · omega
   · omega
   refine WL.val rfl rfl rfl (Run.fieldO Try.runUnderlying100 rfl rfl rfl Try.sizeOf30 rfl) ?_
   refine WL.val rfl rfl rfl (Run.fieldE Try.runUnderlying30 rfl rfl rfl Try.sizeOf3 rfl) ?_
   refine WL.val rfl rfl rfl (Run.load Try.isAgg3 rfl rfl (SlF.fld (SlF.st0 f_a hs3) ?_ rfl)) ?_
   · omega
   refine WL.run tbk 2 hs3 [] rfl trivial ?_
   refine WL.nil ?_
   refine WC.condF rfl (by simp [hg, mkCell]) ?_
   refine WC.skip ?_
   refine hK11 _ _ ?_
   refine WC.rr tbk hs3 [] rfl ⟨by omega, trivial⟩ ?_
   refine WC.seq (fun K13 hK13 => ?_)
   refine WC.sr ?_
   refine WL.run tbk 2 hs3 [] rfl trivial ?_
   refine WL.val rfl rfl rfl (Run.idxN Try.runUnderlying26 Try.sizeOf100 rfl rfl rfl ?_ ?_ ?_) ?_
   · exact SlF.some_ (SlF.st0 f_a hs3)
   · omega
   · omega
   refine WL.val rfl rfl rfl (Run.fieldO Try.runUnderlying100 rfl rfl rfl Try.sizeOf30 rfl) ?_
   refine WL.val rfl rfl rfl (Run.fieldE Try.runUnderlying30 rfl rfl rfl Try.sizeOf4 rfl) ?_
   refine WL.val rfl rfl rfl (Run.load Try.isAgg4 rfl rfl (SlF.fld (SlF.st0 f_a hs3) ?_ rfl)) ?_
   · omega
   refine WL.run tbk 1 hs3 [] rfl trivial ?_
   refine WL.val rfl rfl rfl (Run.rem rfl rfl rfl ?_ ?_) ?_
   · omega
   · omega
   refine WL.run tbk 2 hs3 [] rfl trivial ?_
   refine WL.nil ?_
   refine WC.condF rfl (by simp [hg, mkCell]) ?_
   refine WC.skip ?_
   refine hK13 _ _ ?_
   refine WC.rr tbk hs3 [] rfl ⟨by omega, trivial⟩ ?_
   refine WC.seq (fun K15 hK15 => ?_)
   refine WC.sr ?_
   refine WL.run tbk 2 hs3 [] rfl trivial ?_
   refine WL.val rfl rfl rfl (Run.idxN Try.runUnderlying26 Try.sizeOf100 rfl rfl rfl ?_ ?_ ?_) ?_
   · exact SlF.some_ (SlF.st0 f_a hs3)
   · omega
   · omega
   refine WL.val rfl rfl rfl (Run.fieldO Try.runUnderlying100 rfl rfl rfl Try.sizeOf30 rfl) ?_
   refine WL.val rfl rfl rfl (Run.fieldE Try.runUnderlying30 rfl rfl rfl Try.sizeOf4 rfl) ?_
   refine WL.val rfl rfl rfl (Run.load Try.isAgg4 rfl rfl (SlF.fld (SlF.st0 f_a hs3) ?_ rfl)) ?_
   · omega
   refine WL.run tbk 1 hs3 [] rfl trivial ?_
   refine WL.val rfl rfl rfl (Run.rem rfl rfl rfl ?_ ?_) ?_
   · omega
   · omega
   refine WL.run tbk 2 hs3 [] rfl trivial ?_
   refine WL.nil ?_
   refine WC.condF rfl (by simp [hg, mkCell]) ?_
   refine WC.skip ?_
   refine hK15 _ _ ?_
   refine WC.rr tbk hs3 [] rfl ⟨by omega, trivial⟩ ?_
   refine WC.seq (fun K17 hK17 => ?_)
   refine WC.sr ?_
   refine WL.run tbk 2 hs3 [] rfl trivial ?_
   refine WL.val rfl rfl rfl (Run.idxN Try.runUnderlying26 Try.sizeOf100 rfl rfl rfl ?_ ?_ ?_) ?_
   · exact SlF.some_ (SlF.st0 f_a hs3)
   · omega
   · omega
   refine WL.val rfl rfl rfl (Run.fieldO Try.runUnderlying100 rfl rfl rfl Try.sizeOf30 rfl) ?_
   refine WL.val rfl rfl rfl (Run.fieldE Try.runUnderlying30 rfl rfl rfl Try.sizeOf4 rfl) ?_
   refine WL.val rfl rfl rfl (Run.load Try.isAgg4 rfl rfl (SlF.fld (SlF.st0 f_a hs3) ?_ rfl)) ?_
   · omega
   refine WL.run tbk 1 hs3 [] rfl trivial ?_
   refine WL.val rfl rfl rfl (Run.rem rfl rfl rfl ?_ ?_) ?_
   · omega
   · omega
   refine WL.run tbk 2 hs3 [] rfl trivial ?_
   refine WL.nil ?_
   refine WC.condF rfl (by simp [hg, mkCell]) ?_
   refine WC.skip ?_
   refine hK17 _ _ ?_
   refine WC.region ?_
   refine WL.run tbk 3 hs3 [] rfl ⟨by omega, trivial⟩ ?_
   refine WL.nil ?_
   refine hK6 _ _ ?_
   refine WC.region ?_
   refine WL.run tbk 3 hs3 [] rfl ⟨by omega, trivial⟩ ?_
   refine WL.nil ?_
   refine tkN ?_
   refine ⟨⟨rfl, trivial⟩, hs3, _, ?_, i + 1, _, rfl, ?_, ?_, ⟨rfl, rfl, trivial⟩⟩
   · omega
   · omega
   · omega
  ·refine WC.exit ?_
   refine hK2 _ _ ?_
   refine WC.rr tbk hs3 [] rfl trivial ?_
   refine WC.ret ?_
   refine retV1 rfl (resV.tmp rfl) ?_
   refine ⟨congrArg Ending.returned ?_, hs3.nil⟩
   rw [p1, show i = n_a from by omega]
theorem c_laws_markIntS (v_a : Value) (a : List Int) (L_a : Hp) (k : Int) (w : World) (o_a : OwnF encI 3 v_a a L_a) (h_a : ∀ p, p ∈ L_a → w.heap[p.1]? = some p.2) (h1 : 0 ≤ k) (h2 : k ≤ 1099511627776) (h3 : a.length ≤ 1099511627776) :
    Calls Try.prog 75 #[v_a, i64 k] w fun e w' => ∃ L1, e = .returned (.int .i64 (k + 1 * a.length)) ∧ St w (L_a.map (·.1)) L1 w' ∧ OwnF encI 3 v_a (marks (fun k => k) 1 k a.length) L1 := by
 obtain ⟨A_a, c_a, rfl⟩ := o_a.shape
 refine enter (vs := [.slice A_a a.length c_a, i64 k]) 19 Try.func75 rfl Try.ntmps75 rfl rfl ?_
 have hs1 := St.lent1 w L_a o_a h_a
 refine WC.rr tbk hs1 [] rfl trivial ?_
 refine WC.seq (fun K2 hK2 => ?_)
 refine WC.rr tbk hs1 [] rfl trivial ?_
 refine WC.block ?_
 refine WC.loopO [(4, _)] ⟨rfl, trivial⟩ hs1 (fun k_ f L_ => ∃ (i : Nat) (q : Int), k_ = a.length - i ∧ (i ≤ a.length) ∧ (q = k + 1 * i) ∧ OwnF encI 3 (.slice A_a (a.length) c_a) (fillM (fun k => k) 1 k a i) L_ ∧ Sub [(0, .slice A_a (a.length) c_a), (5, .int .i64 i), (1, .int .i64 q)] f) (((fun (i : Nat) (q : Int) => a.length - i) (0) (k))) ?_ ?_
 ·refine ⟨0, k, rfl, ?_, ?_, (fillM_zero.symm ▸ o_a), ⟨rfl, rfl, rfl, trivial⟩⟩
  · exact Nat.zero_le _
  · simp
 ·clear hs1
  rintro _ f w L5 ⟨i, q, rfl, p0, p1, ho6, hG⟩ hF hs7
  refine WC.sub _ (hG.app hF) ?_
  clear hG hF
  have hfl : (fillM (fun k => k) 1 k a i).length = a.length := fillM_len p0
  have hq : k + ((1 : Nat) : Int) * (i : Int) = q := by omega
  refine WC.seq (fun K8 hK8 => ?_)
  refine WC.rr tbk hs7 [] rfl trivial ?_
  refine WC.cond rfl (fun h9 => ?_) (fun h9 => ?_)
  ·have qh9 := h9
   try simp only [bf, within_iff, within_not] at qh9
   refine WC.skip ?_
   refine hK8 _ _ ?_
   refine WC.seq (fun K10 hK10 => ?_)
   refine WC.block ?_
   refine WC.sr ?_
   refine WL.run tbk 3 hs7 [] rfl trivial ?_
   refine WL.val rfl rfl rfl (Run.idxN Try.runUnderlying22 Try.sizeOf3 rfl rfl rfl ?_ ?_ ?_) ?_
   · exact SlF.some_ (SlF.ofOwn ho6 (fun p_ hp_ => (hs7.own p_ (List.mem_append_left _ hp_)).1))
   · omega
   · omega
   refine WL.storeF1 (x' := _) hs7 ho6 Try.sizeOf3 rfl rfl rfl rfl rfl rfl rfl rfl rfl ?_ (by first | rfl | (rw [gat_set (by (try simp only [List.length_set]); omega) rfl]; rfl)) (fun L11 whs12 hs12 ho13 _ => ?_)
   · omega
   refine WL.nil ?_
   refine WC.region ?_
   refine WL.run tbk 3 hs12 [] rfl ⟨by omega, trivial⟩ ?_
   refine WL.nil ?_
   refine hK10 _ _ ?_
   refine WC.region ?_
   refine WL.run tbk 3 hs12 [] rfl ⟨by omega, trivial⟩ ?_
   refine WL.nil ?_
   refine tkN ?_
   try simp only [List.set_set] at ho13
   rw [fillM_set (i := i) (by omega) (by rw [hq]) (by simp)] at ho13
   refine ⟨⟨rfl, trivial⟩, _, hs12, _, ?_, i + 1, _, rfl, ?_, ?_, ho13, ⟨rfl, rfl, rfl, trivial⟩⟩
   · omega
   · omega
   · omega
  ·have qh9 := h9
   try simp only [bf, within_iff, within_not] at qh9
   refine WC.exit ?_
   refine hK2 _ _ ?_
   refine WC.rr tbk hs7 [] rfl trivial ?_
   refine WC.ret ?_
   refine retV1 rfl (resV.tmp rfl) ?_
   have hx_ := OwnF.eqOf (xs := marks (fun k => k) 1 k a.length) ho6 (fillM_full (by omega))
   have hi_ : i = a.length := by omega
   refine ⟨_, ?_, (St.keep1 hs7), hx_ ▸ ho6⟩
   rw [p1, hi_]
theorem c_laws_heldIntS (A_a : Option Addr) (n_a c_a : Nat) (a : List Int) (k : Int) (m : Nat) (w : World) (f_a : SlF encI w A_a n_a a) (hm : a = marks (fun k => k) 1 k m) (h1 : 0 ≤ k) (h2 : k ≤ 1099511627776) (h3 : n_a ≤ 1099511627776) :
    Calls Try.prog 76 #[.slice A_a n_a c_a, i64 k] w fun e w' => e = .returned (.int .i64 (k + 1 * m)) ∧ St w [] [] w' := by
 have hnm : n_a = m := by rw [← f_a.len, hm, marks_len]
 subst hnm
 refine enter (vs := [.slice A_a n_a c_a, i64 k]) 21 Try.func76 rfl Try.ntmps76 rfl rfl ?_
 have hs1 := St.init w
 refine WC.rr tbk hs1 [] rfl trivial ?_
 refine WC.seq (fun K2 hK2 => ?_)
 refine WC.rr tbk hs1 [] rfl trivial ?_
 refine WC.block ?_
 refine WC.loopS [(0, _)] ⟨rfl, trivial⟩ hs1 (fun k_ f w' => ∃ (i : Nat) (q : Int), k_ = n_a - i ∧ (i ≤ n_a) ∧ (q = k + 1 * i) ∧ Sub [(5, .int .i64 i), (1, .int .i64 q)] f) ((fun (i : Nat) (q : Int) => n_a - i) (0) (k)) ?_ ?_
 ·refine ⟨0, k, rfl, ?_, ?_, ⟨rfl, rfl, trivial⟩⟩
  · exact Nat.zero_le _
  · simp
 ·clear hs1
  rintro _ f w ⟨i, q, rfl, p0, p1, hG⟩ hF hs3
  refine WC.sub _ (hG.app hF) ?_
  clear hG hF
  have hq : k + ((1 : Nat) : Int) * (i : Int) = q := by omega
  refine WC.seq (fun K4 hK4 => ?_)
  refine WC.rr tbk hs3 [] rfl trivial ?_
  refine WC.cD rfl (fun qh5 => ?_) (fun qh5 => ?_)
  ·have hg : gat encI a i = (fun k => k) q := by rw [hm, marks_gat (by omega), hq]
   refine WC.skip ?_
   refine hK4 _ _ ?_
   refine WC.seq (fun K6 hK6 => ?_)
   refine WC.block ?_
   refine WC.seq (fun K7 hK7 => ?_)
   refine WC.sr ?_
   refine WL.run tbk 2 hs3 [] rfl trivial ?_
   refine WL.val rfl rfl rfl (Run.idxN Try.runUnderlying22 Try.sizeOf3 rfl rfl rfl ?_ ?_ ?_) ?_
   · exact SlF.some_ (SlF.st0 f_a hs3)
   · omega
   · omega
   refine WL.val rfl rfl rfl (Run.load Try.isAgg3 rfl rfl (SlF.one1 (SlF.st0 f_a hs3) ?_ rfl)) ?_
   · omega
   refine WL.run tbk 2 hs3 [] rfl trivial ?_
   refine WL.nil ?_
   refine WC.condF rfl (by simp [hg]) ?_
   refine WC.skip ?_
   refine hK7 _ _ ?_
   refine WC.region ?_
   refine WL.run tbk 3 hs3 [] rfl ⟨by omega, trivial⟩ ?_
   refine WL.nil ?_
   refine hK6 _ _ ?_
   refine WC.region ?_
   refine WL.run tbk 3 hs3 [] rfl ⟨by omega, trivial⟩ ?_
   refine WL.nil ?_
   refine tkN ?_
   refine ⟨⟨rfl, trivial⟩, hs3, _, ?_, i + 1, _, rfl, ?_, ?_, ⟨rfl, rfl, trivial⟩⟩
   · omega
   · omega
   · omega
  ·refine WC.exit ?_
   refine hK2 _ _ ?_
   refine WC.rr tbk hs3 [] rfl trivial ?_
   refine WC.ret ?_
   refine retV1 rfl (resV.tmp rfl) ?_
   refine ⟨congrArg Ending.returned ?_, hs3.nil⟩
   rw [p1, show i = n_a from by omega]
end Go.Proofs.Ytlmcekfdlgkffaa
