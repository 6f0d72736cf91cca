/- Walks of Go functions, printed by a program (wip/gen). -/
import Derived.Test.YtmkgffhdbagmjaaMA
import Derived.Test.YtmkgffhdbagmjaaTB
namespace Go.Proofs.Ytmkgffhdbagmjaa
open Go Go.RowKit
set_option linter.unusedVariables false
set_option linter.unusedSimpArgs false
theorem mixed : Try.prog.follows .mixedOrders = true := by kernel_rfl
theorem info_3 : Try.prog.info? 3 = some Try.t3 := by kernel_rfl
theorem info_5 : Try.prog.info? 5 = some Try.t5 := by kernel_rfl
theorem info_152 : Try.prog.info? 152 = some Try.t152 := by kernel_rfl
theorem info_164 : Try.prog.info? 164 = some Try.t164 := by kernel_rfl
theorem c_impl_within (n lo hi : Int) (w : World) :
    Calls Try.prog 30 #[i64 n, i64 lo, i64 hi] w fun e w' => e = .returned (.bool (within n lo hi)) ∧ St w [] [] w' := by
 refine enter (vs := [i64 n, i64 lo, i64 hi]) 15 Try.func30 rfl Try.ntmps30 rfl rfl ?_
 have hs1 := St.init w
 refine WC.rr tbk hs1 [] rfl trivial ?_
 refine WC.sr ?_
 refine WL.run tbk 4 hs1 [] rfl trivial ?_
 refine WL.pA tbk 3 Acts.nil hs1 [] rfl rfl rfl rfl (fun g_ => trivial) ?_
 refine WL.run tbk 1 hs1 [] rfl trivial ?_
 refine WL.nil ?_
 refine WC.ret ?_
 refine retV1 rfl (resV.tmp rfl) ?_
 refine ⟨congrArg Ending.returned ?_, hs1.nil⟩
 rfl
theorem c_impl_isId (n : Int) (w : World) :
    Calls Try.prog 27 #[i64 n] w fun e w' => e = .returned (.bool (isId n)) ∧ St w [] [] w' := by
 refine enter (vs := [i64 n]) 5 Try.func27 rfl Try.ntmps27 rfl rfl ?_
 have hs1 := St.init w
 refine WC.rr tbk hs1 [] rfl trivial ?_
 refine WC.sr ?_
 refine WL.run tbk 1 hs1 [] rfl trivial ?_
 refine WL.call rfl rfl rfl (Run.call Try.call30 rfl rfl rfl) (c_impl_within _ _ _ _) ?_
 rintro _ whs2 ⟨rfl, hs2⟩
 replace hs2 := hs1.call0 hs2
 refine ⟨_, rfl, ?_⟩
 refine WL.run tbk 1 hs2 [] rfl trivial ?_
 refine WL.nil ?_
 refine WC.ret ?_
 refine retV1 rfl (resV.tmp rfl) ?_
 refine ⟨congrArg Ending.returned ?_, hs2.nil⟩
 rfl
theorem c_impl_isCmd (s : ByteArray) (w : World) :
    Calls Try.prog 28 #[.string s] w fun e w' => e = .returned (.bool (isCmd s)) ∧ St w [] [] w' := by
 refine enter (vs := [.string s]) 6 Try.func28 rfl Try.ntmps28 rfl rfl ?_
 have hs1 := St.init w
 refine WC.rr tbk hs1 [] rfl trivial ?_
 refine WC.rr tbk hs1 [] rfl trivial ?_
 refine WC.ret ?_
 refine retV1 rfl (resV.tmp rfl) ?_
 refine ⟨congrArg Ending.returned ?_, hs1.nil⟩
 simp [isCmd]; omega
theorem c_impl_Shows (n : Int) (w : World) :
    Calls Try.prog 103 #[i64 n] w fun e w' => e = .returned (.bool (shows n)) ∧ St w [] [] w' := by
 refine enter (vs := [i64 n]) 14 Try.func103 rfl Try.ntmps103 rfl rfl ?_
 have hs1 := St.init w
 refine WC.rr tbk hs1 [] rfl trivial ?_
 refine WC.sr ?_
 refine WL.run tbk 1 hs1 [] rfl trivial ?_
 refine WL.call rfl rfl rfl (Run.call Try.call30 rfl rfl rfl) (c_impl_within _ _ _ _) ?_
 rintro _ whs2 ⟨rfl, hs2⟩
 replace hs2 := hs1.call0 hs2
 refine ⟨_, rfl, ?_⟩
 refine WL.run tbk 1 hs2 [] rfl trivial ?_
 apply WL.gO 7 Acts.nil hs2 rfl
 ·intro g3 J4
  have qg3 := g3
  try simp only [bf, within_iff, within_not] at qg3
  refine WL.runA tbk 1 (Acts.nil.cons (j := 2) rfl g3) hs2 [] rfl trivial ?_
  refine WL.call (wantF rfl g3) rfl rfl (Run.call Try.call30 rfl rfl rfl) (c_impl_within _ _ _ _) ?_
  rintro _ whs5 ⟨rfl, hs5⟩
  replace hs5 := hs2.call0 hs5
  refine ⟨_, rfl, ?_⟩
  refine WL.runA tbk 1 (Acts.nil.cons (j := 2) rfl g3) hs5 [] rfl trivial ?_
  apply WL.gA 3 (Acts.nil.cons (j := 2) rfl g3) hs5 rfl
  ·intro g6 J7
   have qg6 := g6
   try simp only [bf, within_iff, within_not] at qg6
   refine WL.runA tbk 1 (Acts.nil.cons (j := 5) rfl g6) hs5 [] rfl trivial ?_
   refine WL.call (wantT rfl g6) rfl rfl (Run.call Try.call30 rfl rfl rfl) (c_impl_within _ _ _ _) ?_
   rintro _ whs8 ⟨rfl, hs8⟩
   replace hs8 := hs5.call0 hs8
   refine ⟨_, rfl, ?_⟩
   refine WL.runA tbk 1 (Acts.nil.cons (j := 5) rfl g6) hs8 [] rfl trivial ?_
   exact WL.eA 3 (Acts.nil.cons (j := 2) rfl g3) J7 hs8 g6 rfl rfl
  ·intro _ hs9
   exact WL.eO 4 Acts.nil J4 hs9 g3 rfl rfl
 ·intro _ hs10
  refine WL.run tbk 1 hs10 [] rfl trivial ?_
  refine WL.nil ?_
  refine WC.ret ?_
  refine retV1 rfl (resV.tmp rfl) ?_
  refine ⟨congrArg Ending.returned ?_, hs10.nil⟩
  rfl
theorem c_laws_szByteS (A_a : Option Addr) (n_a c_a : Nat) (a : List UInt8) (left : Int) (w : World) (f_a : SlF encB w A_a n_a a) (h1 : 0 ≤ left) (h2 : left ≤ 1048576) (h3 : n_a ≤ 9223372036854775807) :
    Calls Try.prog 68 #[.slice A_a n_a c_a, i64 left] w fun e w' => e = .returned (.int .i64 (szR left n_a)) ∧ St w [] [] w' := by
 refine enter (vs := [.slice A_a n_a c_a, i64 left]) 12 Try.func68 rfl Try.ntmps68 rfl rfl ?_
 have hs1 := St.init w
 refine WC.rr tbk hs1 [] rfl trivial ?_
 refine WC.rr tbk hs1 [] rfl ⟨by omega, trivial⟩ ?_
 refine WC.seq (fun K2 hK2 => ?_)
 refine WC.rr tbk hs1 [] rfl trivial ?_
 refine WC.cD rfl (fun qh3 => ?_) (fun qh3 => ?_)
 ·refine WC.rr tbk hs1 [] rfl trivial ?_
  refine WC.ret ?_
  refine tkR ?_
  clear hK2
  refine retV1 rfl (resV.tmp rfl) ?_
  refine ⟨congrArg Ending.returned ?_, hs1.nil⟩
  simp only [szR]; rw [if_neg (by omega)]
 ·refine WC.skip ?_
  refine hK2 _ _ ?_
  refine WC.rr tbk hs1 [] rfl trivial ?_
  refine WC.ret ?_
  refine retV1 rfl (resV.tmp rfl) ?_
  refine ⟨congrArg Ending.returned ?_, hs1.nil⟩
  simp only [szR]; rw [if_pos (by omega)]
theorem c_laws_toByteS (A_a : Option Addr) (n_a c_a : Nat) (a : List UInt8) (w : World) (f_a : SlF encB w A_a n_a a) (hn : n_a ≤ 1099511627776) :
    Calls Try.prog 77 #[.slice A_a n_a c_a] w fun e w' => ∃ A c L1, e = .returned (.slice A (a).length c) ∧ St w [] L1 w' ∧ OwnF encB 5 (.slice A (a).length c) (a) L1 := by
 refine enter (vs := [.slice A_a n_a c_a]) 22 Try.func77 rfl Try.ntmps77 rfl rfl ?_
 have hs1 := St.init w
 refine WC.rr tbk hs1 [] rfl trivial ?_
 refine WC.sr ?_
 refine WL.run tbk 2 hs1 [] rfl trivial ?_
 refine WL.makeF (F := encB) hs1 Try.underlying23 info_5 rfl rfl rfl rfl rfl rfl rfl rfl rfl ?_ ?_ (fun A5 c6 L2 whs3 hs3 ho4 => ?_)
 · have e_ : Try.t5.bytes = 1 := rfl
   rw [e_]; omega
 · omega
 refine WL.run tbk 1 hs3 [] rfl trivial ?_
 refine WL.nil ?_
 refine WC.seq (fun K7 hK7 => ?_)
 refine WC.rr tbk hs3 [] rfl trivial ?_
 refine WC.block ?_
 refine WC.loopO [(0, _), (2, _), (5, _), (6, _), (7, _)] ⟨rfl, rfl, rfl, rfl, rfl, trivial⟩ hs3 (fun k_ f L_ => ∃ (i : Nat) (A8 : Option Addr) (c9 : Nat), k_ = n_a - i ∧ (i ≤ n_a) ∧ OwnF encB 5 (.slice A8 (n_a) c9) (fillG encB a i) L_ ∧ Sub [(3, .slice A8 (n_a) c9), (4, .int .i64 i)] f) (((fun (i : Nat) => n_a - i) (0))) ?_ ?_
 ·refine ⟨0, _, _, rfl, ?_, (fillG_zero f_a.len ▸ ho4), ⟨rfl, rfl, trivial⟩⟩
  · exact Nat.zero_le _
 ·clear hs3
  rintro _ f w L10 ⟨i, A8, c9, rfl, p0, ho11, hG⟩ hF hs12
  refine WC.sub _ (hG.app hF) ?_
  clear hG hF
  refine WC.seq (fun K13 hK13 => ?_)
  refine WC.rr tbk hs12 [] rfl trivial ?_
  refine WC.cond rfl (fun h14 => ?_) (fun h14 => ?_)
  ·have qh14 := h14
   try simp only [bf, within_iff, within_not] at qh14
   refine WC.skip ?_
   refine hK13 _ _ ?_
   refine WC.seq (fun K15 hK15 => ?_)
   refine WC.block ?_
   refine WC.region ?_
   refine WL.run tbk 4 hs12 [] rfl trivial ?_
   refine WL.val rfl rfl rfl (Run.idxN Try.runUnderlying23 Try.sizeOf5 rfl rfl rfl ?_ ?_ ?_) ?_
   · exact SlF.some_ (SlF.st0 f_a hs12)
   · omega
   · omega
   refine WL.val rfl rfl rfl (Run.load Try.isAgg5 rfl rfl (SlF.one1 (SlF.st0 f_a hs12) ?_ rfl)) ?_
   · omega
   refine WL.val rfl rfl rfl (Run.idxN Try.runUnderlying23 Try.sizeOf5 rfl rfl rfl ?_ ?_ ?_) ?_
   · exact SlF.some_ (SlF.ofOwn ho11 (fun p_ hp_ => (hs12.own p_ (List.mem_append_left _ hp_)).1))
   · omega
   · omega
   refine WL.storeF1 (x' := _) hs12 ho11 Try.sizeOf5 rfl rfl rfl rfl rfl rfl rfl rfl rfl ?_ rfl (fun L16 whs17 hs17 ho18 _ => ?_)
   · omega
   refine WL.nil ?_
   refine hK15 _ _ ?_
   refine WC.region ?_
   refine WL.run tbk 3 hs17 [] rfl ⟨by omega, trivial⟩ ?_
   refine WL.nil ?_
   refine tkN ?_
   rw [fillG_set (i := i) (by rw [f_a.len]; omega) (by simp) (by simp)] at ho18
   refine ⟨⟨rfl, rfl, rfl, rfl, rfl, trivial⟩, _, hs17, _, ?_, i + 1, _, _, rfl, ?_, ho18, ⟨rfl, rfl, trivial⟩⟩
   · omega
   · omega
  ·have qh14 := h14
   try simp only [bf, within_iff, within_not] at qh14
   refine WC.exit ?_
   refine hK7 _ _ ?_
   refine WC.rr tbk hs12 [] rfl trivial ?_
   refine WC.ret ?_
   refine retV1 rfl (resV.tmp rfl) ?_
   have hx_ := OwnF.eqOf (xs := a) ho11 (fillG_full (by rw [f_a.len]; omega))
   have hy_ := ho11
   rw [hx_] at hy_
   obtain ⟨A_, c_, hz_⟩ := hy_.shape
   exact ⟨A_, c_, _, congrArg Ending.returned hz_, (St.keep1 hs12), hz_ ▸ hy_⟩
theorem c_laws_eqByteS (A_a : Option Addr) (n_a c_a : Nat) (a : List UInt8) (A_b : Option Addr) (n_b c_b : Nat) (b : List UInt8) (w : World) (f_a : SlF encB w A_a n_a a) (f_b : SlF encB w A_b n_b b) (hn : n_a ≤ 1099511627776) (hab : a = b) :
    Calls Try.prog 89 #[.slice A_a n_a c_a, .slice A_b n_b c_b] w fun e w' => e = .returned (.bool true) ∧ St w [] [] w' := by
 subst hab
 obtain rfl : n_a = n_b := f_a.len.symm.trans f_b.len
 refine enter (vs := [.slice A_a n_a c_a, .slice A_b n_a c_b]) 26 Try.func89 rfl Try.ntmps89 rfl rfl ?_
 have hs1 := St.init w
 refine WC.rr tbk hs1 [] rfl trivial ?_
 refine WC.seq (fun K2 hK2 => ?_)
 refine WC.rr tbk hs1 [] rfl trivial ?_
 refine WC.condF rfl (by simp) ?_
 refine WC.skip ?_
 refine hK2 _ _ ?_
 refine WC.seq (fun K4 hK4 => ?_)
 refine WC.rr tbk hs1 [] rfl trivial ?_
 refine WC.block ?_
 refine WC.loopS [(0, _), (1, _), (6, _), (7, _), (8, _), (9, _), (10, _)] ⟨rfl, rfl, rfl, rfl, rfl, rfl, rfl, trivial⟩ hs1 (fun k_ f w' => ∃ (i : Nat), k_ = n_a - i ∧ (i ≤ n_a) ∧ Sub [(5, .int .i64 i)] f) ((fun (i : Nat) => n_a - i) (0)) ?_ ?_
 ·refine ⟨0, rfl, ?_, ⟨rfl, trivial⟩⟩
  · exact Nat.zero_le _
 ·clear hs1
  rintro _ f w ⟨i, rfl, p0, hG⟩ hF hs5
  refine WC.sub _ (hG.app hF) ?_
  clear hG hF
  refine WC.seq (fun K6 hK6 => ?_)
  refine WC.rr tbk hs5 [] rfl trivial ?_
  refine WC.cD rfl (fun qh7 => ?_) (fun qh7 => ?_)
  ·refine WC.skip ?_
   refine hK6 _ _ ?_
   refine WC.seq (fun K8 hK8 => ?_)
   refine WC.block ?_
   refine WC.sq hs5 mixed (by kernel_rfl) ?_
   refine WQ.run tbk 2 [] rfl trivial ?_
   refine WQ.val rfl rfl rfl (fun w_ hs_ => (Run.idxN Try.runUnderlying23 Try.sizeOf5 rfl rfl rfl ?_ ?_ ?_)) ?_
   · exact SlF.some_ (SlF.st0 f_a (hs_ : St _ _ _ _))
   · omega
   · omega
   refine WQ.val rfl rfl rfl (fun w_ hs_ => (Run.load Try.isAgg5 rfl rfl (SlF.one1 (SlF.st0 f_a (hs_ : St _ _ _ _)) ?_ rfl))) ?_
   · omega
   refine WQ.run tbk 2 [] rfl trivial ?_
   refine WQ.val rfl rfl rfl (fun w_ hs_ => (Run.idxN Try.runUnderlying23 Try.sizeOf5 rfl rfl rfl ?_ ?_ ?_)) ?_
   · exact SlF.some_ (SlF.st0 f_b (hs_ : St _ _ _ _))
   · omega
   · omega
   refine WQ.val rfl rfl rfl (fun w_ hs_ => (Run.load Try.isAgg5 rfl rfl (SlF.one1 (SlF.st0 f_b (hs_ : St _ _ _ _)) ?_ rfl))) ?_
   · omega
   refine WQ.run tbk 1 [] rfl trivial ?_
   refine WQ.nil (fun _ (hs9 : St _ _ _ _) => ?_)
   refine WC.condF rfl (by simp) ?_
   refine WC.skip ?_
   refine hK8 _ _ ?_
   refine WC.region ?_
   refine WL.run tbk 3 hs9 [] rfl ⟨by omega, trivial⟩ ?_
   refine WL.nil ?_
   refine tkN ?_
   refine ⟨⟨rfl, rfl, rfl, rfl, rfl, rfl, rfl, trivial⟩, hs9, _, ?_, i + 1, rfl, ?_, ⟨rfl, trivial⟩⟩
   · omega
   · omega
  ·refine WC.exit ?_
   refine hK4 _ _ ?_
   refine WC.rr tbk hs5 [] rfl trivial ?_
   refine WC.ret ?_
   refine retV1 rfl (resV.tmp rfl) ?_
   refine ⟨congrArg Ending.returned ?_, hs5.nil⟩
   rfl
theorem c_laws_toAttr (a_Fg : Int) (a_Bg : Int) (a_Bold : Bool) (a_Under : Bool) (a_Turn : Bool) (w : World) :
    Calls Try.prog 79 #[.agg #[i64 a_Fg, i64 a_Bg, .bool a_Bold, .bool a_Under, .bool a_Turn]] w fun e w' => e = .returned (.agg #[i64 a_Fg, i64 a_Bg, .bool a_Bold, .bool a_Under, .bool a_Turn]) ∧ St w [] [] w' := by
 refine enter (vs := [.agg #[i64 a_Fg, i64 a_Bg, .bool a_Bold, .bool a_Under, .bool a_Turn]]) 20 Try.func79 rfl Try.ntmps79 rfl rfl ?_
 have hs1 := St.init w
 refine WC.sr ?_
 refine WL.bx hs1 rfl (fun b2 _ hs3 => ?_)
 refine WL.al hs3 Try.zeroValue44 rfl rfl (fun b4 _ hs5 => ?_)
 refine WL.nil ?_
 refine WC.sr ?_
 refine WL.al hs5 Try.zeroValue44 rfl rfl (fun b6 _ hs7 => ?_)
 refine WL.nil ?_
 refine WC.sr ?_
 refine WL.run tbk 3 hs7 [2] rfl ⟨rfl, trivial⟩ ?_
 refine WL.st tbk hs7 0 rfl rfl (fun _ hs8 => ?_)
 refine WL.nil ?_
 refine WC.sr ?_
 refine WL.run tbk 3 hs8 [2] rfl ⟨rfl, trivial⟩ ?_
 refine WL.st tbk hs8 0 rfl rfl (fun _ hs9 => ?_)
 refine WL.nil ?_
 refine WC.sr ?_
 refine WL.run tbk 3 hs9 [2] rfl ⟨rfl, trivial⟩ ?_
 refine WL.st tbk hs9 0 rfl rfl (fun _ hs10 => ?_)
 refine WL.nil ?_
 refine WC.sr ?_
 refine WL.run tbk 3 hs10 [2] rfl ⟨rfl, trivial⟩ ?_
 refine WL.st tbk hs10 0 rfl rfl (fun _ hs11 => ?_)
 refine WL.nil ?_
 refine WC.sr ?_
 refine WL.run tbk 3 hs11 [2] rfl ⟨rfl, trivial⟩ ?_
 refine WL.st tbk hs11 0 rfl rfl (fun _ hs12 => ?_)
 refine WL.nil ?_
 refine WC.sr ?_
 refine WL.run tbk 1 hs12 [0] rfl ⟨rfl, trivial⟩ ?_
 refine WL.st tbk hs12 1 rfl rfl (fun _ hs13 => ?_)
 refine WL.nil ?_
 refine WC.ret ?_
 refine retV1 rfl (resV.cellA tbk hs13 1 rfl rfl rfl rfl) ?_
 refine ⟨congrArg Ending.returned ?_, hs13.nil⟩
 rfl
theorem c_laws_toCell (a_R : Int) (a_A_Fg : Int) (a_A_Bg : Int) (a_A_Bold : Bool) (a_A_Under : Bool) (a_A_Turn : Bool) (w : World) :
    Calls Try.prog 116 #[.agg #[i64 a_R, i64 a_A_Fg, i64 a_A_Bg, .bool a_A_Bold, .bool a_A_Under, .bool a_A_Turn]] w fun e w' => e = .returned (.agg #[i64 a_R, i64 a_A_Fg, i64 a_A_Bg, .bool a_A_Bold, .bool a_A_Under, .bool a_A_Turn]) ∧ St w [] [] w' := by
 refine enter (vs := [.agg #[i64 a_R, i64 a_A_Fg, i64 a_A_Bg, .bool a_A_Bold, .bool a_A_Under, .bool a_A_Turn]]) 12 Try.func116 rfl Try.ntmps116 rfl rfl ?_
 have hs1 := St.init w
 refine WC.sr ?_
 refine WL.bx hs1 rfl (fun b2 _ hs3 => ?_)
 refine WL.al hs3 Try.zeroValue152 rfl rfl (fun b4 _ hs5 => ?_)
 refine WL.nil ?_
 refine WC.sr ?_
 refine WL.al hs5 Try.zeroValue152 rfl rfl (fun b6 _ hs7 => ?_)
 refine WL.nil ?_
 refine WC.sr ?_
 refine WL.run tbk 3 hs7 [2] rfl ⟨rfl, trivial⟩ ?_
 refine WL.st tbk hs7 0 rfl rfl (fun _ hs8 => ?_)
 refine WL.nil ?_
 refine WC.sr ?_
 refine WL.run tbk 2 hs8 [2] rfl ⟨rfl, trivial⟩ ?_
 refine WL.call rfl rfl rfl (Run.call Try.call79 rfl rfl rfl) (c_laws_toAttr _ _ _ _ _ _) ?_
 rintro _ whs9 ⟨rfl, hs9⟩
 replace hs9 := hs8.call0 hs9
 refine ⟨_, rfl, ?_⟩
 refine WL.run tbk 1 hs9 [] rfl trivial ?_
 refine WL.st tbk hs9 0 rfl rfl (fun _ hs10 => ?_)
 refine WL.nil ?_
 refine WC.sr ?_
 refine WL.run tbk 1 hs10 [0] rfl ⟨rfl, trivial⟩ ?_
 refine WL.st tbk hs10 1 rfl rfl (fun _ hs11 => ?_)
 refine WL.nil ?_
 refine WC.ret ?_
 refine retV1 rfl (resV.cellA tbk hs11 1 rfl rfl rfl rfl) ?_
 refine ⟨congrArg Ending.returned ?_, hs11.nil⟩
 rfl
theorem c_laws_eqAttr (a_Fg : Int) (a_Bg : Int) (a_Bold : Bool) (a_Under : Bool) (a_Turn : Bool) (b_Fg : Int) (b_Bg : Int) (b_Bold : Bool) (b_Under : Bool) (b_Turn : Bool) (w : World) (hab : (⟨a_Fg, a_Bg, a_Bold, a_Under, a_Turn⟩ : AttrD) = (⟨b_Fg, b_Bg, b_Bold, b_Under, b_Turn⟩ : AttrD)) :
    Calls Try.prog 91 #[.agg #[i64 a_Fg, i64 a_Bg, .bool a_Bold, .bool a_Under, .bool a_Turn], .agg #[i64 b_Fg, i64 b_Bg, .bool b_Bold, .bool b_Under, .bool b_Turn]] w fun e w' => e = .returned (.bool true) ∧ St w [] [] w' := by
 cases hab
 refine enter (vs := [.agg #[i64 a_Fg, i64 a_Bg, .bool a_Bold, .bool a_Under, .bool a_Turn], .agg #[i64 a_Fg, i64 a_Bg, .bool a_Bold, .bool a_Under, .bool a_Turn]]) 30 Try.func91 rfl Try.ntmps91 rfl rfl ?_
 have hs1 := St.init w
 refine WC.sr ?_
 refine WL.bx hs1 rfl (fun b2 _ hs3 => ?_)
 refine WL.bx hs3 rfl (fun b4 _ hs5 => ?_)
 refine WL.run tbk 1 hs5 [] rfl trivial ?_
 refine WL.nil ?_
 refine WC.seq (fun K6 hK6 => ?_)
 refine WC.rr tbk hs5 [1, 0] rfl ⟨rfl, rfl, trivial⟩ ?_
 refine WC.condF rfl (by simp) ?_
 refine WC.skip ?_
 refine hK6 _ _ ?_
 refine WC.seq (fun K8 hK8 => ?_)
 refine WC.rr tbk hs5 [1, 0] rfl ⟨rfl, rfl, trivial⟩ ?_
 refine WC.condF rfl (by simp) ?_
 refine WC.skip ?_
 refine hK8 _ _ ?_
 refine WC.seq (fun K10 hK10 => ?_)
 refine WC.rr tbk hs5 [1, 0] rfl ⟨rfl, rfl, trivial⟩ ?_
 refine WC.condF rfl (by simp) ?_
 refine WC.skip ?_
 refine hK10 _ _ ?_
 refine WC.seq (fun K12 hK12 => ?_)
 refine WC.rr tbk hs5 [1, 0] rfl ⟨rfl, rfl, trivial⟩ ?_
 refine WC.condF rfl (by simp) ?_
 refine WC.skip ?_
 refine hK12 _ _ ?_
 refine WC.seq (fun K14 hK14 => ?_)
 refine WC.rr tbk hs5 [1, 0] rfl ⟨rfl, rfl, trivial⟩ ?_
 refine WC.condF rfl (by simp) ?_
 refine WC.skip ?_
 refine hK14 _ _ ?_
 refine WC.rr tbk hs5 [] rfl trivial ?_
 refine WC.ret ?_
 refine retV1 rfl (resV.tmp rfl) ?_
 refine ⟨congrArg Ending.returned ?_, hs5.nil⟩
 rfl
theorem c_laws_eqCell (a_R : Int) (a_A_Fg : Int) (a_A_Bg : Int) (a_A_Bold : Bool) (a_A_Under : Bool) (a_A_Turn : Bool) (b_R : Int) (b_A_Fg : Int) (b_A_Bg : Int) (b_A_Bold : Bool) (b_A_Under : Bool) (b_A_Turn : Bool) (w : World) (hab : (⟨a_R, ⟨a_A_Fg, a_A_Bg, a_A_Bold, a_A_Under, a_A_Turn⟩⟩ : CellD) = (⟨b_R, ⟨b_A_Fg, b_A_Bg, b_A_Bold, b_A_Under, b_A_Turn⟩⟩ : CellD)) :
    Calls Try.prog 122 #[.agg #[i64 a_R, i64 a_A_Fg, i64 a_A_Bg, .bool a_A_Bold, .bool a_A_Under, .bool a_A_Turn], .agg #[i64 b_R, i64 b_A_Fg, i64 b_A_Bg, .bool b_A_Bold, .bool b_A_Under, .bool b_A_Turn]] w fun e w' => e = .returned (.bool true) ∧ St w [] [] w' := by
 cases hab
 refine enter (vs := [.agg #[i64 a_R, i64 a_A_Fg, i64 a_A_Bg, .bool a_A_Bold, .bool a_A_Under, .bool a_A_Turn], .agg #[i64 a_R, i64 a_A_Fg, i64 a_A_Bg, .bool a_A_Bold, .bool a_A_Under, .bool a_A_Turn]]) 16 Try.func122 rfl Try.ntmps122 rfl rfl ?_
 have hs1 := St.init w
 refine WC.sr ?_
 refine WL.bx hs1 rfl (fun b2 _ hs3 => ?_)
 refine WL.bx hs3 rfl (fun b4 _ hs5 => ?_)
 refine WL.run tbk 1 hs5 [] rfl trivial ?_
 refine WL.nil ?_
 refine WC.seq (fun K6 hK6 => ?_)
 refine WC.rr tbk hs5 [1, 0] rfl ⟨rfl, rfl, trivial⟩ ?_
 refine WC.condF rfl (by simp) ?_
 refine WC.skip ?_
 refine hK6 _ _ ?_
 refine WC.seq (fun K8 hK8 => ?_)
 refine WC.sr ?_
 refine WL.run tbk 4 hs5 [1, 0] rfl ⟨rfl, rfl, trivial⟩ ?_
 refine WL.call rfl rfl rfl (Run.call Try.call91 rfl rfl rfl) (c_laws_eqAttr _ _ _ _ _ _ _ _ _ _ _ ?_) ?_
 · first | assumption | rfl | omega
 rintro _ whs9 ⟨rfl, hs9⟩
 replace hs9 := hs5.call0 hs9
 refine ⟨_, rfl, ?_⟩
 refine WL.run tbk 1 hs9 [] rfl trivial ?_
 refine WL.nil ?_
 refine WC.condF rfl (by simp) ?_
 refine WC.skip ?_
 refine hK8 _ _ ?_
 refine WC.rr tbk hs9 [] rfl trivial ?_
 refine WC.ret ?_
 refine retV1 rfl (resV.tmp rfl) ?_
 refine ⟨congrArg Ending.returned ?_, hs9.nil⟩
 rfl
theorem c_laws_toCellS (A_a : Option Addr) (n_a c_a : Nat) (a : List CellD) (w : World) (f_a : SlF encCell w A_a n_a a) (hn : n_a ≤ 1099511627776) :
    Calls Try.prog 100 #[.slice A_a n_a c_a] w fun e w' => ∃ A c L1, e = .returned (.slice A (a).length c) ∧ St w [] L1 w' ∧ OwnF encCell 152 (.slice A (a).length c) (a) L1 := by
 refine enter (vs := [.slice A_a n_a c_a]) 23 Try.func100 rfl Try.ntmps100 rfl rfl ?_
 have hs1 := St.init w
 refine WC.rr tbk hs1 [] rfl trivial ?_
 refine WC.sr ?_
 refine WL.run tbk 2 hs1 [] rfl trivial ?_
 refine WL.makeF (F := encCell) hs1 Try.underlying41 info_152 rfl rfl rfl rfl rfl rfl rfl rfl rfl ?_ ?_ (fun A5 c6 L2 whs3 hs3 ho4 => ?_)
 · have e_ : Try.t152.bytes = 32 := rfl
   rw [e_]; omega
 · omega
 refine WL.run tbk 1 hs3 [] rfl trivial ?_
 refine WL.nil ?_
 refine WC.seq (fun K7 hK7 => ?_)
 refine WC.rr tbk hs3 [] rfl trivial ?_
 refine WC.block ?_
 refine WC.loopO [(0, _), (2, _), (5, _), (6, _), (7, _)] ⟨rfl, rfl, rfl, rfl, rfl, trivial⟩ hs3 (fun k_ f L_ => ∃ (i : Nat) (A8 : Option Addr) (c9 : Nat), k_ = n_a - i ∧ (i ≤ n_a) ∧ OwnF encCell 152 (.slice A8 (n_a) c9) (fillG encCell a i) L_ ∧ Sub [(3, .slice A8 (n_a) c9), (4, .int .i64 i)] f) (((fun (i : Nat) => n_a - i) (0))) ?_ ?_
 ·refine ⟨0, _, _, rfl, ?_, (fillG_zero f_a.len ▸ ho4), ⟨rfl, rfl, trivial⟩⟩
  · exact Nat.zero_le _
 ·clear hs3
  rintro _ f w L10 ⟨i, A8, c9, rfl, p0, ho11, hG⟩ hF hs12
  refine WC.sub _ (hG.app hF) ?_
  clear hG hF
  refine WC.seq (fun K13 hK13 => ?_)
  refine WC.rr tbk hs12 [] rfl trivial ?_
  refine WC.cond rfl (fun h14 => ?_) (fun h14 => ?_)
  ·have qh14 := h14
   try simp only [bf, within_iff, within_not] at qh14
   refine WC.skip ?_
   refine hK13 _ _ ?_
   refine WC.seq (fun K15 hK15 => ?_)
   refine WC.block ?_
   refine WC.region ?_
   refine WL.run tbk 4 hs12 [] rfl trivial ?_
   refine WL.val rfl rfl rfl (Run.idxN Try.runUnderlying26 Try.sizeOf171 rfl rfl rfl ?_ ?_ ?_) ?_
   · exact SlF.some_ (SlF.st0 f_a hs12)
   · omega
   · omega
   refine WL.val rfl rfl rfl (Run.loadA Try.isAgg171 Try.sizeOf171 rfl rfl (SlF.whole (SlF.st0 f_a hs12) ?_)) ?_
   · omega
   refine WL.call rfl rfl rfl (Run.call Try.call116 rfl rfl rfl) (c_laws_toCell _ _ _ _ _ _ _) ?_
   rintro _ whs16 ⟨rfl, hs16⟩
   replace hs16 := hs12.call0 hs16
   refine ⟨_, rfl, ?_⟩
   refine WL.val rfl rfl rfl (Run.idxN Try.runUnderlying41 Try.sizeOf152 rfl rfl rfl ?_ ?_ ?_) ?_
   · exact SlF.some_ (SlF.ofOwn ho11 (fun p_ hp_ => (hs16.own p_ (List.mem_append_left _ hp_)).1))
   · omega
   · omega
   refine WL.storeF1 (x' := _) hs16 ho11 Try.sizeOf152 rfl rfl rfl rfl rfl rfl rfl rfl rfl ?_ rfl (fun L17 whs18 hs18 ho19 _ => ?_)
   · omega
   refine WL.nil ?_
   refine hK15 _ _ ?_
   refine WC.region ?_
   refine WL.run tbk 3 hs18 [] rfl ⟨by omega, trivial⟩ ?_
   refine WL.nil ?_
   refine tkN ?_
   rw [fillG_set (i := i) (by rw [f_a.len]; omega) (by simp) (by simp)] at ho19
   refine ⟨⟨rfl, rfl, rfl, rfl, rfl, trivial⟩, _, hs18, _, ?_, i + 1, _, _, rfl, ?_, ho19, ⟨rfl, rfl, trivial⟩⟩
   · omega
   · omega
  ·have qh14 := h14
   try simp only [bf, within_iff, within_not] at qh14
   refine WC.exit ?_
   refine hK7 _ _ ?_
   refine WC.rr tbk hs12 [] rfl trivial ?_
   refine WC.ret ?_
   refine retV1 rfl (resV.tmp rfl) ?_
   have hx_ := OwnF.eqOf (xs := a) ho11 (fillG_full (by rw [f_a.len]; omega))
   have hy_ := ho11
   rw [hx_] at hy_
   obtain ⟨A_, c_, hz_⟩ := hy_.shape
   exact ⟨A_, c_, _, congrArg Ending.returned hz_, (St.keep1 hs12), hz_ ▸ hy_⟩
theorem c_laws_eqCellS (A_a : Option Addr) (n_a c_a : Nat) (a : List CellD) (A_b : Option Addr) (n_b c_b : Nat) (b : List CellD) (w : World) (f_a : SlF encCell w A_a n_a a) (f_b : SlF encCell w A_b n_b b) (hn : n_a ≤ 1099511627776) (hab : a = b) :
    Calls Try.prog 110 #[.slice A_a n_a c_a, .slice A_b n_b c_b] w fun e w' => e = .returned (.bool true) ∧ St w [] [] w' := by
 subst hab
 obtain rfl : n_a = n_b := f_a.len.symm.trans f_b.len
 refine enter (vs := [.slice A_a n_a c_a, .slice A_b n_a c_b]) 27 Try.func110 rfl Try.ntmps110 rfl rfl ?_
 have hs1 := St.init w
 refine WC.rr tbk hs1 [] rfl trivial ?_
 refine WC.seq (fun K2 hK2 => ?_)
 refine WC.rr tbk hs1 [] rfl trivial ?_
 refine WC.condF rfl (by simp) ?_
 refine WC.skip ?_
 refine hK2 _ _ ?_
 refine WC.seq (fun K4 hK4 => ?_)
 refine WC.rr tbk hs1 [] rfl trivial ?_
 refine WC.block ?_
 refine WC.loopS [(0, _), (1, _), (6, _), (7, _), (8, _), (9, _), (10, _)] ⟨rfl, rfl, rfl, rfl, rfl, rfl, rfl, trivial⟩ hs1 (fun k_ f w' => ∃ (i : Nat), k_ = n_a - i ∧ (i ≤ n_a) ∧ Sub [(5, .int .i64 i)] f) ((fun (i : Nat) => n_a - i) (0)) ?_ ?_
 ·refine ⟨0, rfl, ?_, ⟨rfl, trivial⟩⟩
  · exact Nat.zero_le _
 ·clear hs1
  rintro _ f w ⟨i, rfl, p0, hG⟩ hF hs5
  refine WC.sub _ (hG.app hF) ?_
  clear hG hF
  refine WC.seq (fun K6 hK6 => ?_)
  refine WC.rr tbk hs5 [] rfl trivial ?_
  refine WC.cD rfl (fun qh7 => ?_) (fun qh7 => ?_)
  ·refine WC.skip ?_
   refine hK6 _ _ ?_
   refine WC.seq (fun K8 hK8 => ?_)
   refine WC.block ?_
   refine WC.sq hs5 mixed (by kernel_rfl) ?_
   refine WQ.run tbk 2 [] rfl trivial ?_
   refine WQ.val rfl rfl rfl (fun w_ hs_ => (Run.idxN Try.runUnderlying41 Try.sizeOf152 rfl rfl rfl ?_ ?_ ?_)) ?_
   · exact SlF.some_ (SlF.st0 f_a (hs_ : St _ _ _ _))
   · omega
   · omega
   refine WQ.val rfl rfl rfl (fun w_ hs_ => (Run.loadA Try.isAgg152 Try.sizeOf152 rfl rfl (SlF.whole (SlF.st0 f_a (hs_ : St _ _ _ _)) ?_))) ?_
   · omega
   refine WQ.run tbk 2 [] rfl trivial ?_
   refine WQ.val rfl rfl rfl (fun w_ hs_ => (Run.idxN Try.runUnderlying41 Try.sizeOf152 rfl rfl rfl ?_ ?_ ?_)) ?_
   · exact SlF.some_ (SlF.st0 f_b (hs_ : St _ _ _ _))
   · omega
   · omega
   refine WQ.val rfl rfl rfl (fun w_ hs_ => (Run.loadA Try.isAgg152 Try.sizeOf152 rfl rfl (SlF.whole (SlF.st0 f_b (hs_ : St _ _ _ _)) ?_))) ?_
   · omega
   refine WQ.call rfl rfl rfl (fun w_ hs_ => (Run.call Try.call122 rfl rfl rfl)) (fun w_ hs_ => (c_laws_eqCell _ _ _ _ _ _ _ _ _ _ _ _ _ ?_).mono fun e_ w_ h_ => ⟨h_.1, (hs_ : St _ _ _ _).call0 h_.2⟩) ?_
   · first | assumption | rfl | omega
   refine WQ.run tbk 1 [] rfl trivial ?_
   refine WQ.nil (fun _ (hs9 : St _ _ _ _) => ?_)
   refine WC.condF rfl (by simp) ?_
   refine WC.skip ?_
   refine hK8 _ _ ?_
   refine WC.region ?_
   refine WL.run tbk 3 hs9 [] rfl ⟨by omega, trivial⟩ ?_
   refine WL.nil ?_
   refine tkN ?_
   refine ⟨⟨rfl, rfl, rfl, rfl, rfl, rfl, rfl, trivial⟩, hs9, _, ?_, i + 1, rfl, ?_, ⟨rfl, trivial⟩⟩
   · omega
   · omega
  ·refine WC.exit ?_
   refine hK4 _ _ ?_
   refine WC.rr tbk hs5 [] rfl trivial ?_
   refine WC.ret ?_
   refine retV1 rfl (resV.tmp rfl) ?_
   refine ⟨congrArg Ending.returned ?_, hs5.nil⟩
   rfl
theorem c_laws_szCellS (A_a : Option Addr) (n_a c_a : Nat) (a : List CellD) (left : Int) (w : World) (f_a : SlF encCell w A_a n_a a) (h1 : 0 ≤ left) (h2 : left ≤ 1048576) (h3 : n_a ≤ 9223372036854775807) :
    Calls Try.prog 96 #[.slice A_a n_a c_a, i64 left] w fun e w' => e = .returned (.int .i64 (szR left n_a)) ∧ St w [] [] w' := by
 refine enter (vs := [.slice A_a n_a c_a, i64 left]) 12 Try.func96 rfl Try.ntmps96 rfl rfl ?_
 have hs1 := St.init w
 refine WC.rr tbk hs1 [] rfl trivial ?_
 refine WC.rr tbk hs1 [] rfl ⟨by omega, trivial⟩ ?_
 refine WC.seq (fun K2 hK2 => ?_)
 refine WC.rr tbk hs1 [] rfl trivial ?_
 refine WC.cD rfl (fun qh3 => ?_) (fun qh3 => ?_)
 ·refine WC.rr tbk hs1 [] rfl trivial ?_
  refine WC.ret ?_
  refine tkR ?_
  clear hK2
  refine retV1 rfl (resV.tmp rfl) ?_
  refine ⟨congrArg Ending.returned ?_, hs1.nil⟩
  simp only [szR]; rw [if_neg (by omega)]
 ·refine WC.skip ?_
  refine hK2 _ _ ?_
  refine WC.rr tbk hs1 [] rfl trivial ?_
  refine WC.ret ?_
  refine retV1 rfl (resV.tmp rfl) ?_
  refine ⟨congrArg Ending.returned ?_, hs1.nil⟩
  simp only [szR]; rw [if_pos (by omega)]
theorem c_laws_eqIntS (A_a : Option Addr) (n_a c_a : Nat) (a : List Int) (A_b : Option Addr) (n_b c_b : Nat) (b : List Int) (w : World) (f_a : SlF encI w A_a n_a a) (f_b : SlF encI w A_b n_b b) (hn : n_a ≤ 1099511627776) (hab : a = b) :
    Calls Try.prog 88 #[.slice A_a n_a c_a, .slice A_b n_b c_b] w fun e w' => e = .returned (.bool true) ∧ St w [] [] w' := by
 subst hab
 obtain rfl : n_a = n_b := f_a.len.symm.trans f_b.len
 refine enter (vs := [.slice A_a n_a c_a, .slice A_b n_a c_b]) 26 Try.func88 rfl Try.ntmps88 rfl rfl ?_
 have hs1 := St.init w
 refine WC.rr tbk hs1 [] rfl trivial ?_
 refine WC.seq (fun K2 hK2 => ?_)
 refine WC.rr tbk hs1 [] rfl trivial ?_
 refine WC.condF rfl (by simp) ?_
 refine WC.skip ?_
 refine hK2 _ _ ?_
 refine WC.seq (fun K4 hK4 => ?_)
 refine WC.rr tbk hs1 [] rfl trivial ?_
 refine WC.block ?_
 refine WC.loopS [(0, _), (1, _), (6, _), (7, _), (8, _), (9, _), (10, _)] ⟨rfl, rfl, rfl, rfl, rfl, rfl, rfl, trivial⟩ hs1 (fun k_ f w' => ∃ (i : Nat), k_ = n_a - i ∧ (i ≤ n_a) ∧ Sub [(5, .int .i64 i)] f) ((fun (i : Nat) => n_a - i) (0)) ?_ ?_
 ·refine ⟨0, rfl, ?_, ⟨rfl, trivial⟩⟩
  · exact Nat.zero_le _
 ·clear hs1
  rintro _ f w ⟨i, rfl, p0, hG⟩ hF hs5
  refine WC.sub _ (hG.app hF) ?_
  clear hG hF
  refine WC.seq (fun K6 hK6 => ?_)
  refine WC.rr tbk hs5 [] rfl trivial ?_
  refine WC.cD rfl (fun qh7 => ?_) (fun qh7 => ?_)
  ·refine WC.skip ?_
   refine hK6 _ _ ?_
   refine WC.seq (fun K8 hK8 => ?_)
   refine WC.block ?_
   refine WC.sq hs5 mixed (by kernel_rfl) ?_
   refine WQ.run tbk 2 [] rfl trivial ?_
   refine WQ.val rfl rfl rfl (fun w_ hs_ => (Run.idxN Try.runUnderlying22 Try.sizeOf3 rfl rfl rfl ?_ ?_ ?_)) ?_
   · exact SlF.some_ (SlF.st0 f_a (hs_ : St _ _ _ _))
   · omega
   · omega
   refine WQ.val rfl rfl rfl (fun w_ hs_ => (Run.load Try.isAgg3 rfl rfl (SlF.one1 (SlF.st0 f_a (hs_ : St _ _ _ _)) ?_ rfl))) ?_
   · omega
   refine WQ.run tbk 2 [] rfl trivial ?_
   refine WQ.val rfl rfl rfl (fun w_ hs_ => (Run.idxN Try.runUnderlying22 Try.sizeOf3 rfl rfl rfl ?_ ?_ ?_)) ?_
   · exact SlF.some_ (SlF.st0 f_b (hs_ : St _ _ _ _))
   · omega
   · omega
   refine WQ.val rfl rfl rfl (fun w_ hs_ => (Run.load Try.isAgg3 rfl rfl (SlF.one1 (SlF.st0 f_b (hs_ : St _ _ _ _)) ?_ rfl))) ?_
   · omega
   refine WQ.run tbk 1 [] rfl trivial ?_
   refine WQ.nil (fun _ (hs9 : St _ _ _ _) => ?_)
   refine WC.condF rfl (by simp) ?_
   refine WC.skip ?_
   refine hK8 _ _ ?_
   refine WC.region ?_
   refine WL.run tbk 3 hs9 [] rfl ⟨by omega, trivial⟩ ?_
   refine WL.nil ?_
   refine tkN ?_
   refine ⟨⟨rfl, rfl, rfl, rfl, rfl, rfl, rfl, trivial⟩, hs9, _, ?_, i + 1, rfl, ?_, ⟨rfl, trivial⟩⟩
   · omega
   · omega
  ·refine WC.exit ?_
   refine hK4 _ _ ?_
   refine WC.rr tbk hs5 [] rfl trivial ?_
   refine WC.ret ?_
   refine retV1 rfl (resV.tmp rfl) ?_
   refine ⟨congrArg Ending.returned ?_, hs5.nil⟩
   rfl
theorem c_laws_szIntS (A_a : Option Addr) (n_a c_a : Nat) (a : List Int) (left : Int) (w : World) (f_a : SlF encI w A_a n_a a) (h1 : 0 ≤ left) (h2 : left ≤ 1048576) (h3 : n_a ≤ 9223372036854775807) :
    Calls Try.prog 67 #[.slice A_a n_a c_a, i64 left] w fun e w' => e = .returned (.int .i64 (szR left n_a)) ∧ St w [] [] w' := by
 refine enter (vs := [.slice A_a n_a c_a, i64 left]) 12 Try.func67 rfl Try.ntmps67 rfl rfl ?_
 have hs1 := St.init w
 refine WC.rr tbk hs1 [] rfl trivial ?_
 refine WC.rr tbk hs1 [] rfl ⟨by omega, trivial⟩ ?_
 refine WC.seq (fun K2 hK2 => ?_)
 refine WC.rr tbk hs1 [] rfl trivial ?_
 refine WC.cD rfl (fun qh3 => ?_) (fun qh3 => ?_)
 ·refine WC.rr tbk hs1 [] rfl trivial ?_
  refine WC.ret ?_
  refine tkR ?_
  clear hK2
  refine retV1 rfl (resV.tmp rfl) ?_
  refine ⟨congrArg Ending.returned ?_, hs1.nil⟩
  simp only [szR]; rw [if_neg (by omega)]
 ·refine WC.skip ?_
  refine hK2 _ _ ?_
  refine WC.rr tbk hs1 [] rfl trivial ?_
  refine WC.ret ?_
  refine retV1 rfl (resV.tmp rfl) ?_
  refine ⟨congrArg Ending.returned ?_, hs1.nil⟩
  simp only [szR]; rw [if_pos (by omega)]
theorem c_laws_toIntS (A_a : Option Addr) (n_a c_a : Nat) (a : List Int) (w : World) (f_a : SlF encI w A_a n_a a) (hn : n_a ≤ 1099511627776) :
    Calls Try.prog 76 #[.slice A_a n_a c_a] w fun e w' => ∃ A c L1, e = .returned (.slice A (a).length c) ∧ St w [] L1 w' ∧ OwnF encI 3 (.slice A (a).length c) (a) L1 := by
 refine enter (vs := [.slice A_a n_a c_a]) 22 Try.func76 rfl Try.ntmps76 rfl rfl ?_
 have hs1 := St.init w
 refine WC.rr tbk hs1 [] rfl trivial ?_
 refine WC.sr ?_
 refine WL.run tbk 2 hs1 [] rfl trivial ?_
 refine WL.makeF (F := encI) hs1 Try.underlying22 info_3 rfl rfl rfl rfl rfl rfl rfl rfl rfl ?_ ?_ (fun A5 c6 L2 whs3 hs3 ho4 => ?_)
 · have e_ : Try.t3.bytes = 8 := rfl
   rw [e_]; omega
 · omega
 refine WL.run tbk 1 hs3 [] rfl trivial ?_
 refine WL.nil ?_
 refine WC.seq (fun K7 hK7 => ?_)
 refine WC.rr tbk hs3 [] rfl trivial ?_
 refine WC.block ?_
 refine WC.loopO [(0, _), (2, _), (5, _), (6, _), (7, _)] ⟨rfl, rfl, rfl, rfl, rfl, trivial⟩ hs3 (fun k_ f L_ => ∃ (i : Nat) (A8 : Option Addr) (c9 : Nat), k_ = n_a - i ∧ (i ≤ n_a) ∧ OwnF encI 3 (.slice A8 (n_a) c9) (fillG encI a i) L_ ∧ Sub [(3, .slice A8 (n_a) c9), (4, .int .i64 i)] f) (((fun (i : Nat) => n_a - i) (0))) ?_ ?_
 ·refine ⟨0, _, _, rfl, ?_, (fillG_zero f_a.len ▸ ho4), ⟨rfl, rfl, trivial⟩⟩
  · exact Nat.zero_le _
 ·clear hs3
  rintro _ f w L10 ⟨i, A8, c9, rfl, p0, ho11, hG⟩ hF hs12
  refine WC.sub _ (hG.app hF) ?_
  clear hG hF
  refine WC.seq (fun K13 hK13 => ?_)
  refine WC.rr tbk hs12 [] rfl trivial ?_
  refine WC.cond rfl (fun h14 => ?_) (fun h14 => ?_)
  ·have qh14 := h14
   try simp only [bf, within_iff, within_not] at qh14
   refine WC.skip ?_
   refine hK13 _ _ ?_
   refine WC.seq (fun K15 hK15 => ?_)
   refine WC.block ?_
   refine WC.region ?_
   refine WL.run tbk 4 hs12 [] rfl trivial ?_
   refine WL.val rfl rfl rfl (Run.idxN Try.runUnderlying22 Try.sizeOf3 rfl rfl rfl ?_ ?_ ?_) ?_
   · exact SlF.some_ (SlF.st0 f_a hs12)
   · omega
   · omega
   refine WL.val rfl rfl rfl (Run.load Try.isAgg3 rfl rfl (SlF.one1 (SlF.st0 f_a hs12) ?_ rfl)) ?_
   · omega
   refine WL.val rfl rfl rfl (Run.idxN Try.runUnderlying22 Try.sizeOf3 rfl rfl rfl ?_ ?_ ?_) ?_
   · exact SlF.some_ (SlF.ofOwn ho11 (fun p_ hp_ => (hs12.own p_ (List.mem_append_left _ hp_)).1))
   · omega
   · omega
   refine WL.storeF1 (x' := _) hs12 ho11 Try.sizeOf3 rfl rfl rfl rfl rfl rfl rfl rfl rfl ?_ rfl (fun L16 whs17 hs17 ho18 _ => ?_)
   · omega
   refine WL.nil ?_
   refine hK15 _ _ ?_
   refine WC.region ?_
   refine WL.run tbk 3 hs17 [] rfl ⟨by omega, trivial⟩ ?_
   refine WL.nil ?_
   refine tkN ?_
   rw [fillG_set (i := i) (by rw [f_a.len]; omega) (by simp) (by simp)] at ho18
   refine ⟨⟨rfl, rfl, rfl, rfl, rfl, trivial⟩, _, hs17, _, ?_, i + 1, _, _, rfl, ?_, ho18, ⟨rfl, rfl, trivial⟩⟩
   · omega
   · omega
  ·have qh14 := h14
   try simp only [bf, within_iff, within_not] at qh14
   refine WC.exit ?_
   refine hK7 _ _ ?_
   refine WC.rr tbk hs12 [] rfl trivial ?_
   refine WC.ret ?_
   refine retV1 rfl (resV.tmp rfl) ?_
   have hx_ := OwnF.eqOf (xs := a) ho11 (fillG_full (by rw [f_a.len]; omega))
   have hy_ := ho11
   rw [hx_] at hy_
   obtain ⟨A_, c_, hz_⟩ := hy_.shape
   exact ⟨A_, c_, _, congrArg Ending.returned hz_, (St.keep1 hs12), hz_ ▸ hy_⟩
theorem c_laws_szNodeS (A_a : Option Addr) (n_a c_a : Nat) (a : List NodeD) (left : Int) (w : World) (f_a : SlF encNode w A_a n_a a) (h1 : 0 ≤ left) (h2 : left ≤ 1048576) (h3 : n_a ≤ 9223372036854775807) :
    Calls Try.prog 93 #[.slice A_a n_a c_a, i64 left] w fun e w' => e = .returned (.int .i64 (szR left n_a)) ∧ St w [] [] w' := by
 refine enter (vs := [.slice A_a n_a c_a, i64 left]) 12 Try.func93 rfl Try.ntmps93 rfl rfl ?_
 have hs1 := St.init w
 refine WC.rr tbk hs1 [] rfl trivial ?_
 refine WC.rr tbk hs1 [] rfl ⟨by omega, trivial⟩ ?_
 refine WC.seq (fun K2 hK2 => ?_)
 refine WC.rr tbk hs1 [] rfl trivial ?_
 refine WC.cD rfl (fun qh3 => ?_) (fun qh3 => ?_)
 ·refine WC.rr tbk hs1 [] rfl trivial ?_
  refine WC.ret ?_
  refine tkR ?_
  clear hK2
  refine retV1 rfl (resV.tmp rfl) ?_
  refine ⟨congrArg Ending.returned ?_, hs1.nil⟩
  simp only [szR]; rw [if_neg (by omega)]
 ·refine WC.skip ?_
  refine hK2 _ _ ?_
  refine WC.rr tbk hs1 [] rfl trivial ?_
  refine WC.ret ?_
  refine retV1 rfl (resV.tmp rfl) ?_
  refine ⟨congrArg Ending.returned ?_, hs1.nil⟩
  simp only [szR]; rw [if_pos (by omega)]
theorem c_laws_toNode (a_Pane : Int) (a_Down : Bool) (a_First : Int) (w : World) :
    Calls Try.prog 112 #[.agg #[i64 a_Pane, .bool a_Down, i64 a_First]] w fun e w' => e = .returned (.agg #[i64 a_Pane, .bool a_Down, i64 a_First]) ∧ St w [] [] w' := by
 refine enter (vs := [.agg #[i64 a_Pane, .bool a_Down, i64 a_First]]) 14 Try.func112 rfl Try.ntmps112 rfl rfl ?_
 have hs1 := St.init w
 refine WC.sr ?_
 refine WL.bx hs1 rfl (fun b2 _ hs3 => ?_)
 refine WL.al hs3 Try.zeroValue164 rfl rfl (fun b4 _ hs5 => ?_)
 refine WL.nil ?_
 refine WC.sr ?_
 refine WL.al hs5 Try.zeroValue164 rfl rfl (fun b6 _ hs7 => ?_)
 refine WL.nil ?_
 refine WC.sr ?_
 refine WL.run tbk 3 hs7 [2] rfl ⟨rfl, trivial⟩ ?_
 refine WL.st tbk hs7 0 rfl rfl (fun _ hs8 => ?_)
 refine WL.nil ?_
 refine WC.sr ?_
 refine WL.run tbk 3 hs8 [2] rfl ⟨rfl, trivial⟩ ?_
 refine WL.st tbk hs8 0 rfl rfl (fun _ hs9 => ?_)
 refine WL.nil ?_
 refine WC.sr ?_
 refine WL.run tbk 3 hs9 [2] rfl ⟨rfl, trivial⟩ ?_
 refine WL.st tbk hs9 0 rfl rfl (fun _ hs10 => ?_)
 refine WL.nil ?_
 refine WC.sr ?_
 refine WL.run tbk 1 hs10 [0] rfl ⟨rfl, trivial⟩ ?_
 refine WL.st tbk hs10 1 rfl rfl (fun _ hs11 => ?_)
 refine WL.nil ?_
 refine WC.ret ?_
 refine retV1 rfl (resV.cellA tbk hs11 1 rfl rfl rfl rfl) ?_
 refine ⟨congrArg Ending.returned ?_, hs11.nil⟩
 rfl
theorem c_laws_eqNode (a_Pane : Int) (a_Down : Bool) (a_First : Int) (b_Pane : Int) (b_Down : Bool) (b_First : Int) (w : World) (hab : (⟨a_Pane, a_Down, a_First⟩ : NodeD) = (⟨b_Pane, b_Down, b_First⟩ : NodeD)) :
    Calls Try.prog 113 #[.agg #[i64 a_Pane, .bool a_Down, i64 a_First], .agg #[i64 b_Pane, .bool b_Down, i64 b_First]] w fun e w' => e = .returned (.bool true) ∧ St w [] [] w' := by
 cases hab
 refine enter (vs := [.agg #[i64 a_Pane, .bool a_Down, i64 a_First], .agg #[i64 a_Pane, .bool a_Down, i64 a_First]]) 20 Try.func113 rfl Try.ntmps113 rfl rfl ?_
 have hs1 := St.init w
 refine WC.sr ?_
 refine WL.bx hs1 rfl (fun b2 _ hs3 => ?_)
 refine WL.bx hs3 rfl (fun b4 _ hs5 => ?_)
 refine WL.run tbk 1 hs5 [] rfl trivial ?_
 refine WL.nil ?_
 refine WC.seq (fun K6 hK6 => ?_)
 refine WC.rr tbk hs5 [1, 0] rfl ⟨rfl, rfl, trivial⟩ ?_
 refine WC.condF rfl (by simp) ?_
 refine WC.skip ?_
 refine hK6 _ _ ?_
 refine WC.seq (fun K8 hK8 => ?_)
 refine WC.rr tbk hs5 [1, 0] rfl ⟨rfl, rfl, trivial⟩ ?_
 refine WC.condF rfl (by simp) ?_
 refine WC.skip ?_
 refine hK8 _ _ ?_
 refine WC.seq (fun K10 hK10 => ?_)
 refine WC.rr tbk hs5 [1, 0] rfl ⟨rfl, rfl, trivial⟩ ?_
 refine WC.condF rfl (by simp) ?_
 refine WC.skip ?_
 refine hK10 _ _ ?_
 refine WC.rr tbk hs5 [] rfl trivial ?_
 refine WC.ret ?_
 refine retV1 rfl (resV.tmp rfl) ?_
 refine ⟨congrArg Ending.returned ?_, hs5.nil⟩
 rfl
theorem c_laws_toNodeS (A_a : Option Addr) (n_a c_a : Nat) (a : List NodeD) (w : World) (f_a : SlF encNode w A_a n_a a) (hn : n_a ≤ 1099511627776) :
    Calls Try.prog 94 #[.slice A_a n_a c_a] w fun e w' => ∃ A c L1, e = .returned (.slice A (a).length c) ∧ St w [] L1 w' ∧ OwnF encNode 164 (.slice A (a).length c) (a) L1 := by
 refine enter (vs := [.slice A_a n_a c_a]) 23 Try.func94 rfl Try.ntmps94 rfl rfl ?_
 have hs1 := St.init w
 refine WC.rr tbk hs1 [] rfl trivial ?_
 refine WC.sr ?_
 refine WL.run tbk 2 hs1 [] rfl trivial ?_
 refine WL.makeF (F := encNode) hs1 Try.underlying93 info_164 rfl rfl rfl rfl rfl rfl rfl rfl rfl ?_ ?_ (fun A5 c6 L2 whs3 hs3 ho4 => ?_)
 · have e_ : Try.t164.bytes = 24 := rfl
   rw [e_]; omega
 · omega
 refine WL.run tbk 1 hs3 [] rfl trivial ?_
 refine WL.nil ?_
 refine WC.seq (fun K7 hK7 => ?_)
 refine WC.rr tbk hs3 [] rfl trivial ?_
 refine WC.block ?_
 refine WC.loopO [(0, _), (2, _), (5, _), (6, _), (7, _)] ⟨rfl, rfl, rfl, rfl, rfl, trivial⟩ hs3 (fun k_ f L_ => ∃ (i : Nat) (A8 : Option Addr) (c9 : Nat), k_ = n_a - i ∧ (i ≤ n_a) ∧ OwnF encNode 164 (.slice A8 (n_a) c9) (fillG encNode a i) L_ ∧ Sub [(3, .slice A8 (n_a) c9), (4, .int .i64 i)] f) (((fun (i : Nat) => n_a - i) (0))) ?_ ?_
 ·refine ⟨0, _, _, rfl, ?_, (fillG_zero f_a.len ▸ ho4), ⟨rfl, rfl, trivial⟩⟩
  · exact Nat.zero_le _
 ·clear hs3
  rintro _ f w L10 ⟨i, A8, c9, rfl, p0, ho11, hG⟩ hF hs12
  refine WC.sub _ (hG.app hF) ?_
  clear hG hF
  refine WC.seq (fun K13 hK13 => ?_)
  refine WC.rr tbk hs12 [] rfl trivial ?_
  refine WC.cond rfl (fun h14 => ?_) (fun h14 => ?_)
  ·have qh14 := h14
   try simp only [bf, within_iff, within_not] at qh14
   refine WC.skip ?_
   refine hK13 _ _ ?_
   refine WC.seq (fun K15 hK15 => ?_)
   refine WC.block ?_
   refine WC.region ?_
   refine WL.run tbk 4 hs12 [] rfl trivial ?_
   refine WL.val rfl rfl rfl (Run.idxN Try.runUnderlying108 Try.sizeOf166 rfl rfl rfl ?_ ?_ ?_) ?_
   · exact SlF.some_ (SlF.st0 f_a hs12)
   · omega
   · omega
   refine WL.val rfl rfl rfl (Run.loadA Try.isAgg166 Try.sizeOf166 rfl rfl (SlF.whole (SlF.st0 f_a hs12) ?_)) ?_
   · omega
   refine WL.call rfl rfl rfl (Run.call Try.call112 rfl rfl rfl) (c_laws_toNode _ _ _ _) ?_
   rintro _ whs16 ⟨rfl, hs16⟩
   replace hs16 := hs12.call0 hs16
   refine ⟨_, rfl, ?_⟩
   refine WL.val rfl rfl rfl (Run.idxN Try.runUnderlying93 Try.sizeOf164 rfl rfl rfl ?_ ?_ ?_) ?_
   · exact SlF.some_ (SlF.ofOwn ho11 (fun p_ hp_ => (hs16.own p_ (List.mem_append_left _ hp_)).1))
   · omega
   · omega
   refine WL.storeF1 (x' := _) hs16 ho11 Try.sizeOf164 rfl rfl rfl rfl rfl rfl rfl rfl rfl ?_ rfl (fun L17 whs18 hs18 ho19 _ => ?_)
   · omega
   refine WL.nil ?_
   refine hK15 _ _ ?_
   refine WC.region ?_
   refine WL.run tbk 3 hs18 [] rfl ⟨by omega, trivial⟩ ?_
   refine WL.nil ?_
   refine tkN ?_
   rw [fillG_set (i := i) (by rw [f_a.len]; omega) (by simp) (by simp)] at ho19
   refine ⟨⟨rfl, rfl, rfl, rfl, rfl, trivial⟩, _, hs18, _, ?_, i + 1, _, _, rfl, ?_, ho19, ⟨rfl, rfl, trivial⟩⟩
   · omega
   · omega
  ·have qh14 := h14
   try simp only [bf, within_iff, within_not] at qh14
   refine WC.exit ?_
   refine hK7 _ _ ?_
   refine WC.rr tbk hs12 [] rfl trivial ?_
   refine WC.ret ?_
   refine retV1 rfl (resV.tmp rfl) ?_
   have hx_ := OwnF.eqOf (xs := a) ho11 (fillG_full (by rw [f_a.len]; omega))
   have hy_ := ho11
   rw [hx_] at hy_
   obtain ⟨A_, c_, hz_⟩ := hy_.shape
   exact ⟨A_, c_, _, congrArg Ending.returned hz_, (St.keep1 hs12), hz_ ▸ hy_⟩
theorem c_laws_eqNodeS (A_a : Option Addr) (n_a c_a : Nat) (a : List NodeD) (A_b : Option Addr) (n_b c_b : Nat) (b : List NodeD) (w : World) (f_a : SlF encNode w A_a n_a a) (f_b : SlF encNode w A_b n_b b) (hn : n_a ≤ 1099511627776) (hab : a = b) :
    Calls Try.prog 95 #[.slice A_a n_a c_a, .slice A_b n_b c_b] w fun e w' => e = .returned (.bool true) ∧ St w [] [] w' := by
 subst hab
 obtain rfl : n_a = n_b := f_a.len.symm.trans f_b.len
 refine enter (vs := [.slice A_a n_a c_a, .slice A_b n_a c_b]) 27 Try.func95 rfl Try.ntmps95 rfl rfl ?_
 have hs1 := St.init w
 refine WC.rr tbk hs1 [] rfl trivial ?_
 refine WC.seq (fun K2 hK2 => ?_)
 refine WC.rr tbk hs1 [] rfl trivial ?_
 refine WC.condF rfl (by simp) ?_
 refine WC.skip ?_
 refine hK2 _ _ ?_
 refine WC.seq (fun K4 hK4 => ?_)
 refine WC.rr tbk hs1 [] rfl trivial ?_
 refine WC.block ?_
 refine WC.loopS [(0, _), (1, _), (6, _), (7, _), (8, _), (9, _), (10, _)] ⟨rfl, rfl, rfl, rfl, rfl, rfl, rfl, trivial⟩ hs1 (fun k_ f w' => ∃ (i : Nat), k_ = n_a - i ∧ (i ≤ n_a) ∧ Sub [(5, .int .i64 i)] f) ((fun (i : Nat) => n_a - i) (0)) ?_ ?_
 ·refine ⟨0, rfl, ?_, ⟨rfl, trivial⟩⟩
  · exact Nat.zero_le _
 ·clear hs1
  rintro _ f w ⟨i, rfl, p0, hG⟩ hF hs5
  refine WC.sub _ (hG.app hF) ?_
  clear hG hF
  refine WC.seq (fun K6 hK6 => ?_)
  refine WC.rr tbk hs5 [] rfl trivial ?_
  refine WC.cD rfl (fun qh7 => ?_) (fun qh7 => ?_)
  ·refine WC.skip ?_
   refine hK6 _ _ ?_
   refine WC.seq (fun K8 hK8 => ?_)
   refine WC.block ?_
   refine WC.sq hs5 mixed (by kernel_rfl) ?_
   refine WQ.run tbk 2 [] rfl trivial ?_
   refine WQ.val rfl rfl rfl (fun w_ hs_ => (Run.idxN Try.runUnderlying93 Try.sizeOf164 rfl rfl rfl ?_ ?_ ?_)) ?_
   · exact SlF.some_ (SlF.st0 f_a (hs_ : St _ _ _ _))
   · omega
   · omega
   refine WQ.val rfl rfl rfl (fun w_ hs_ => (Run.loadA Try.isAgg164 Try.sizeOf164 rfl rfl (SlF.whole (SlF.st0 f_a (hs_ : St _ _ _ _)) ?_))) ?_
   · omega
   refine WQ.run tbk 2 [] rfl trivial ?_
   refine WQ.val rfl rfl rfl (fun w_ hs_ => (Run.idxN Try.runUnderlying93 Try.sizeOf164 rfl rfl rfl ?_ ?_ ?_)) ?_
   · exact SlF.some_ (SlF.st0 f_b (hs_ : St _ _ _ _))
   · omega
   · omega
   refine WQ.val rfl rfl rfl (fun w_ hs_ => (Run.loadA Try.isAgg164 Try.sizeOf164 rfl rfl (SlF.whole (SlF.st0 f_b (hs_ : St _ _ _ _)) ?_))) ?_
   · omega
   refine WQ.call rfl rfl rfl (fun w_ hs_ => (Run.call Try.call113 rfl rfl rfl)) (fun w_ hs_ => (c_laws_eqNode _ _ _ _ _ _ _ ?_).mono fun e_ w_ h_ => ⟨h_.1, (hs_ : St _ _ _ _).call0 h_.2⟩) ?_
   · first | assumption | rfl | omega
   refine WQ.run tbk 1 [] rfl trivial ?_
   refine WQ.nil (fun _ (hs9 : St _ _ _ _) => ?_)
   refine WC.condF rfl (by simp) ?_
   refine WC.skip ?_
   refine hK8 _ _ ?_
   refine WC.region ?_
   refine WL.run tbk 3 hs9 [] rfl ⟨by omega, trivial⟩ ?_
   refine WL.nil ?_
   refine tkN ?_
   refine ⟨⟨rfl, rfl, rfl, rfl, rfl, rfl, rfl, trivial⟩, hs9, _, ?_, i + 1, rfl, ?_, ⟨rfl, trivial⟩⟩
   · omega
   · omega
  ·refine WC.exit ?_
   refine hK4 _ _ ?_
   refine WC.rr tbk hs5 [] rfl trivial ?_
   refine WC.ret ?_
   refine retV1 rfl (resV.tmp rfl) ?_
   refine ⟨congrArg Ending.returned ?_, hs5.nil⟩
   rfl
end Go.Proofs.Ytmkgffhdbagmjaa
