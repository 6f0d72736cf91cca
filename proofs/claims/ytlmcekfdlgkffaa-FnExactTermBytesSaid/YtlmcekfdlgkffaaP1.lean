/- Walks of Go functions, printed by a program (wip/gen). -/
import Derived.Test.YtlmcekfdlgkffaaM7
import Derived.Test.YtlmcekfdlgkffaaH3
import Derived.Test.YtlmcekfdlgkffaaK1
namespace Go.Proofs.Ytlmcekfdlgkffaa
open Go Go.RowKit
set_option linter.unusedVariables false
set_option linter.unusedSimpArgs false
theorem c_impl_tails (A_b : Option Addr) (n_b c_b : Nat) (b : List UInt8) (w : World) (f_b : SlF encB w A_b n_b b) (hn : n_b ≤ 2) :
    Calls Try.prog 183 #[.slice A_b n_b c_b] w fun e w' => e = .returned (.tuple #[.int .i64 (tlV b : Nat), .bool (tlOk b)]) ∧ St w [] [] w' := by
 have hbl := f_b.len
 refine enter (vs := [.slice A_b n_b c_b]) 24 Try.func183 rfl Try.ntmps183 rfl rfl ?_
 have hs1 := St.init w
 refine WC.rr tbk hs1 [] rfl trivial ?_
 refine WC.rr tbk hs1 [] rfl trivial ?_
 refine WC.seq (fun K2 hK2 => ?_)
 refine WC.rr tbk hs1 [] rfl trivial ?_
 refine WC.block ?_
 refine WC.loopS [(7, _), (8, _)] ⟨rfl, rfl, trivial⟩ hs1 (fun k_ f w' => ∃ (i : Nat), k_ = n_b - i ∧ (i ≤ n_b) ∧ (tlOk (b.take i) = true) ∧ Sub [(9, .int .i64 i), (4, .int .i64 (tlN (b.take i) : Nat))] f) ((fun (i : Nat) => n_b - i) (0)) ?_ ?_
 ·refine ⟨0, rfl, ?_, ?_, ⟨rfl, ?_, trivial⟩⟩
  · exact Nat.zero_le _
  · rfl
  · rfl
 ·clear hs1
  rintro _ f w ⟨i, rfl, p0, p1, hG⟩ hF hs3
  refine WC.sub _ (hG.app hF) ?_
  clear hG hF
  have hb_ := tlN_bnd (l := b.take i) (by rw [List.length_take]; omega)
  simp only [List.length_take] at hb_
  refine WC.rr tbk hs3 [] rfl trivial ?_
  refine WC.seq (fun K4 hK4 => ?_)
  refine WC.cD rfl (fun qh5 => ?_) (fun qh5 => ?_)
  ·refine WC.skip ?_
   refine hK4 _ _ ?_
   refine WC.seq (fun K6 hK6 => ?_)
   refine WC.block ?_
   refine WC.sr ?_
   refine WL.val rfl rfl rfl (Run.idxN Try.runUnderlying23 Try.sizeOf5 rfl rfl rfl ?_ ?_ ?_) ?_
   · exact SlF.some_ (SlF.st0 f_b hs3)
   · omega
   · omega
   refine WL.val rfl rfl rfl (Run.load Try.isAgg5 rfl rfl (SlF.one1 (SlF.st0 f_b hs3) ?_ rfl)) ?_
   · omega
   refine WL.run tbk 1 hs3 [] rfl trivial ?_
   refine WL.nil ?_
   refine WC.seq (fun K7 hK7 => ?_)
   refine WC.sr ?_
   refine WL.run tbk 1 hs3 [] rfl trivial ?_
   refine WL.val rfl rfl rfl (Run.quoB 64 rfl rfl rfl ?_ ?_) ?_
   · decide
   · decide
   refine WL.run tbk 1 hs3 [] rfl trivial ?_
   refine WL.nil ?_
   refine WC.cN rfl (fun qh8 => ?_) (fun qh8 => ?_)
   ·refine WC.rr tbk hs3 [] rfl trivial ?_
    refine WC.ret ?_
    refine tkR (ibR (tkR (tkR (ibR (tkR ?_)))))
    clear hK7 hK6 hK2
    refine retV2 rfl (resV.tmp rfl) (resV.tmp rfl) ?_
    refine ⟨congrArg Ending.returned ?_, hs3.nil⟩
    simp only [u8_div] at qh8
    have hbad := tlOk_bad (l := b) (i := i) (by omega) (by omega)
    rw [hbad, show tlV b = 0 from if_neg (by rw [hbad]; decide)]; rfl
   ·refine WC.skip ?_
    refine hK7 _ _ ?_
    refine WC.region ?_
    refine WL.run tbk 3 hs3 [] rfl ⟨?_, trivial⟩ ?_
    · constructor <;> omega
    refine WL.val rfl rfl rfl (Run.remB 64 rfl rfl rfl ?_ ?_) ?_
    · decide
    · decide
    refine WL.run tbk 3 hs3 [] rfl ⟨?_, (u8_in _), trivial⟩ ?_
    · rw [u8_mod]; constructor <;> omega
    refine WL.nil ?_
    refine hK6 _ _ ?_
    refine WC.region ?_
    refine WL.run tbk 2 hs3 [] rfl ⟨by omega, trivial⟩ ?_
    refine WL.nil ?_
    refine tkN ?_
    refine ⟨⟨rfl, rfl, trivial⟩, hs3, _, ?_, i + 1, rfl, ?_, ?_, ⟨rfl, ?_, trivial⟩⟩
    · omega
    · omega
    · simp only [u8_div] at qh8; rw [tlOk_take (by omega), p1, Bool.true_and, decide_eq_true_eq]; omega
    · refine congrArg some (congrArg (Value.int _) ?_); rw [tlN_take (by omega), u8_mod]; omega
  ·refine WC.exit ?_
   refine hK2 _ _ ?_
   refine WC.rr tbk hs3 [] rfl trivial ?_
   refine WC.ret ?_
   refine retV2 rfl (resV.tmp rfl) (resV.tmp rfl) ?_
   refine ⟨congrArg Ending.returned ?_, hs3.nil⟩
   have ht : b.take i = b := List.take_of_length_le (by omega)
   rw [ht] at p1
   rw [p1, ht, show tlV b = tlN b from if_pos p1]
theorem c_impl_RuneBytes (r : Int) (w : World) :
    Calls Try.prog 61 #[i64 r] w fun e w' => ∃ A c L1, e = .returned (.slice A (runeB r).length c) ∧ St w [] L1 w' ∧ OwnF encB 5 (.slice A (runeB r).length c) (runeB r) L1 := by
 refine enter (vs := [i64 r]) 39 Try.func61 rfl Try.ntmps61 rfl rfl ?_
 have hs1 := St.init w
 refine WC.rr tbk hs1 [] rfl trivial ?_
 refine WC.seq (fun K2 hK2 => ?_)
 refine WC.block ?_
 refine WC.sr ?_
 refine WL.run tbk 1 hs1 [] rfl trivial ?_
 refine WL.call rfl rfl rfl (Run.call Try.call119 rfl rfl rfl) (c_impl_Shows _ _) ?_
 rintro _ whs3 ⟨rfl, hs3⟩
 replace hs3 := hs1.call0 hs3
 refine ⟨_, rfl, ?_⟩
 refine WL.run tbk 2 hs3 [] rfl trivial ?_
 refine WL.nil ?_
 refine WC.cond rfl (fun h4 => ?_) (fun h4 => ?_)
 ·have qh4 := h4
  try simp only [bf, within_iff, within_not] at qh4
  have hsh : shows r = false := by simpa using qh4
  refine WC.rr tbk hs3 [] rfl trivial ?_
  refine WC.ret ?_
  refine ibR (tkR ?_)
  clear hK2
  refine retV1 rfl (resV.tmp rfl) ?_
  have hx_ := OwnF.eqOf (xs := runeB r) (OwnF.nil encB 5) (by simp [runeB, hsh])
  rw [← hx_]
  exact ⟨_, _, _, rfl, hs3.nil, (OwnF.nil encB 5)⟩
 ·have qh4 := h4
  try simp only [bf, within_iff, within_not] at qh4
  have hsh : shows r = true := by simpa using qh4
  have hsi := shows_iff.1 hsh
  refine WC.rr tbk hs3 [] rfl trivial ?_
  refine WC.cD rfl (fun qh5 => ?_) (fun qh5 => ?_)
  ·refine WC.sr ?_
   refine WL.run tbk 2 hs3 [] rfl trivial ?_
   refine WL.buildF (F := encB) hs3 ([ub r]) Try.runUnderlying23 Try.sizeOf5 Try.zeroValue5 rfl rfl rfl rfl rfl rfl rfl rfl rfl rfl rfl rfl (fun A9 c10 L6 whs7 hs7 ho8 => ?_)
   refine WL.run tbk 1 hs7 [] rfl trivial ?_
   refine WL.nil ?_
   refine WC.ret ?_
   refine ibR (tkR ?_)
   clear hK2
   refine retV1 rfl (resV.tmp rfl) ?_
   have hx_ := OwnF.eqOf (xs := runeB r) ho8 (by unfold runeB; rw [hsh, if_neg (by decide), if_pos (by omega)])
   rw [← hx_]
   first | exact ⟨_, _, _, rfl, (St.keep1 hs7), ho8⟩ | exact ⟨A9, c10, _, by rw [OwnF.len_ ho8], (St.keep1 hs7), by rw [OwnF.len_ ho8]; exact ho8⟩
  ·refine WC.rr tbk hs3 [] rfl trivial ?_
   refine WC.cD rfl (fun qh11 => ?_) (fun qh11 => ?_)
   ·refine WC.sr ?_
    refine WL.run tbk 1 hs3 [] rfl trivial ?_
    refine WL.val rfl rfl rfl (Run.quo rfl rfl rfl ?_ ?_ ?_) ?_
    · omega
    · omega
    · omega
    refine WL.run tbk 3 hs3 [] rfl ⟨by omega, trivial⟩ ?_
    refine WL.val rfl rfl rfl (Run.rem rfl rfl rfl ?_ ?_) ?_
    · omega
    · omega
    refine WL.run tbk 2 hs3 [] rfl ⟨by omega, trivial⟩ ?_
    refine WL.buildF (F := encB) hs3 ([ub (192 + r / 64), ub (128 + r % 64)]) Try.runUnderlying23 Try.sizeOf5 Try.zeroValue5 rfl rfl rfl rfl rfl rfl rfl rfl rfl rfl rfl rfl (fun A15 c16 L12 whs13 hs13 ho14 => ?_)
    refine WL.run tbk 1 hs13 [] rfl trivial ?_
    refine WL.nil ?_
    refine WC.ret ?_
    refine ibR (tkR ?_)
    clear hK2
    refine retV1 rfl (resV.tmp rfl) ?_
    have hx_ := OwnF.eqOf (xs := runeB r) ho14 (by unfold runeB; rw [hsh, if_neg (by decide), if_neg (by omega), if_pos (by omega)])
    rw [← hx_]
    first | exact ⟨_, _, _, rfl, (St.keep1 hs13), ho14⟩ | exact ⟨A15, c16, _, by rw [OwnF.len_ ho14], (St.keep1 hs13), by rw [OwnF.len_ ho14]; exact ho14⟩
   ·refine WC.skip ?_
    refine hK2 _ _ ?_
    refine WC.sr ?_
    refine WL.run tbk 1 hs3 [] rfl trivial ?_
    refine WL.val rfl rfl rfl (Run.quo rfl rfl rfl ?_ ?_ ?_) ?_
    · omega
    · omega
    · omega
    refine WL.run tbk 3 hs3 [] rfl ⟨by omega, trivial⟩ ?_
    refine WL.val rfl rfl rfl (Run.quo rfl rfl rfl ?_ ?_ ?_) ?_
    · omega
    · omega
    · omega
    refine WL.val rfl rfl rfl (Run.rem rfl rfl rfl ?_ ?_) ?_
    · omega
    · omega
    refine WL.run tbk 3 hs3 [] rfl ⟨by omega, trivial⟩ ?_
    refine WL.val rfl rfl rfl (Run.rem rfl rfl rfl ?_ ?_) ?_
    · omega
    · omega
    refine WL.run tbk 2 hs3 [] rfl ⟨by omega, trivial⟩ ?_
    refine WL.buildF (F := encB) hs3 ([ub (224 + r / 4096), ub (128 + r / 64 % 64), ub (128 + r % 64)]) Try.runUnderlying23 Try.sizeOf5 Try.zeroValue5 rfl rfl rfl rfl rfl rfl rfl rfl rfl rfl rfl rfl (fun A20 c21 L17 whs18 hs18 ho19 => ?_)
    refine WL.run tbk 1 hs18 [] rfl trivial ?_
    refine WL.nil ?_
    refine WC.ret ?_
    refine retV1 rfl (resV.tmp rfl) ?_
    have hx_ := OwnF.eqOf (xs := runeB r) ho19 (by unfold runeB; rw [hsh, if_neg (by decide), if_neg (by omega), if_neg (by omega)])
    rw [← hx_]
    first | exact ⟨_, _, _, rfl, (St.keep1 hs18), ho19⟩ | exact ⟨A20, c21, _, by rw [OwnF.len_ ho19], (St.keep1 hs18), by rw [OwnF.len_ ho19]; exact ho19⟩
theorem c_spec_RuneBytes (r : Int) (w : World) :
    Calls Try.prog 182 #[i64 r] w fun e w' => ∃ A c L1, e = .returned (.slice A (runeB r).length c) ∧ St w [] L1 w' ∧ OwnF encB 5 (.slice A (runeB r).length c) (runeB r) L1 := by
 refine enter (vs := [i64 r]) 36 Try.func182 rfl Try.ntmps182 rfl rfl ?_
 have hs1 := St.init w
 refine WC.rr tbk hs1 [] rfl trivial ?_
 refine WC.seq (fun K2 hK2 => ?_)
 refine WC.sr ?_
 refine WL.run tbk 1 hs1 [] rfl trivial ?_
 refine WL.call rfl rfl rfl (Run.call Try.call192 rfl rfl rfl) (c_spec_Shows _ _) ?_
 rintro _ whs3 ⟨rfl, hs3⟩
 replace hs3 := hs1.call0 hs3
 refine ⟨_, rfl, ?_⟩
 refine WL.run tbk 1 hs3 [] rfl trivial ?_
 refine WL.nil ?_
 refine WC.cond rfl (fun h4 => ?_) (fun h4 => ?_)
 ·have qh4 := h4
  try simp only [bf, within_iff, within_not] at qh4
  have hsh : shows r = false := by simpa using qh4
  refine WC.rr tbk hs3 [] rfl trivial ?_
  refine WC.ret ?_
  refine tkR ?_
  clear hK2
  refine retV1 rfl (resV.tmp rfl) ?_
  have hx_ := OwnF.eqOf (xs := runeB r) (OwnF.nil encB 5) (by simp [runeB, hsh])
  rw [← hx_]
  exact ⟨_, _, _, rfl, hs3.nil, (OwnF.nil encB 5)⟩
 ·have qh4 := h4
  try simp only [bf, within_iff, within_not] at qh4
  have hsh : shows r = true := by simpa using qh4
  have hsi := shows_iff.1 hsh
  refine WC.skip ?_
  refine hK2 _ _ ?_
  refine WC.seq (fun K5 hK5 => ?_)
  refine WC.rr tbk hs3 [] rfl trivial ?_
  refine WC.cD rfl (fun qh6 => ?_) (fun qh6 => ?_)
  ·refine WC.sr ?_
   refine WL.run tbk 2 hs3 [] rfl trivial ?_
   refine WL.buildF (F := encB) hs3 ([ub r]) Try.runUnderlying23 Try.sizeOf5 Try.zeroValue5 rfl rfl rfl rfl rfl rfl rfl rfl rfl rfl rfl rfl (fun A10 c11 L7 whs8 hs8 ho9 => ?_)
   refine WL.run tbk 1 hs8 [] rfl trivial ?_
   refine WL.nil ?_
   refine WC.ret ?_
   refine tkR ?_
   clear hK5
   refine retV1 rfl (resV.tmp rfl) ?_
   have hx_ := OwnF.eqOf (xs := runeB r) ho9 (by unfold runeB; rw [hsh, if_neg (by decide), if_pos (by omega)])
   rw [← hx_]
   first | exact ⟨_, _, _, rfl, (St.keep1 hs8), ho9⟩ | exact ⟨A10, c11, _, by rw [OwnF.len_ ho9], (St.keep1 hs8), by rw [OwnF.len_ ho9]; exact ho9⟩
  ·refine WC.skip ?_
   refine hK5 _ _ ?_
   refine WC.seq (fun K12 hK12 => ?_)
   refine WC.rr tbk hs3 [] rfl trivial ?_
   refine WC.cD rfl (fun qh13 => ?_) (fun qh13 => ?_)
   ·refine WC.sr ?_
    refine WL.run tbk 1 hs3 [] rfl trivial ?_
    refine WL.val rfl rfl rfl (Run.quo rfl rfl rfl ?_ ?_ ?_) ?_
    · omega
    · omega
    · omega
    refine WL.run tbk 3 hs3 [] rfl ⟨by omega, trivial⟩ ?_
    refine WL.val rfl rfl rfl (Run.rem rfl rfl rfl ?_ ?_) ?_
    · omega
    · omega
    refine WL.run tbk 2 hs3 [] rfl ⟨by omega, trivial⟩ ?_
    refine WL.buildF (F := encB) hs3 ([ub (192 + r / 64), ub (128 + r % 64)]) Try.runUnderlying23 Try.sizeOf5 Try.zeroValue5 rfl rfl rfl rfl rfl rfl rfl rfl rfl rfl rfl rfl (fun A17 c18 L14 whs15 hs15 ho16 => ?_)
    refine WL.run tbk 1 hs15 [] rfl trivial ?_
    refine WL.nil ?_
    refine WC.ret ?_
    refine tkR ?_
    clear hK12
    refine retV1 rfl (resV.tmp rfl) ?_
    have hx_ := OwnF.eqOf (xs := runeB r) ho16 (by unfold runeB; rw [hsh, if_neg (by decide), if_neg (by omega), if_pos (by omega)])
    rw [← hx_]
    first | exact ⟨_, _, _, rfl, (St.keep1 hs15), ho16⟩ | exact ⟨A17, c18, _, by rw [OwnF.len_ ho16], (St.keep1 hs15), by rw [OwnF.len_ ho16]; exact ho16⟩
   ·refine WC.skip ?_
    refine hK12 _ _ ?_
    refine WC.sr ?_
    refine WL.run tbk 1 hs3 [] rfl trivial ?_
    refine WL.val rfl rfl rfl (Run.quo rfl rfl rfl ?_ ?_ ?_) ?_
    · omega
    · omega
    · omega
    refine WL.run tbk 3 hs3 [] rfl ⟨by omega, trivial⟩ ?_
    refine WL.val rfl rfl rfl (Run.quo rfl rfl rfl ?_ ?_ ?_) ?_
    · omega
    · omega
    · omega
    refine WL.val rfl rfl rfl (Run.rem rfl rfl rfl ?_ ?_) ?_
    · omega
    · omega
    refine WL.run tbk 3 hs3 [] rfl ⟨by omega, trivial⟩ ?_
    refine WL.val rfl rfl rfl (Run.rem rfl rfl rfl ?_ ?_) ?_
    · omega
    · omega
    refine WL.run tbk 2 hs3 [] rfl ⟨by omega, trivial⟩ ?_
    refine WL.buildF (F := encB) hs3 ([ub (224 + r / 4096), ub (128 + r / 64 % 64), ub (128 + r % 64)]) Try.runUnderlying23 Try.sizeOf5 Try.zeroValue5 rfl rfl rfl rfl rfl rfl rfl rfl rfl rfl rfl rfl (fun A22 c23 L19 whs20 hs20 ho21 => ?_)
    refine WL.run tbk 1 hs20 [] rfl trivial ?_
    refine WL.nil ?_
    refine WC.ret ?_
    refine retV1 rfl (resV.tmp rfl) ?_
    have hx_ := OwnF.eqOf (xs := runeB r) ho21 (by unfold runeB; rw [hsh, if_neg (by decide), if_neg (by omega), if_neg (by omega)])
    rw [← hx_]
    first | exact ⟨_, _, _, rfl, (St.keep1 hs20), ho21⟩ | exact ⟨A22, c23, _, by rw [OwnF.len_ ho21], (St.keep1 hs20), by rw [OwnF.len_ ho21]; exact ho21⟩
theorem c_slices_Equal_byte_byte (A_a : Option Addr) (n_a c_a : Nat) (a : List UInt8) (A_b : Option Addr) (n_b c_b : Nat) (b : List UInt8) (w : World) (f_a : SlF encB w A_a n_a a) (f_b : SlF encB w A_b n_b b) (hn : n_a ≤ 1099511627776) :
    Calls Try.prog 220 #[.slice A_a n_a c_a, .slice A_b n_b c_b] w fun e w' => e = .returned (.bool (decide (a = b))) ∧ St w [] [] w' := by
 have hla := f_a.len
 have hlb := f_b.len
 refine enter (vs := [.slice A_a n_a c_a, .slice A_b n_b c_b]) 26 Try.func220 rfl Try.ntmps220 rfl rfl ?_
 have hs1 := St.init w
 refine WC.rr tbk hs1 [] rfl trivial ?_
 refine WC.seq (fun K2 hK2 => ?_)
 refine WC.rr tbk hs1 [] rfl trivial ?_
 refine WC.cond rfl (fun h3 => ?_) (fun h3 => ?_)
 ·have qh3 := h3
  try simp only [bf, within_iff, within_not] at qh3
  refine WC.rr tbk hs1 [] rfl trivial ?_
  refine WC.ret ?_
  refine tkR ?_
  clear hK2
  refine retV1 rfl (resV.tmp rfl) ?_
  refine ⟨congrArg Ending.returned ?_, hs1.nil⟩
  refine congrArg Value.bool ?_; symm; rw [decide_eq_false_iff_not]; intro he; subst he; omega
 ·have qh3 := h3
  try simp only [bf, within_iff, within_not] at qh3
  refine WC.skip ?_
  refine hK2 _ _ ?_
  refine WC.seq (fun K4 hK4 => ?_)
  refine WC.rr tbk hs1 [] rfl trivial ?_
  refine WC.block ?_
  refine WC.loopS [(0, _), (1, _), (10, _), (12, _)] ⟨rfl, rfl, rfl, rfl, trivial⟩ hs1 (fun k_ f w' => ∃ (i : Nat), k_ = n_a - i ∧ (i ≤ n_a) ∧ (∀ j, j < i → gat encB a j = gat encB b j) ∧ Sub [(13, .int .i64 i)] f) ((fun (i : Nat) => n_a - i) (0)) ?_ ?_
  ·refine ⟨0, rfl, ?_, ?_, ⟨rfl, trivial⟩⟩
   · exact Nat.zero_le _
   · exact fun j hj => absurd hj (by omega)
  ·clear hs1
   rintro _ f w ⟨i, rfl, p0, p1, hG⟩ hF hs5
   refine WC.sub _ (hG.app hF) ?_
   clear hG hF
   refine WC.rr tbk hs5 [] rfl trivial ?_
   refine WC.seq (fun K6 hK6 => ?_)
   refine WC.cond rfl (fun h7 => ?_) (fun h7 => ?_)
   ·have qh7 := h7
    try simp only [bf, within_iff, within_not] at qh7
    refine WC.skip ?_
    refine hK6 _ _ ?_
    refine WC.seq (fun K8 hK8 => ?_)
    refine WC.block ?_
    refine WC.rr tbk hs5 [] rfl trivial ?_
    refine WC.sq hs5 mixed (by kernel_rfl) ?_
    refine WQ.run tbk 2 [] rfl trivial ?_
    refine WQ.val rfl rfl rfl (fun w_ hs_ => (Run.idxN Try.runUnderlying23 Try.sizeOf5 rfl rfl rfl ?_ ?_ ?_)) ?_
    · exact SlF.some_ (SlF.st0 f_a (hs_ : St _ _ _ _))
    · omega
    · omega
    refine WQ.val rfl rfl rfl (fun w_ hs_ => (Run.load Try.isAgg5 rfl rfl (SlF.one1 (SlF.st0 f_a (hs_ : St _ _ _ _)) ?_ rfl))) ?_
    · omega
    refine WQ.run tbk 2 [] rfl trivial ?_
    refine WQ.val rfl rfl rfl (fun w_ hs_ => (Run.idxN Try.runUnderlying23 Try.sizeOf5 rfl rfl rfl ?_ ?_ ?_)) ?_
    · exact SlF.some_ (SlF.st0 f_b (hs_ : St _ _ _ _))
    · omega
    · omega
    refine WQ.val rfl rfl rfl (fun w_ hs_ => (Run.load Try.isAgg5 rfl rfl (SlF.one1 (SlF.st0 f_b (hs_ : St _ _ _ _)) ?_ rfl))) ?_
    · omega
    refine WQ.run tbk 1 [] rfl trivial ?_
    refine WQ.nil (fun _ (hs9 : St _ _ _ _) => ?_)
    refine WC.cond rfl (fun h10 => ?_) (fun h10 => ?_)
    ·have qh10 := h10
     try simp only [bf, within_iff, within_not] at qh10
     refine WC.rr tbk hs9 [] rfl trivial ?_
     refine WC.ret ?_
     refine ibR (tkR (tkR (ibR (tkR ?_))))
     clear hK8 hK4
     refine retV1 rfl (resV.tmp rfl) ?_
     refine ⟨congrArg Ending.returned ?_, hs9.nil⟩
     refine congrArg Value.bool ?_; symm; rw [decide_eq_false_iff_not]; intro he; subst he; simp at h10
    ·have qh10 := h10
     try simp only [bf, within_iff, within_not] at qh10
     refine WC.skip ?_
     refine hK8 _ _ ?_
     refine WC.region ?_
     refine WL.run tbk 2 hs9 [] rfl ⟨by omega, trivial⟩ ?_
     refine WL.nil ?_
     refine tkN ?_
     refine ⟨⟨rfl, rfl, rfl, rfl, trivial⟩, hs9, _, ?_, i + 1, rfl, ?_, ?_, ⟨rfl, trivial⟩⟩
     · omega
     · omega
     · intro j hj; rcases Nat.lt_or_ge j i with h_ | h_
       · exact p1 j h_
       · obtain rfl : j = i := by omega
         exact u8_inj (by simpa using h10)
   ·have qh7 := h7
    try simp only [bf, within_iff, within_not] at qh7
    refine WC.exit ?_
    refine hK4 _ _ ?_
    refine WC.rr tbk hs5 [] rfl trivial ?_
    refine WC.ret ?_
    refine retV1 rfl (resV.tmp rfl) ?_
    refine ⟨congrArg Ending.returned ?_, hs5.nil⟩
    refine congrArg Value.bool ?_; symm; rw [decide_eq_true_eq]; exact gat_ext (F := encB) (by omega) (fun j hj => p1 j (by omega))
theorem c_slices_Clone_byte_byte (A_s : Option Addr) (n_s c_s : Nat) (s : List UInt8) (w : World) (f_s : SlF encB w A_s n_s s) (hn : n_s ≤ 268435456) :
    Calls Try.prog 184 #[.slice A_s n_s c_s] w fun e w' => ∃ A c L1, e = .returned (.slice A (s).length c) ∧ St w [] L1 w' ∧ OwnF encB 5 (.slice A (s).length c) (s) L1 := by
 have hl := f_s.len
 refine enter (vs := [.slice A_s n_s c_s]) 8 Try.func184 rfl Try.ntmps184 rfl rfl ?_
 have hs1 := St.init w
 refine WC.rr tbk hs1 [] rfl trivial ?_
 refine WC.seq (fun K2 hK2 => ?_)
 refine WC.sr ?_
 refine WL.run tbk 1 hs1 [] rfl trivial ?_
 refine WL.val rfl rfl rfl (Run.eqlNil Try.underlying23 rfl rfl rfl) ?_
 refine WL.nil ?_
 refine WC.cond rfl (fun h3 => ?_) (fun h3 => ?_)
 ·have qh3 := h3
  try simp only [bf, within_iff, within_not] at qh3
  obtain rfl : A_s = none := by simpa using qh3
  have h0 : n_s = 0 := SlF.none_ f_s
  have hs : s = [] := List.eq_nil_of_length_eq_zero (by omega)
  refine WC.rr tbk hs1 [] rfl trivial ?_
  refine WC.ret ?_
  refine tkR ?_
  clear hK2
  refine retV1 rfl (resV.tmp rfl) ?_
  have hx_ := OwnF.eqOf (xs := s) (OwnF.nil encB 5) (by rw [hs])
  rw [← hx_]
  exact ⟨_, _, _, rfl, hs1.nil, (OwnF.nil encB 5)⟩
 ·have qh3 := h3
  try simp only [bf, within_iff, within_not] at qh3
  refine WC.skip ?_
  refine hK2 _ _ ?_
  refine WC.sr ?_
  refine WL.buildF (F := encB) hs1 ([]) Try.runUnderlying23 Try.sizeOf5 Try.zeroValue5 rfl rfl rfl rfl rfl rfl rfl rfl rfl rfl rfl rfl (fun A7 c8 L4 whs5 hs5 ho6 => ?_)
  refine WL.run tbk 1 hs5 [] rfl trivial ?_
  refine WL.appendG hs5 ho6 (SlF.src (SlF.st0 f_s hs5) Try.underlying23) Try.underlying23 info_5 rfl rfl rfl rfl rfl rfl rfl rfl rfl rfl ?_ (fun A12 c13 L9 whs10 hs10 ho11 => ?_)
  · simp; omega
  refine WL.run tbk 1 hs10 [] rfl trivial ?_
  refine WL.nil ?_
  refine WC.ret ?_
  refine retV1 rfl (resV.tmp rfl) ?_
  have hx_ := OwnF.eqOf (xs := s) ho11 (by simp)
  rw [← hx_]
  first | exact ⟨_, _, _, rfl, (St.keep1 hs10), ho11⟩ | exact ⟨A12, c13, _, by rw [OwnF.len_ ho11], (St.keep1 hs10), by rw [OwnF.len_ ho11]; exact ho11⟩
theorem c_slices_Clone_int_int (A_s : Option Addr) (n_s c_s : Nat) (s : List Int) (w : World) (f_s : SlF encI w A_s n_s s) (hn : n_s ≤ 268435456) :
    Calls Try.prog 188 #[.slice A_s n_s c_s] w fun e w' => ∃ A c L1, e = .returned (.slice A (s).length c) ∧ St w [] L1 w' ∧ OwnF encI 3 (.slice A (s).length c) (s) L1 := by
 have hl := f_s.len
 refine enter (vs := [.slice A_s n_s c_s]) 8 Try.func188 rfl Try.ntmps188 rfl rfl ?_
 have hs1 := St.init w
 refine WC.rr tbk hs1 [] rfl trivial ?_
 refine WC.seq (fun K2 hK2 => ?_)
 refine WC.sr ?_
 refine WL.run tbk 1 hs1 [] rfl trivial ?_
 refine WL.val rfl rfl rfl (Run.eqlNil Try.underlying22 rfl rfl rfl) ?_
 refine WL.nil ?_
 refine WC.cond rfl (fun h3 => ?_) (fun h3 => ?_)
 ·have qh3 := h3
  try simp only [bf, within_iff, within_not] at qh3
  obtain rfl : A_s = none := by simpa using qh3
  have h0 : n_s = 0 := SlF.none_ f_s
  have hs : s = [] := List.eq_nil_of_length_eq_zero (by omega)
  refine WC.rr tbk hs1 [] rfl trivial ?_
  refine WC.ret ?_
  refine tkR ?_
  clear hK2
  refine retV1 rfl (resV.tmp rfl) ?_
  have hx_ := OwnF.eqOf (xs := s) (OwnF.nil encI 3) (by rw [hs])
  rw [← hx_]
  exact ⟨_, _, _, rfl, hs1.nil, (OwnF.nil encI 3)⟩
 ·have qh3 := h3
  try simp only [bf, within_iff, within_not] at qh3
  refine WC.skip ?_
  refine hK2 _ _ ?_
  refine WC.sr ?_
  refine WL.buildF (F := encI) hs1 ([]) Try.runUnderlying22 Try.sizeOf3 Try.zeroValue3 rfl rfl rfl rfl rfl rfl rfl rfl rfl rfl rfl rfl (fun A7 c8 L4 whs5 hs5 ho6 => ?_)
  refine WL.run tbk 1 hs5 [] rfl trivial ?_
  refine WL.appendG hs5 ho6 (SlF.src (SlF.st0 f_s hs5) Try.underlying22) Try.underlying22 info_3 rfl rfl rfl rfl rfl rfl rfl rfl rfl rfl ?_ (fun A12 c13 L9 whs10 hs10 ho11 => ?_)
  · simp; omega
  refine WL.run tbk 1 hs10 [] rfl trivial ?_
  refine WL.nil ?_
  refine WC.ret ?_
  refine retV1 rfl (resV.tmp rfl) ?_
  have hx_ := OwnF.eqOf (xs := s) ho11 (by simp)
  rw [← hx_]
  first | exact ⟨_, _, _, rfl, (St.keep1 hs10), ho11⟩ | exact ⟨A12, c13, _, by rw [OwnF.len_ ho11], (St.keep1 hs10), by rw [OwnF.len_ ho11]; exact ho11⟩
theorem c_impl_RuneRead (A_b : Option Addr) (n_b c_b : Nat) (b : List UInt8) (w : World) (f_b : SlF encB w A_b n_b b) (hc : n_b ≤ c_b) (hn : n_b ≤ 549755813888) :
    Calls Try.prog 185 #[.slice A_b n_b c_b, i64 0] w fun e w' => e = .returned (.tuple #[.int .i64 (rvN (runeL b)), .int .i64 (rvS (runeL b) : Nat)]) ∧ St w [] [] w' := by
 have hbl := f_b.len
 have hb0 := (gat encB b 0).toNat_lt
 refine enter (vs := [.slice A_b n_b c_b, i64 0]) 72 Try.func185 rfl Try.ntmps185 rfl rfl ?_
 have hs1 := St.init w
 refine WC.rr tbk hs1 [] rfl trivial ?_
 refine WC.seq (fun K2 hK2 => ?_)
 refine WC.sr ?_
 refine WL.run tbk 4 hs1 [] rfl ⟨by first | omega | (simp only [p6]; omega), trivial⟩ ?_
 refine WL.call rfl rfl rfl (Run.call Try.call72 rfl rfl rfl) (c_impl_within _ _ _ _) ?_
 rintro _ whs3 ⟨rfl, hs3⟩
 replace hs3 := hs1.call0 hs3
 refine ⟨_, rfl, ?_⟩
 refine WL.run tbk 1 hs3 [] rfl trivial ?_
 refine WL.nil ?_
 refine WC.cond rfl (fun h4 => ?_) (fun h4 => ?_)
 ·have qh4 := h4
  try simp only [bf, within_iff, within_not] at qh4
  refine WC.rr tbk hs3 [] rfl trivial ?_
  refine WC.ret ?_
  refine tkR ?_
  clear hK2
  refine retV2 rfl (resV.tmp rfl) (resV.tmp rfl) ?_
  refine ⟨congrArg Ending.returned ?_, hs3.nil⟩
  have h0 : b = [] := List.eq_nil_of_length_eq_zero (by omega)
  subst h0
  rw [runeL_nil]; rfl
 ·have qh4 := h4
  try simp only [bf, within_iff, within_not] at qh4
  refine WC.skip ?_
  refine hK2 _ _ ?_
  refine WC.sr ?_
  refine WL.run tbk 2 hs3 [] rfl trivial ?_
  refine WL.val rfl rfl rfl (Run.idxK (0) Try.runUnderlying23 Try.sizeOf5 rfl rfl rfl ?_ ?_ ?_) ?_
  · exact SlF.some_ (SlF.st0 f_b hs3)
  · first | omega | (simp only [p6]; omega)
  · first | omega | (simp only [p6]; omega)
  refine WL.val rfl rfl rfl (Run.load Try.isAgg5 rfl rfl (SlF.one1 (SlF.st0 f_b hs3) ?_ rfl)) ?_
  · omega
  refine WL.run tbk 3 hs3 [] rfl ⟨(u8_in _), trivial⟩ ?_
  refine WL.nil ?_
  refine WC.seq (fun K5 hK5 => ?_)
  refine WC.block ?_
  refine WC.sr ?_
  refine WL.run tbk 1 hs3 [] rfl trivial ?_
  refine WL.call rfl rfl rfl (Run.call Try.call72 rfl rfl rfl) (c_impl_within _ _ _ _) ?_
  rintro _ whs6 ⟨rfl, hs6⟩
  replace hs6 := hs3.call0 hs6
  refine ⟨_, rfl, ?_⟩
  refine WL.run tbk 1 hs6 [] rfl trivial ?_
  refine WL.nil ?_
  refine WC.cond rfl (fun h7 => ?_) (fun h7 => ?_)
  ·have qh7 := h7
   try simp only [bf, within_iff, within_not] at qh7
   have hcl : rcls (bat b 0) = 2 := by unfold rcls; rw [if_pos (by simp only [gat, bat] at *; omega)]
   refine WC.region ?_
   refine WL.run tbk 4 hs6 [] rfl ⟨by first | omega | (simp only [p6]; omega), trivial⟩ ?_
   refine WL.nil ?_
   refine hK5 _ _ ?_
   refine WC.seq (fun K8 hK8 => ?_)
   refine WC.rr tbk hs6 [] rfl ⟨by first | omega | (simp only [p6]; omega), trivial⟩ ?_
   refine WC.cond rfl (fun h9 => ?_) (fun h9 => ?_)
   ·have qh9 := h9
    try simp only [bf, within_iff, within_not] at qh9
    refine WC.rr tbk hs6 [] rfl trivial ?_
    refine WC.ret ?_
    refine tkR ?_
    clear hK8
    refine retV2 rfl (resV.tmp rfl) (resV.tmp rfl) ?_
    refine ⟨congrArg Ending.returned ?_, hs6.nil⟩
    have hno : runeL b = none := rread_no (by omega) hcl (fun r hr h1 h2 h3 => by
        omega)
    rw [hno]; rfl
   ·have qh9 := h9
    try simp only [bf, within_iff, within_not] at qh9
    refine WC.skip ?_
    refine hK8 _ _ ?_
    refine WC.sr ?_
    refine WL.run tbk 6 hs6 [] rfl ⟨by first | omega | (simp only [p6]; omega), by first | omega | (simp only [p6]; omega), trivial⟩ ?_
    refine WL.val rfl rfl rfl (Run.sliceLH (1) (2) Try.runUnderlying23 Try.sizeOf5 rfl rfl rfl rfl ?_ ?_ ?_) ?_
    · first | rfl | (first | omega | (simp only [p6]; omega))
    · first | rfl | (first | omega | (simp only [p6]; omega))
    · refine ⟨?_, ?_, ?_⟩ <;> (first | omega | (simp only [p6]; omega))
    refine WL.call rfl rfl rfl (Run.call Try.call183 rfl rfl rfl) (c_impl_tails _ _ _ _ _ (SlF.cutC (lo := 1) (hi := 2) (SlF.st0 f_b hs6) (by refine ⟨?_, ?_, ?_⟩ <;> (first | omega | (simp only [p6]; omega)))) ?_) ?_
    · first | assumption | rfl | omega
    rintro _ whs10 ⟨rfl, hs10⟩
    replace hs10 := hs6.call0 hs10
    refine ⟨_, rfl, ?_⟩
    refine WL.run tbk 3 hs10 [] rfl trivial ?_
    have htv := tlV_bnd (l := (b.drop 1).take (2 - 1)) (by rw [List.length_take, List.length_drop]; omega)
    refine WL.run tbk 2 hs10 [] rfl trivial ?_
    refine WL.nil ?_
    refine WC.sr ?_
    refine WL.run tbk 4 hs10 [] rfl ⟨by first | omega | (simp only [p6]; omega), by first | omega | (simp only [p6]; omega), trivial⟩ ?_
    refine WL.val rfl rfl rfl (Run.shl rfl rfl rfl ?_ ?_ ?_) ?_
    · first | omega | (simp only [p6]; omega)
    · first | omega | (simp only [p6]; omega)
    · simp only [p6]; constructor <;> omega
    refine WL.run tbk 1 hs10 [] rfl trivial ?_
    refine WL.val rfl rfl rfl (Run.or rfl rfl rfl ?_ ?_ ?_ ?_) ?_
    · first | omega | (simp only [p6]; omega)
    · first | omega | (simp only [p6]; omega)
    · first | omega | (simp only [p6]; omega)
    · first | omega | (simp only [p6]; omega)
    refine WL.run tbk 1 hs10 [] rfl trivial ?_
    refine WL.nil ?_
    refine WC.seq (fun K11 hK11 => ?_)
    refine WC.seq (fun K12 hK12 => ?_)
    refine WC.regionH2 (fun w' => St _ _ _ w') (fun w' => St _ _ _ w') mixed (St.drew hs10) (St.drew hs10) (fun whs13 hs13 => ?_)
    replace hs13 : St _ _ _ _ := hs13
    refine WH.take 0 rfl (by kernel_rfl) rfl rfl rfl hs13 (fun w_ hs_ => (Run.move rfl rfl)) ?_
    refine WH.take 1 rfl (by kernel_rfl) rfl rfl rfl hs13 (fun w_ hs_ => (Run.not rfl rfl)) ?_
    refine WH.take 2 rfl (by kernel_rfl) rfl rfl rfl hs13 (fun w_ hs_ => (Run.move rfl rfl)) ?_
    refine WH.split 58 rfl (fun g14 => ?_) (fun g14 => ?_)
    ·refine WH.takeSkip 3 rfl (by kernel_rfl) (wantNF rfl g14) rfl rfl hs13 ?_
     refine WH.takeSkip 5 rfl (by kernel_rfl) (wantNF rfl g14) rfl rfl hs13 ?_
     refine WH.takeSkip 6 rfl (by kernel_rfl) (wantNF rfl g14) rfl rfl hs13 ?_
     refine WH.takeSkip 7 rfl (by kernel_rfl) (wantNF rfl g14) rfl rfl hs13 ?_
     refine WH.takeSkip 8 rfl (by kernel_rfl) (wantNF rfl g14) rfl rfl hs13 ?_
     refine WH.takeSkip 9 rfl (by kernel_rfl) (wantNF rfl g14) rfl rfl hs13 ?_
     refine WH.takeSkip 10 rfl (by kernel_rfl) (wantNF rfl g14) rfl rfl hs13 ?_
     refine WH.all [4] (by kernel_rfl) rfl (WHs.cons (i := 4) rfl ?_ WHs.nil)
     refine WL.skip (wantNF rfl g14) rfl rfl ?_
     refine WL.nil ⟨hs13, ?_⟩
     refine WH.all [11] (by kernel_rfl) rfl (WHs.cons (i := 11) rfl ?_ WHs.nil)
     refine WL.skip (wantNF rfl g14) rfl rfl ?_
     refine WL.nil ⟨hs13, ?_⟩
     refine WH.takeSkip 12 rfl (by kernel_rfl) (wantNF rfl g14) rfl rfl hs13 ?_
     refine WH.take 13 rfl (by kernel_rfl) rfl rfl rfl hs13 (fun w_ hs_ => (Run.pickT rfl rfl g14 rfl)) ?_
     refine WH.done (by kernel_rfl) ?_
     refine hK12 _ _ ?_
     refine WC.cond rfl (fun h15 => ?_) (fun h15 => ?_)
     ·have qh15 := h15
      try simp only [bf, within_iff, within_not] at qh15
      refine WC.rr tbk hs13 [] rfl trivial ?_
      refine WC.ret ?_
      refine tkR ?_
      clear hK11
      refine retV2 rfl (resV.tmp rfl) (resV.tmp rfl) ?_
      refine ⟨congrArg Ending.returned ?_, hs13.nil⟩
      have hno : runeL b = none := rread_no (by omega) hcl (fun r hr h1 h2 h3 => by
          have h9 := ‹(!tlOk ((b.drop 1).take (2 - 1))) = true›
          rw [h2] at h9; cases h9)
      rw [hno]; rfl
     ·have qh15 := h15
      try simp only [bf, within_iff, within_not] at qh15
      refine WC.skip ?_
      refine hK11 _ _ ?_
      refine WC.rr tbk hs13 [] rfl trivial ?_
      refine WC.ret ?_
      refine retV2 rfl (resV.tmp rfl) (resV.tmp rfl) ?_
      refine ⟨congrArg Ending.returned ?_, hs13.nil⟩
      cases h15
    ·refine WH.take 3 rfl (by kernel_rfl) (wantF rfl g14) rfl rfl hs13 (fun w_ hs_ => (Run.move rfl rfl)) ?_
     refine WH.take 5 rfl (by kernel_rfl) (wantF rfl g14) rfl rfl hs13 (fun w_ hs_ => (Run.move rfl rfl)) ?_
     refine WH.take 6 rfl (by kernel_rfl) (wantF rfl g14) rfl rfl hs13 (fun w_ hs_ => (Run.move rfl rfl)) ?_
     refine WH.take 7 rfl (by kernel_rfl) (wantF rfl g14) rfl rfl hs13 (fun w_ hs_ => (Run.move rfl rfl)) ?_
     refine WH.take 8 rfl (by kernel_rfl) (wantF rfl g14) rfl rfl hs13 (fun w_ hs_ => (Run.move rfl rfl)) ?_
     refine WH.take 9 rfl (by kernel_rfl) (wantF rfl g14) rfl rfl hs13 (fun w_ hs_ => (Run.add rfl rfl rfl ?_)) ?_
     · constructor <;> first | omega | (simp only [p6]; omega)
     refine WH.take 10 rfl (by kernel_rfl) (wantF rfl g14) rfl rfl hs13 (fun w_ hs_ => (Run.sliceLH (0) (2) Try.runUnderlying23 Try.sizeOf5 rfl rfl rfl rfl ?_ ?_ ?_)) ?_
     · first | rfl | (first | omega | (simp only [p6]; omega))
     · first | rfl | (first | omega | (simp only [p6]; omega))
     · refine ⟨?_, ?_, ?_⟩ <;> (first | omega | (simp only [p6]; omega))
     refine WH.all [4] (by kernel_rfl) rfl (WHs.cons (i := 4) rfl ?_ WHs.nil)
     refine WL.call (wantF rfl g14) rfl rfl (Run.call Try.call61 rfl rfl rfl) (c_impl_RuneBytes _ _) ?_
     rintro _ whs16 ⟨A17, c18, L1_19, rfl, hs16, ho20⟩
     replace hs16 := hs13.callF hs16
     refine ⟨_, rfl, ?_⟩
     refine WL.nil ⟨(St.drop hs16 (List.sublist_append_right L1_19 _)), ?_⟩
     refine WH.all [11] (by kernel_rfl) rfl (WHs.cons (i := 11) rfl ?_ WHs.nil)
     refine WL.call (wantF rfl g14) rfl rfl (Run.call Try.call220 rfl rfl rfl) (c_slices_Equal_byte_byte _ _ _ _ _ _ _ _ _ (SlF.ofOwn ho20 (fun p_ hp_ => (hs16.own p_ (List.mem_append_left _ hp_)).1)) (SlF.cutC (lo := 0) (hi := 2) (SlF.st0 f_b hs16) (by refine ⟨?_, ?_, ?_⟩ <;> (first | omega | (simp only [p6]; omega)))) ?_) ?_
     · exact Nat.le_trans (runeB_len _) (by decide)
     rintro _ whs21 ⟨rfl, hs21⟩
     replace hs21 := hs16.call0 hs21
     refine ⟨_, rfl, ?_⟩
     refine WL.nil ⟨(St.drop hs21 (List.sublist_append_right L1_19 _)), ?_⟩
     refine WH.take 12 rfl (by kernel_rfl) (wantF rfl g14) rfl rfl (St.drop hs21 (List.sublist_append_right L1_19 _)) (fun w_ hs_ => (Run.not rfl rfl)) ?_
     refine WH.take 13 rfl (by kernel_rfl) rfl rfl rfl (St.drop hs21 (List.sublist_append_right L1_19 _)) (fun w_ hs_ => (Run.pick rfl rfl rfl rfl)) ?_
     refine WH.done (by kernel_rfl) ?_
     refine hK12 _ _ ?_
     refine WC.cond rfl (fun h22 => ?_) (fun h22 => ?_)
     ·have qh22 := h22
      try simp only [bf, within_iff, within_not] at qh22
      refine WC.rr tbk hs21 [] rfl trivial ?_
      refine WC.ret ?_
      refine tkR ?_
      clear hK11
      refine retV2 rfl (resV.tmp rfl) (resV.tmp rfl) ?_
      refine ⟨congrArg Ending.returned ?_, hs21.nil⟩
      have hrs := rsum_or (a := gat encB b 0) (t := ((b.drop 1).take (2 - 1))) (c := 2) (x := (((gat encB b 0).toNat : Int) - 192) * 2 ^ 6) (.inr (.inl ⟨rfl, by omega, rfl⟩)) (by rw [List.length_take, List.length_drop]; omega)
      have hq9 : (bif !tlOk ((b.drop 1).take (2 - 1)) then true else !decide (runeB (rsum (gat encB b 0) ((b.drop 1).take (2 - 1)) 2) = b.take 2)) = true := by rw [← hrs]; exact h22
      have hno : runeL b = none := rread_no (by omega) hcl (fun r hr h1 h2 h3 => by
          rw [h2] at hq9; subst hr; have h10 : runeB (rsum (gat encB b 0) ((b.drop 1).take (2 - 1)) 2) = b.take 2 := h3; rw [h10, decide_eq_true rfl] at hq9; cases hq9)
      rw [hno]; rfl
     ·have qh22 := h22
      try simp only [bf, within_iff, within_not] at qh22
      refine WC.skip ?_
      refine hK11 _ _ ?_
      refine WC.rr tbk hs21 [] rfl trivial ?_
      refine WC.ret ?_
      refine retV2 rfl (resV.tmp rfl) (resV.tmp rfl) ?_
      refine ⟨congrArg Ending.returned ?_, hs21.nil⟩
      have hrs := rsum_or (a := gat encB b 0) (t := ((b.drop 1).take (2 - 1))) (c := 2) (x := (((gat encB b 0).toNat : Int) - 192) * 2 ^ 6) (.inr (.inl ⟨rfl, by omega, rfl⟩)) (by rw [List.length_take, List.length_drop]; omega)
      have hq9 : (bif !tlOk ((b.drop 1).take (2 - 1)) then true else !decide (runeB (rsum (gat encB b 0) ((b.drop 1).take (2 - 1)) 2) = b.take 2)) = false := by rw [← hrs]; exact h22
      rcases h11 : tlOk ((b.drop 1).take (2 - 1)) with _ | _ <;> rw [h11] at hq9
      · cases hq9
      have hyes := rread_yes (by omega) hcl (by omega) h11 hrs (by rw [hrs]; by_cases h12 : runeB (rsum (gat encB b 0) ((b.drop 1).take (2 - 1)) 2) = b.take 2; exact h12; rw [decide_eq_false h12] at hq9; cases hq9)
      rw [hyes]; rfl
  ·have qh7 := h7
   try simp only [bf, within_iff, within_not] at qh7
   refine WC.sr ?_
   refine WL.run tbk 1 hs6 [] rfl trivial ?_
   refine WL.call rfl rfl rfl (Run.call Try.call72 rfl rfl rfl) (c_impl_within _ _ _ _) ?_
   rintro _ whs23 ⟨rfl, hs23⟩
   replace hs23 := hs6.call0 hs23
   refine ⟨_, rfl, ?_⟩
   refine WL.run tbk 1 hs23 [] rfl trivial ?_
   refine WL.nil ?_
   refine WC.cond rfl (fun h24 => ?_) (fun h24 => ?_)
   ·have qh24 := h24
    try simp only [bf, within_iff, within_not] at qh24
    have hcl : rcls (bat b 0) = 3 := by unfold rcls; rw [if_neg (by simp only [gat, bat] at *; omega), if_pos (by simp only [gat, bat] at *; omega)]
    refine WC.region ?_
    refine WL.run tbk 4 hs23 [] rfl ⟨by first | omega | (simp only [p6]; omega), trivial⟩ ?_
    refine WL.nil ?_
    refine hK5 _ _ ?_
    refine WC.seq (fun K25 hK25 => ?_)
    refine WC.rr tbk hs23 [] rfl ⟨by first | omega | (simp only [p6]; omega), trivial⟩ ?_
    refine WC.cond rfl (fun h26 => ?_) (fun h26 => ?_)
    ·have qh26 := h26
     try simp only [bf, within_iff, within_not] at qh26
     refine WC.rr tbk hs23 [] rfl trivial ?_
     refine WC.ret ?_
     refine tkR ?_
     clear hK25
     refine retV2 rfl (resV.tmp rfl) (resV.tmp rfl) ?_
     refine ⟨congrArg Ending.returned ?_, hs23.nil⟩
     have hno : runeL b = none := rread_no (by omega) hcl (fun r hr h1 h2 h3 => by
         omega)
     rw [hno]; rfl
    ·have qh26 := h26
     try simp only [bf, within_iff, within_not] at qh26
     refine WC.skip ?_
     refine hK25 _ _ ?_
     refine WC.sr ?_
     refine WL.run tbk 6 hs23 [] rfl ⟨by first | omega | (simp only [p6]; omega), by first | omega | (simp only [p6]; omega), trivial⟩ ?_
     refine WL.val rfl rfl rfl (Run.sliceLH (1) (3) Try.runUnderlying23 Try.sizeOf5 rfl rfl rfl rfl ?_ ?_ ?_) ?_
     · first | rfl | (first | omega | (simp only [p6]; omega))
     · first | rfl | (first | omega | (simp only [p6]; omega))
     · refine ⟨?_, ?_, ?_⟩ <;> (first | omega | (simp only [p6]; omega))
     refine WL.call rfl rfl rfl (Run.call Try.call183 rfl rfl rfl) (c_impl_tails _ _ _ _ _ (SlF.cutC (lo := 1) (hi := 3) (SlF.st0 f_b hs23) (by refine ⟨?_, ?_, ?_⟩ <;> (first | omega | (simp only [p6]; omega)))) ?_) ?_
     · first | assumption | rfl | omega
     rintro _ whs27 ⟨rfl, hs27⟩
     replace hs27 := hs23.call0 hs27
     refine ⟨_, rfl, ?_⟩
     refine WL.run tbk 3 hs27 [] rfl trivial ?_
     have htv := tlV_bnd (l := (b.drop 1).take (3 - 1)) (by rw [List.length_take, List.length_drop]; omega)
     refine WL.run tbk 2 hs27 [] rfl trivial ?_
     refine WL.nil ?_
     refine WC.sr ?_
     refine WL.run tbk 4 hs27 [] rfl ⟨by first | omega | (simp only [p6]; omega), by first | omega | (simp only [p6]; omega), trivial⟩ ?_
     refine WL.val rfl rfl rfl (Run.shl rfl rfl rfl ?_ ?_ ?_) ?_
     · first | omega | (simp only [p6]; omega)
     · first | omega | (simp only [p6]; omega)
     · simp only [p6]; constructor <;> omega
     refine WL.run tbk 1 hs27 [] rfl trivial ?_
     refine WL.val rfl rfl rfl (Run.or rfl rfl rfl ?_ ?_ ?_ ?_) ?_
     · first | omega | (simp only [p6]; omega)
     · first | omega | (simp only [p6]; omega)
     · first | omega | (simp only [p6]; omega)
     · first | omega | (simp only [p6]; omega)
     refine WL.run tbk 1 hs27 [] rfl trivial ?_
     refine WL.nil ?_
     refine WC.seq (fun K28 hK28 => ?_)
     refine WC.seq (fun K29 hK29 => ?_)
     refine WC.regionH2 (fun w' => St _ _ _ w') (fun w' => St _ _ _ w') mixed (St.drew hs27) (St.drew hs27) (fun whs30 hs30 => ?_)
     replace hs30 : St _ _ _ _ := hs30
     refine WH.take 0 rfl (by kernel_rfl) rfl rfl rfl hs30 (fun w_ hs_ => (Run.move rfl rfl)) ?_
     refine WH.take 1 rfl (by kernel_rfl) rfl rfl rfl hs30 (fun w_ hs_ => (Run.not rfl rfl)) ?_
     refine WH.take 2 rfl (by kernel_rfl) rfl rfl rfl hs30 (fun w_ hs_ => (Run.move rfl rfl)) ?_
     refine WH.split 58 rfl (fun g31 => ?_) (fun g31 => ?_)
     ·refine WH.takeSkip 3 rfl (by kernel_rfl) (wantNF rfl g31) rfl rfl hs30 ?_
      refine WH.takeSkip 5 rfl (by kernel_rfl) (wantNF rfl g31) rfl rfl hs30 ?_
      refine WH.takeSkip 6 rfl (by kernel_rfl) (wantNF rfl g31) rfl rfl hs30 ?_
      refine WH.takeSkip 7 rfl (by kernel_rfl) (wantNF rfl g31) rfl rfl hs30 ?_
      refine WH.takeSkip 8 rfl (by kernel_rfl) (wantNF rfl g31) rfl rfl hs30 ?_
      refine WH.takeSkip 9 rfl (by kernel_rfl) (wantNF rfl g31) rfl rfl hs30 ?_
      refine WH.takeSkip 10 rfl (by kernel_rfl) (wantNF rfl g31) rfl rfl hs30 ?_
      refine WH.all [4] (by kernel_rfl) rfl (WHs.cons (i := 4) rfl ?_ WHs.nil)
      refine WL.skip (wantNF rfl g31) rfl rfl ?_
      refine WL.nil ⟨hs30, ?_⟩
      refine WH.all [11] (by kernel_rfl) rfl (WHs.cons (i := 11) rfl ?_ WHs.nil)
      refine WL.skip (wantNF rfl g31) rfl rfl ?_
      refine WL.nil ⟨hs30, ?_⟩
      refine WH.takeSkip 12 rfl (by kernel_rfl) (wantNF rfl g31) rfl rfl hs30 ?_
      refine WH.take 13 rfl (by kernel_rfl) rfl rfl rfl hs30 (fun w_ hs_ => (Run.pickT rfl rfl g31 rfl)) ?_
      refine WH.done (by kernel_rfl) ?_
      refine hK29 _ _ ?_
      refine WC.cond rfl (fun h32 => ?_) (fun h32 => ?_)
      ·have qh32 := h32
       try simp only [bf, within_iff, within_not] at qh32
       refine WC.rr tbk hs30 [] rfl trivial ?_
       refine WC.ret ?_
       refine tkR ?_
       clear hK28
       refine retV2 rfl (resV.tmp rfl) (resV.tmp rfl) ?_
       refine ⟨congrArg Ending.returned ?_, hs30.nil⟩
       have hno : runeL b = none := rread_no (by omega) hcl (fun r hr h1 h2 h3 => by
           have h9 := ‹(!tlOk ((b.drop 1).take (3 - 1))) = true›
           rw [h2] at h9; cases h9)
       rw [hno]; rfl
      ·have qh32 := h32
       try simp only [bf, within_iff, within_not] at qh32
       refine WC.skip ?_
       refine hK28 _ _ ?_
       refine WC.rr tbk hs30 [] rfl trivial ?_
       refine WC.ret ?_
       refine retV2 rfl (resV.tmp rfl) (resV.tmp rfl) ?_
       refine ⟨congrArg Ending.returned ?_, hs30.nil⟩
       cases h32
     ·refine WH.take 3 rfl (by kernel_rfl) (wantF rfl g31) rfl rfl hs30 (fun w_ hs_ => (Run.move rfl rfl)) ?_
      refine WH.take 5 rfl (by kernel_rfl) (wantF rfl g31) rfl rfl hs30 (fun w_ hs_ => (Run.move rfl rfl)) ?_
      refine WH.take 6 rfl (by kernel_rfl) (wantF rfl g31) rfl rfl hs30 (fun w_ hs_ => (Run.move rfl rfl)) ?_
      refine WH.take 7 rfl (by kernel_rfl) (wantF rfl g31) rfl rfl hs30 (fun w_ hs_ => (Run.move rfl rfl)) ?_
      refine WH.take 8 rfl (by kernel_rfl) (wantF rfl g31) rfl rfl hs30 (fun w_ hs_ => (Run.move rfl rfl)) ?_
      refine WH.take 9 rfl (by kernel_rfl) (wantF rfl g31) rfl rfl hs30 (fun w_ hs_ => (Run.add rfl rfl rfl ?_)) ?_
      · constructor <;> first | omega | (simp only [p6]; omega)
      refine WH.take 10 rfl (by kernel_rfl) (wantF rfl g31) rfl rfl hs30 (fun w_ hs_ => (Run.sliceLH (0) (3) Try.runUnderlying23 Try.sizeOf5 rfl rfl rfl rfl ?_ ?_ ?_)) ?_
      · first | rfl | (first | omega | (simp only [p6]; omega))
      · first | rfl | (first | omega | (simp only [p6]; omega))
      · refine ⟨?_, ?_, ?_⟩ <;> (first | omega | (simp only [p6]; omega))
      refine WH.all [4] (by kernel_rfl) rfl (WHs.cons (i := 4) rfl ?_ WHs.nil)
      refine WL.call (wantF rfl g31) rfl rfl (Run.call Try.call61 rfl rfl rfl) (c_impl_RuneBytes _ _) ?_
      rintro _ whs33 ⟨A34, c35, L1_36, rfl, hs33, ho37⟩
      replace hs33 := hs30.callF hs33
      refine ⟨_, rfl, ?_⟩
      refine WL.nil ⟨(St.drop hs33 (List.sublist_append_right L1_36 _)), ?_⟩
      refine WH.all [11] (by kernel_rfl) rfl (WHs.cons (i := 11) rfl ?_ WHs.nil)
      refine WL.call (wantF rfl g31) rfl rfl (Run.call Try.call220 rfl rfl rfl) (c_slices_Equal_byte_byte _ _ _ _ _ _ _ _ _ (SlF.ofOwn ho37 (fun p_ hp_ => (hs33.own p_ (List.mem_append_left _ hp_)).1)) (SlF.cutC (lo := 0) (hi := 3) (SlF.st0 f_b hs33) (by refine ⟨?_, ?_, ?_⟩ <;> (first | omega | (simp only [p6]; omega)))) ?_) ?_
      · exact Nat.le_trans (runeB_len _) (by decide)
      rintro _ whs38 ⟨rfl, hs38⟩
      replace hs38 := hs33.call0 hs38
      refine ⟨_, rfl, ?_⟩
      refine WL.nil ⟨(St.drop hs38 (List.sublist_append_right L1_36 _)), ?_⟩
      refine WH.take 12 rfl (by kernel_rfl) (wantF rfl g31) rfl rfl (St.drop hs38 (List.sublist_append_right L1_36 _)) (fun w_ hs_ => (Run.not rfl rfl)) ?_
      refine WH.take 13 rfl (by kernel_rfl) rfl rfl rfl (St.drop hs38 (List.sublist_append_right L1_36 _)) (fun w_ hs_ => (Run.pick rfl rfl rfl rfl)) ?_
      refine WH.done (by kernel_rfl) ?_
      refine hK29 _ _ ?_
      refine WC.cond rfl (fun h39 => ?_) (fun h39 => ?_)
      ·have qh39 := h39
       try simp only [bf, within_iff, within_not] at qh39
       refine WC.rr tbk hs38 [] rfl trivial ?_
       refine WC.ret ?_
       refine tkR ?_
       clear hK28
       refine retV2 rfl (resV.tmp rfl) (resV.tmp rfl) ?_
       refine ⟨congrArg Ending.returned ?_, hs38.nil⟩
       have hrs := rsum_or (a := gat encB b 0) (t := ((b.drop 1).take (3 - 1))) (c := 3) (x := (((gat encB b 0).toNat : Int) - 224) * 2 ^ 12) (.inr (.inr ⟨rfl, by omega, rfl⟩)) (by rw [List.length_take, List.length_drop]; omega)
       have hq9 : (bif !tlOk ((b.drop 1).take (3 - 1)) then true else !decide (runeB (rsum (gat encB b 0) ((b.drop 1).take (3 - 1)) 3) = b.take 3)) = true := by rw [← hrs]; exact h39
       have hno : runeL b = none := rread_no (by omega) hcl (fun r hr h1 h2 h3 => by
           rw [h2] at hq9; subst hr; have h10 : runeB (rsum (gat encB b 0) ((b.drop 1).take (3 - 1)) 3) = b.take 3 := h3; rw [h10, decide_eq_true rfl] at hq9; cases hq9)
       rw [hno]; rfl
      ·have qh39 := h39
       try simp only [bf, within_iff, within_not] at qh39
       refine WC.skip ?_
       refine hK28 _ _ ?_
       refine WC.rr tbk hs38 [] rfl trivial ?_
       refine WC.ret ?_
       refine retV2 rfl (resV.tmp rfl) (resV.tmp rfl) ?_
       refine ⟨congrArg Ending.returned ?_, hs38.nil⟩
       have hrs := rsum_or (a := gat encB b 0) (t := ((b.drop 1).take (3 - 1))) (c := 3) (x := (((gat encB b 0).toNat : Int) - 224) * 2 ^ 12) (.inr (.inr ⟨rfl, by omega, rfl⟩)) (by rw [List.length_take, List.length_drop]; omega)
       have hq9 : (bif !tlOk ((b.drop 1).take (3 - 1)) then true else !decide (runeB (rsum (gat encB b 0) ((b.drop 1).take (3 - 1)) 3) = b.take 3)) = false := by rw [← hrs]; exact h39
       rcases h11 : tlOk ((b.drop 1).take (3 - 1)) with _ | _ <;> rw [h11] at hq9
       · cases hq9
       have hyes := rread_yes (by omega) hcl (by omega) h11 hrs (by rw [hrs]; by_cases h12 : runeB (rsum (gat encB b 0) ((b.drop 1).take (3 - 1)) 3) = b.take 3; exact h12; rw [decide_eq_false h12] at hq9; cases hq9)
       rw [hyes]; rfl
   ·have qh24 := h24
    try simp only [bf, within_iff, within_not] at qh24
    have hcl : rcls (bat b 0) = 1 := by unfold rcls; rw [if_neg (by simp only [gat, bat] at *; omega), if_neg (by simp only [gat, bat] at *; omega)]
    refine WC.skip ?_
    refine hK5 _ _ ?_
    refine WC.seq (fun K40 hK40 => ?_)
    refine WC.rr tbk hs23 [] rfl ⟨by first | omega | (simp only [p6]; omega), trivial⟩ ?_
    refine WC.cond rfl (fun h41 => ?_) (fun h41 => ?_)
    ·have qh41 := h41
     try simp only [bf, within_iff, within_not] at qh41
     refine WC.rr tbk hs23 [] rfl trivial ?_
     refine WC.ret ?_
     refine tkR ?_
     clear hK40
     refine retV2 rfl (resV.tmp rfl) (resV.tmp rfl) ?_
     refine ⟨congrArg Ending.returned ?_, hs23.nil⟩
     have hno : runeL b = none := rread_no (by omega) hcl (fun r hr h1 h2 h3 => by
         omega)
     rw [hno]; rfl
    ·have qh41 := h41
     try simp only [bf, within_iff, within_not] at qh41
     refine WC.skip ?_
     refine hK40 _ _ ?_
     refine WC.sr ?_
     refine WL.run tbk 6 hs23 [] rfl ⟨by first | omega | (simp only [p6]; omega), by first | omega | (simp only [p6]; omega), trivial⟩ ?_
     refine WL.val rfl rfl rfl (Run.sliceLH (1) (1) Try.runUnderlying23 Try.sizeOf5 rfl rfl rfl rfl ?_ ?_ ?_) ?_
     · first | rfl | (first | omega | (simp only [p6]; omega))
     · first | rfl | (first | omega | (simp only [p6]; omega))
     · refine ⟨?_, ?_, ?_⟩ <;> (first | omega | (simp only [p6]; omega))
     refine WL.call rfl rfl rfl (Run.call Try.call183 rfl rfl rfl) (c_impl_tails _ _ _ _ _ (SlF.cutC (lo := 1) (hi := 1) (SlF.st0 f_b hs23) (by refine ⟨?_, ?_, ?_⟩ <;> (first | omega | (simp only [p6]; omega)))) ?_) ?_
     · first | assumption | rfl | omega
     rintro _ whs42 ⟨rfl, hs42⟩
     replace hs42 := hs23.call0 hs42
     refine ⟨_, rfl, ?_⟩
     refine WL.run tbk 3 hs42 [] rfl trivial ?_
     have htv := tlV_bnd (l := (b.drop 1).take (1 - 1)) (by rw [List.length_take, List.length_drop]; omega)
     refine WL.run tbk 2 hs42 [] rfl trivial ?_
     refine WL.nil ?_
     refine WC.sr ?_
     refine WL.run tbk 4 hs42 [] rfl ⟨by first | omega | (simp only [p6]; omega), by first | omega | (simp only [p6]; omega), trivial⟩ ?_
     refine WL.val rfl rfl rfl (Run.shl rfl rfl rfl ?_ ?_ ?_) ?_
     · first | omega | (simp only [p6]; omega)
     · first | omega | (simp only [p6]; omega)
     · simp only [p6]; constructor <;> omega
     refine WL.run tbk 1 hs42 [] rfl trivial ?_
     refine WL.val rfl rfl rfl (Run.or rfl rfl rfl ?_ ?_ ?_ ?_) ?_
     · first | omega | (simp only [p6]; omega)
     · first | omega | (simp only [p6]; omega)
     · first | omega | (simp only [p6]; omega)
     · first | omega | (simp only [p6]; omega)
     refine WL.run tbk 1 hs42 [] rfl trivial ?_
     refine WL.nil ?_
     refine WC.seq (fun K43 hK43 => ?_)
     refine WC.seq (fun K44 hK44 => ?_)
     refine WC.regionH2 (fun w' => St _ _ _ w') (fun w' => St _ _ _ w') mixed (St.drew hs42) (St.drew hs42) (fun whs45 hs45 => ?_)
     replace hs45 : St _ _ _ _ := hs45
     refine WH.take 0 rfl (by kernel_rfl) rfl rfl rfl hs45 (fun w_ hs_ => (Run.move rfl rfl)) ?_
     refine WH.take 1 rfl (by kernel_rfl) rfl rfl rfl hs45 (fun w_ hs_ => (Run.not rfl rfl)) ?_
     refine WH.take 2 rfl (by kernel_rfl) rfl rfl rfl hs45 (fun w_ hs_ => (Run.move rfl rfl)) ?_
     refine WH.split 58 rfl (fun g46 => ?_) (fun g46 => ?_)
     ·refine WH.takeSkip 3 rfl (by kernel_rfl) (wantNF rfl g46) rfl rfl hs45 ?_
      refine WH.takeSkip 5 rfl (by kernel_rfl) (wantNF rfl g46) rfl rfl hs45 ?_
      refine WH.takeSkip 6 rfl (by kernel_rfl) (wantNF rfl g46) rfl rfl hs45 ?_
      refine WH.takeSkip 7 rfl (by kernel_rfl) (wantNF rfl g46) rfl rfl hs45 ?_
      refine WH.takeSkip 8 rfl (by kernel_rfl) (wantNF rfl g46) rfl rfl hs45 ?_
      refine WH.takeSkip 9 rfl (by kernel_rfl) (wantNF rfl g46) rfl rfl hs45 ?_
      refine WH.takeSkip 10 rfl (by kernel_rfl) (wantNF rfl g46) rfl rfl hs45 ?_
      refine WH.all [4] (by kernel_rfl) rfl (WHs.cons (i := 4) rfl ?_ WHs.nil)
      refine WL.skip (wantNF rfl g46) rfl rfl ?_
      refine WL.nil ⟨hs45, ?_⟩
      refine WH.all [11] (by kernel_rfl) rfl (WHs.cons (i := 11) rfl ?_ WHs.nil)
      refine WL.skip (wantNF rfl g46) rfl rfl ?_
      refine WL.nil ⟨hs45, ?_⟩
      refine WH.takeSkip 12 rfl (by kernel_rfl) (wantNF rfl g46) rfl rfl hs45 ?_
      refine WH.take 13 rfl (by kernel_rfl) rfl rfl rfl hs45 (fun w_ hs_ => (Run.pickT rfl rfl g46 rfl)) ?_
      refine WH.done (by kernel_rfl) ?_
      refine hK44 _ _ ?_
      refine WC.cond rfl (fun h47 => ?_) (fun h47 => ?_)
      ·have qh47 := h47
       try simp only [bf, within_iff, within_not] at qh47
       refine WC.rr tbk hs45 [] rfl trivial ?_
       refine WC.ret ?_
       refine tkR ?_
       clear hK43
       refine retV2 rfl (resV.tmp rfl) (resV.tmp rfl) ?_
       refine ⟨congrArg Ending.returned ?_, hs45.nil⟩
       have hno : runeL b = none := rread_no (by omega) hcl (fun r hr h1 h2 h3 => by
           have h9 := ‹(!tlOk ((b.drop 1).take (1 - 1))) = true›
           rw [h2] at h9; cases h9)
       rw [hno]; rfl
      ·have qh47 := h47
       try simp only [bf, within_iff, within_not] at qh47
       refine WC.skip ?_
       refine hK43 _ _ ?_
       refine WC.rr tbk hs45 [] rfl trivial ?_
       refine WC.ret ?_
       refine retV2 rfl (resV.tmp rfl) (resV.tmp rfl) ?_
       refine ⟨congrArg Ending.returned ?_, hs45.nil⟩
       cases h47
     ·refine WH.take 3 rfl (by kernel_rfl) (wantF rfl g46) rfl rfl hs45 (fun w_ hs_ => (Run.move rfl rfl)) ?_
      refine WH.take 5 rfl (by kernel_rfl) (wantF rfl g46) rfl rfl hs45 (fun w_ hs_ => (Run.move rfl rfl)) ?_
      refine WH.take 6 rfl (by kernel_rfl) (wantF rfl g46) rfl rfl hs45 (fun w_ hs_ => (Run.move rfl rfl)) ?_
      refine WH.take 7 rfl (by kernel_rfl) (wantF rfl g46) rfl rfl hs45 (fun w_ hs_ => (Run.move rfl rfl)) ?_
      refine WH.take 8 rfl (by kernel_rfl) (wantF rfl g46) rfl rfl hs45 (fun w_ hs_ => (Run.move rfl rfl)) ?_
      refine WH.take 9 rfl (by kernel_rfl) (wantF rfl g46) rfl rfl hs45 (fun w_ hs_ => (Run.add rfl rfl rfl ?_)) ?_
      · constructor <;> first | omega | (simp only [p6]; omega)
      refine WH.take 10 rfl (by kernel_rfl) (wantF rfl g46) rfl rfl hs45 (fun w_ hs_ => (Run.sliceLH (0) (1) Try.runUnderlying23 Try.sizeOf5 rfl rfl rfl rfl ?_ ?_ ?_)) ?_
      · first | rfl | (first | omega | (simp only [p6]; omega))
      · first | rfl | (first | omega | (simp only [p6]; omega))
      · refine ⟨?_, ?_, ?_⟩ <;> (first | omega | (simp only [p6]; omega))
      refine WH.all [4] (by kernel_rfl) rfl (WHs.cons (i := 4) rfl ?_ WHs.nil)
      refine WL.call (wantF rfl g46) rfl rfl (Run.call Try.call61 rfl rfl rfl) (c_impl_RuneBytes _ _) ?_
      rintro _ whs48 ⟨A49, c50, L1_51, rfl, hs48, ho52⟩
      replace hs48 := hs45.callF hs48
      refine ⟨_, rfl, ?_⟩
      refine WL.nil ⟨(St.drop hs48 (List.sublist_append_right L1_51 _)), ?_⟩
      refine WH.all [11] (by kernel_rfl) rfl (WHs.cons (i := 11) rfl ?_ WHs.nil)
      refine WL.call (wantF rfl g46) rfl rfl (Run.call Try.call220 rfl rfl rfl) (c_slices_Equal_byte_byte _ _ _ _ _ _ _ _ _ (SlF.ofOwn ho52 (fun p_ hp_ => (hs48.own p_ (List.mem_append_left _ hp_)).1)) (SlF.cutC (lo := 0) (hi := 1) (SlF.st0 f_b hs48) (by refine ⟨?_, ?_, ?_⟩ <;> (first | omega | (simp only [p6]; omega)))) ?_) ?_
      · exact Nat.le_trans (runeB_len _) (by decide)
      rintro _ whs53 ⟨rfl, hs53⟩
      replace hs53 := hs48.call0 hs53
      refine ⟨_, rfl, ?_⟩
      refine WL.nil ⟨(St.drop hs53 (List.sublist_append_right L1_51 _)), ?_⟩
      refine WH.take 12 rfl (by kernel_rfl) (wantF rfl g46) rfl rfl (St.drop hs53 (List.sublist_append_right L1_51 _)) (fun w_ hs_ => (Run.not rfl rfl)) ?_
      refine WH.take 13 rfl (by kernel_rfl) rfl rfl rfl (St.drop hs53 (List.sublist_append_right L1_51 _)) (fun w_ hs_ => (Run.pick rfl rfl rfl rfl)) ?_
      refine WH.done (by kernel_rfl) ?_
      refine hK44 _ _ ?_
      refine WC.cond rfl (fun h54 => ?_) (fun h54 => ?_)
      ·have qh54 := h54
       try simp only [bf, within_iff, within_not] at qh54
       refine WC.rr tbk hs53 [] rfl trivial ?_
       refine WC.ret ?_
       refine tkR ?_
       clear hK43
       refine retV2 rfl (resV.tmp rfl) (resV.tmp rfl) ?_
       refine ⟨congrArg Ending.returned ?_, hs53.nil⟩
       have hrs := rsum_or (a := gat encB b 0) (t := ((b.drop 1).take (1 - 1))) (c := 1) (x := ((gat encB b 0).toNat : Int) * 2 ^ 0) (.inl ⟨rfl, rfl⟩) (by rw [List.length_take, List.length_drop]; omega)
       have hq9 : (bif !tlOk ((b.drop 1).take (1 - 1)) then true else !decide (runeB (rsum (gat encB b 0) ((b.drop 1).take (1 - 1)) 1) = b.take 1)) = true := by rw [← hrs]; exact h54
       have hno : runeL b = none := rread_no (by omega) hcl (fun r hr h1 h2 h3 => by
           rw [h2] at hq9; subst hr; have h10 : runeB (rsum (gat encB b 0) ((b.drop 1).take (1 - 1)) 1) = b.take 1 := h3; rw [h10, decide_eq_true rfl] at hq9; cases hq9)
       rw [hno]; rfl
      ·have qh54 := h54
       try simp only [bf, within_iff, within_not] at qh54
       refine WC.skip ?_
       refine hK43 _ _ ?_
       refine WC.rr tbk hs53 [] rfl trivial ?_
       refine WC.ret ?_
       refine retV2 rfl (resV.tmp rfl) (resV.tmp rfl) ?_
       refine ⟨congrArg Ending.returned ?_, hs53.nil⟩
       have hrs := rsum_or (a := gat encB b 0) (t := ((b.drop 1).take (1 - 1))) (c := 1) (x := ((gat encB b 0).toNat : Int) * 2 ^ 0) (.inl ⟨rfl, rfl⟩) (by rw [List.length_take, List.length_drop]; omega)
       have hq9 : (bif !tlOk ((b.drop 1).take (1 - 1)) then true else !decide (runeB (rsum (gat encB b 0) ((b.drop 1).take (1 - 1)) 1) = b.take 1)) = false := by rw [← hrs]; exact h54
       rcases h11 : tlOk ((b.drop 1).take (1 - 1)) with _ | _ <;> rw [h11] at hq9
       · cases hq9
       have hyes := rread_yes (by omega) hcl (by omega) h11 hrs (by rw [hrs]; by_cases h12 : runeB (rsum (gat encB b 0) ((b.drop 1).take (1 - 1)) 1) = b.take 1; exact h12; rw [decide_eq_false h12] at hq9; cases hq9)
       rw [hyes]; rfl
end Go.Proofs.Ytlmcekfdlgkffaa
