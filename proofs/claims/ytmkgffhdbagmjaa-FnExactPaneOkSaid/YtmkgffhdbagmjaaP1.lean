/- Walks of Go functions, printed by a program (wip/gen). -/
import Derived.Test.YtmkgffhdbagmjaaM7
import Derived.Test.YtmkgffhdbagmjaaH2
import Derived.Test.YtmkgffhdbagmjaaK1
namespace Go.Proofs.Ytmkgffhdbagmjaa
open Go Go.RowKit
set_option linter.unusedVariables false
set_option linter.unusedSimpArgs false
theorem c_impl_tails (A_b : Option Addr) (n_b c_b : Nat) (b : List UInt8) (w : World) (f_b : SlF encB w A_b n_b b) (hn : n_b ≤ 2) :
    Calls Try.prog 102 #[.slice A_b n_b c_b] w fun e w' => e = .returned (.tuple #[.int .i64 (tlV b : Nat), .bool (tlOk b)]) ∧ St w [] [] w' := by
 have hbl := f_b.len
 refine enter (vs := [.slice A_b n_b c_b]) 24 Try.func102 rfl Try.ntmps102 rfl rfl ?_
 have hs1 := St.init w
 refine WC.rr tbk hs1 [] rfl trivial ?_
 refine WC.rr tbk hs1 [] rfl trivial ?_
 refine WC.seq (fun K2 hK2 => ?_)
 refine WC.rr tbk hs1 [] rfl trivial ?_
 refine WC.block ?_
 refine WC.loopS [(0, _), (7, _), (8, _)] ⟨rfl, rfl, rfl, trivial⟩ hs1 (fun k_ f w' => ∃ (i : Nat), k_ = n_b - i ∧ (i ≤ n_b) ∧ (tlOk (b.take i) = true) ∧ Sub [(9, .int .i64 i), (4, .int .i64 (tlN (b.take i) : Nat))] f) ((fun (i : Nat) => n_b - i) (0)) ?_ ?_
 ·refine ⟨0, rfl, ?_, ?_, ⟨rfl, ?_, trivial⟩⟩
  · exact Nat.zero_le _
  · rfl
  · rfl
 ·clear hs1
  rintro _ f w ⟨i, rfl, p0, p1, hG⟩ hF hs3
  refine WC.sub _ (hG.app hF) ?_
  clear hG hF
  have hb_ := tlN_bnd (l := b.take i) (by rw [List.length_take]; omega)
  simp only [List.length_take] at hb_
  refine WC.rr tbk hs3 [] rfl trivial ?_
  refine WC.seq (fun K4 hK4 => ?_)
  refine WC.cD rfl (fun qh5 => ?_) (fun qh5 => ?_)
  ·refine WC.skip ?_
   refine hK4 _ _ ?_
   refine WC.seq (fun K6 hK6 => ?_)
   refine WC.block ?_
   refine WC.sr ?_
   refine WL.val rfl rfl rfl (Run.idxN Try.runUnderlying23 Try.sizeOf5 rfl rfl rfl ?_ ?_ ?_) ?_
   · exact SlF.some_ (SlF.st0 f_b hs3)
   · omega
   · omega
   refine WL.val rfl rfl rfl (Run.load Try.isAgg5 rfl rfl (SlF.one1 (SlF.st0 f_b hs3) ?_ rfl)) ?_
   · omega
   refine WL.run tbk 1 hs3 [] rfl trivial ?_
   refine WL.nil ?_
   refine WC.seq (fun K7 hK7 => ?_)
   refine WC.sr ?_
   refine WL.run tbk 1 hs3 [] rfl trivial ?_
   refine WL.val rfl rfl rfl (Run.quoB 64 rfl rfl rfl ?_ ?_) ?_
   · decide
   · decide
   refine WL.run tbk 1 hs3 [] rfl trivial ?_
   refine WL.nil ?_
   refine WC.cN rfl (fun qh8 => ?_) (fun qh8 => ?_)
   ·refine WC.rr tbk hs3 [] rfl trivial ?_
    refine WC.ret ?_
    refine tkR (ibR (tkR (tkR (ibR (tkR ?_)))))
    clear hK7 hK6 hK2
    refine retV2 rfl (resV.tmp rfl) (resV.tmp rfl) ?_
    refine ⟨congrArg Ending.returned ?_, hs3.nil⟩
    simp only [u8_div] at qh8
    have hbad := tlOk_bad (l := b) (i := i) (by omega) (by omega)
    rw [hbad, show tlV b = 0 from if_neg (by rw [hbad]; decide)]; rfl
   ·refine WC.skip ?_
    refine hK7 _ _ ?_
    refine WC.region ?_
    refine WL.run tbk 3 hs3 [] rfl ⟨?_, trivial⟩ ?_
    · constructor <;> omega
    refine WL.val rfl rfl rfl (Run.remB 64 rfl rfl rfl ?_ ?_) ?_
    · decide
    · decide
    refine WL.run tbk 3 hs3 [] rfl ⟨?_, (u8_in _), trivial⟩ ?_
    · rw [u8_mod]; constructor <;> omega
    refine WL.nil ?_
    refine hK6 _ _ ?_
    refine WC.region ?_
    refine WL.run tbk 2 hs3 [] rfl ⟨by omega, trivial⟩ ?_
    refine WL.nil ?_
    refine tkN ?_
    refine ⟨⟨rfl, rfl, rfl, trivial⟩, hs3, _, ?_, i + 1, rfl, ?_, ?_, ⟨rfl, ?_, trivial⟩⟩
    · omega
    · omega
    · simp only [u8_div] at qh8; rw [tlOk_take (by omega), p1, Bool.true_and, decide_eq_true_eq]; omega
    · refine congrArg some (congrArg (Value.int _) ?_); rw [tlN_take (by omega), u8_mod]; omega
  ·refine WC.exit ?_
   refine hK2 _ _ ?_
   refine WC.rr tbk hs3 [] rfl trivial ?_
   refine WC.ret ?_
   refine retV2 rfl (resV.tmp rfl) (resV.tmp rfl) ?_
   refine ⟨congrArg Ending.returned ?_, hs3.nil⟩
   have ht : b.take i = b := List.take_of_length_le (by omega)
   rw [ht] at p1
   rw [p1, ht, show tlV b = tlN b from if_pos p1]
theorem c_spec_RuneBytes (r : Int) (w : World) :
    Calls Try.prog 114 #[i64 r] w fun e w' => ∃ A c L1, e = .returned (.slice A (runeB r).length c) ∧ St w [] L1 w' ∧ OwnF encB 5 (.slice A (runeB r).length c) (runeB r) L1 := by
 refine enter (vs := [i64 r]) 36 Try.func114 rfl Try.ntmps114 rfl rfl ?_
 have hs1 := St.init w
 refine WC.rr tbk hs1 [] rfl trivial ?_
 refine WC.seq (fun K2 hK2 => ?_)
 refine WC.sr ?_
 refine WL.run tbk 1 hs1 [] rfl trivial ?_
 refine WL.call rfl rfl rfl (Run.call Try.call115 rfl rfl rfl) (c_spec_Shows _ _) ?_
 rintro _ whs3 ⟨rfl, hs3⟩
 replace hs3 := hs1.call0 hs3
 refine ⟨_, rfl, ?_⟩
 refine WL.run tbk 1 hs3 [] rfl trivial ?_
 refine WL.nil ?_
 refine WC.cond rfl (fun h4 => ?_) (fun h4 => ?_)
 ·have qh4 := h4
  try simp only [bf, within_iff, within_not] at qh4
  have hsh : shows r = false := by simpa using qh4
  refine WC.rr tbk hs3 [] rfl trivial ?_
  refine WC.ret ?_
  refine tkR ?_
  clear hK2
  refine retV1 rfl (resV.tmp rfl) ?_
  have hx_ := OwnF.eqOf (xs := runeB r) (OwnF.nil encB 5) (by simp [runeB, hsh])
  rw [← hx_]
  exact ⟨_, _, _, rfl, hs3.nil, (OwnF.nil encB 5)⟩
 ·have qh4 := h4
  try simp only [bf, within_iff, within_not] at qh4
  have hsh : shows r = true := by simpa using qh4
  have hsi := shows_iff.1 hsh
  refine WC.skip ?_
  refine hK2 _ _ ?_
  refine WC.seq (fun K5 hK5 => ?_)
  refine WC.rr tbk hs3 [] rfl trivial ?_
  refine WC.cD rfl (fun qh6 => ?_) (fun qh6 => ?_)
  ·refine WC.sr ?_
   refine WL.run tbk 2 hs3 [] rfl trivial ?_
   refine WL.buildF (F := encB) hs3 ([ub r]) Try.runUnderlying23 Try.sizeOf5 Try.zeroValue5 rfl rfl rfl rfl rfl rfl rfl rfl rfl rfl rfl rfl (fun A10 c11 L7 whs8 hs8 ho9 => ?_)
   refine WL.run tbk 1 hs8 [] rfl trivial ?_
   refine WL.nil ?_
   refine WC.ret ?_
   refine tkR ?_
   clear hK5
   refine retV1 rfl (resV.tmp rfl) ?_
   have hx_ := OwnF.eqOf (xs := runeB r) ho9 (by unfold runeB; rw [hsh, if_neg (by decide), if_pos (by omega)])
   rw [← hx_]
   first | exact ⟨_, _, _, rfl, (St.keep1 hs8), ho9⟩ | exact ⟨A10, c11, _, by rw [OwnF.len_ ho9], (St.keep1 hs8), by rw [OwnF.len_ ho9]; exact ho9⟩
  ·refine WC.skip ?_
   refine hK5 _ _ ?_
   refine WC.seq (fun K12 hK12 => ?_)
   refine WC.rr tbk hs3 [] rfl trivial ?_
   refine WC.cD rfl (fun qh13 => ?_) (fun qh13 => ?_)
   ·refine WC.sr ?_
    refine WL.run tbk 1 hs3 [] rfl trivial ?_
    refine WL.val rfl rfl rfl (Run.quo rfl rfl rfl ?_ ?_ ?_) ?_
    · omega
    · omega
    · omega
    refine WL.run tbk 3 hs3 [] rfl ⟨by omega, trivial⟩ ?_
    refine WL.val rfl rfl rfl (Run.rem rfl rfl rfl ?_ ?_) ?_
    · omega
    · omega
    refine WL.run tbk 2 hs3 [] rfl ⟨by omega, trivial⟩ ?_
    refine WL.buildF (F := encB) hs3 ([ub (192 + r / 64), ub (128 + r % 64)]) Try.runUnderlying23 Try.sizeOf5 Try.zeroValue5 rfl rfl rfl rfl rfl rfl rfl rfl rfl rfl rfl rfl (fun A17 c18 L14 whs15 hs15 ho16 => ?_)
    refine WL.run tbk 1 hs15 [] rfl trivial ?_
    refine WL.nil ?_
    refine WC.ret ?_
    refine tkR ?_
    clear hK12
    refine retV1 rfl (resV.tmp rfl) ?_
    have hx_ := OwnF.eqOf (xs := runeB r) ho16 (by unfold runeB; rw [hsh, if_neg (by decide), if_neg (by omega), if_pos (by omega)])
    rw [← hx_]
    first | exact ⟨_, _, _, rfl, (St.keep1 hs15), ho16⟩ | exact ⟨A17, c18, _, by rw [OwnF.len_ ho16], (St.keep1 hs15), by rw [OwnF.len_ ho16]; exact ho16⟩
   ·refine WC.skip ?_
    refine hK12 _ _ ?_
    refine WC.sr ?_
    refine WL.run tbk 1 hs3 [] rfl trivial ?_
    refine WL.val rfl rfl rfl (Run.quo rfl rfl rfl ?_ ?_ ?_) ?_
    · omega
    · omega
    · omega
    refine WL.run tbk 3 hs3 [] rfl ⟨by omega, trivial⟩ ?_
    refine WL.val rfl rfl rfl (Run.quo rfl rfl rfl ?_ ?_ ?_) ?_
    · omega
    · omega
    · omega
    refine WL.val rfl rfl rfl (Run.rem rfl rfl rfl ?_ ?_) ?_
    · omega
    · omega
    refine WL.run tbk 3 hs3 [] rfl ⟨by omega, trivial⟩ ?_
    refine WL.val rfl rfl rfl (Run.rem rfl rfl rfl ?_ ?_) ?_
    · omega
    · omega
    refine WL.run tbk 2 hs3 [] rfl ⟨by omega, trivial⟩ ?_
    refine WL.buildF (F := encB) hs3 ([ub (224 + r / 4096), ub (128 + r / 64 % 64), ub (128 + r % 64)]) Try.runUnderlying23 Try.sizeOf5 Try.zeroValue5 rfl rfl rfl rfl rfl rfl rfl rfl rfl rfl rfl rfl (fun A22 c23 L19 whs20 hs20 ho21 => ?_)
    refine WL.run tbk 1 hs20 [] rfl trivial ?_
    refine WL.nil ?_
    refine WC.ret ?_
    refine retV1 rfl (resV.tmp rfl) ?_
    have hx_ := OwnF.eqOf (xs := runeB r) ho21 (by unfold runeB; rw [hsh, if_neg (by decide), if_neg (by omega), if_neg (by omega)])
    rw [← hx_]
    first | exact ⟨_, _, _, rfl, (St.keep1 hs20), ho21⟩ | exact ⟨A22, c23, _, by rw [OwnF.len_ ho21], (St.keep1 hs20), by rw [OwnF.len_ ho21]; exact ho21⟩
end Go.Proofs.Ytmkgffhdbagmjaa
