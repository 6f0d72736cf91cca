/- Walks of Go functions, printed by a program (wip/gen). -/
import Derived.Test.YtlmcekfdlgkffaaM15
import Derived.Test.YtlmcekfdlgkffaaK2
import Derived.Test.YtlmcekfdlgkffaaV2
namespace Go.Proofs.Ytlmcekfdlgkffaa
open Go Go.RowKit
set_option linter.unusedVariables false
set_option linter.unusedSimpArgs false
theorem c_impl_bit (b : Bool) (k : Int) (w : World) :
    Calls Try.prog 173 #[.bool b, i64 k] w fun e w' => e = .returned (.int .i64 (bitI b k)) ∧ St w [] [] w' := by
 refine enter (vs := [.bool b, i64 k]) 7 Try.func173 rfl Try.ntmps173 rfl rfl ?_
 have hs1 := St.init w
 refine WC.rr tbk hs1 [] rfl trivial ?_
 refine WC.seq (fun K2 hK2 => ?_)
 refine WC.rr tbk hs1 [] rfl trivial ?_
 refine WC.cond rfl (fun h3 => ?_) (fun h3 => ?_)
 ·have qh3 := h3
  try simp only [bf, within_iff, within_not] at qh3
  refine WC.rr tbk hs1 [] rfl trivial ?_
  refine WC.ret ?_
  refine tkR ?_
  clear hK2
  refine retV1 rfl (resV.tmp rfl) ?_
  refine ⟨congrArg Ending.returned ?_, hs1.nil⟩
  rw [show bitI b k = k from by unfold bitI; rw [h3]; rfl]
 ·have qh3 := h3
  try simp only [bf, within_iff, within_not] at qh3
  refine WC.skip ?_
  refine hK2 _ _ ?_
  refine WC.rr tbk hs1 [] rfl trivial ?_
  refine WC.ret ?_
  refine retV1 rfl (resV.tmp rfl) ?_
  refine ⟨congrArg Ending.returned ?_, hs1.nil⟩
  rw [show bitI b k = 0 from by unfold bitI; rw [h3]; rfl]
theorem c_spec_l12Flags (A_l : Option Addr) (n_l c_l : Nat) (l : List Bool) (w : World) (f_l : SlF encT w A_l n_l l) (hn : n_l ≤ 5) :
    Calls Try.prog 124 #[.slice A_l n_l c_l] w fun e w' => e = .returned (.int .i64 (flagsL l)) ∧ St w [] [] w' := by
 have hl := f_l.len
 refine enter (vs := [.slice A_l n_l c_l]) 21 Try.func124 rfl Try.ntmps124 rfl rfl ?_
 have hs1 := St.init w
 refine WC.rr tbk hs1 [] rfl trivial ?_
 refine WC.rr tbk hs1 [] rfl trivial ?_
 refine WC.seq (fun K2 hK2 => ?_)
 refine WC.rr tbk hs1 [] rfl ⟨by omega, trivial⟩ ?_
 refine WC.block ?_
 refine WC.loopS [(0, _), (2, _)] ⟨rfl, rfl, trivial⟩ hs1 (fun k_ f w' => ∃ (i : Nat), k_ = i + i ∧ (i ≤ l.length) ∧ Sub [(4, .int .i64 ((i : Int) - 1)), (3, .int .i64 (flagsL (l.drop i)))] f) ((fun (i : Nat) => i + i) (l.length)) ?_ ?_
 ·refine ⟨l.length, rfl, ?_, ⟨?_, ?_, trivial⟩⟩
  · exact Nat.le_refl _
  · (refine congrArg some (congrArg (Value.int _) ?_); omega)
  · (refine congrArg some (congrArg (Value.int _) ?_); rw [List.drop_length]; rfl)
 ·clear hs1
  rintro _ f w ⟨i, rfl, p0, hG⟩ hF hs3
  refine WC.sub _ (hG.app hF) ?_
  clear hG hF
  have hfb := flagsL_le (l := l.drop i) (by rw [List.length_drop]; omega)
  refine WC.seq (fun K4 hK4 => ?_)
  refine WC.rr tbk hs3 [] rfl trivial ?_
  refine WC.cond rfl (fun h5 => ?_) (fun h5 => ?_)
  ·have qh5 := h5
   try simp only [bf, within_iff, within_not] at qh5
   have hfd : flagsL (l.drop (i - 1)) = flagsL (l.drop i) * 2 + bitI (gat encT l (i - 1)) 1 := by have h9 := flagsL_drop (l := l) (i := i - 1) (by omega); rwa [show i - 1 + 1 = i by omega] at h9
   refine WC.skip ?_
   refine hK4 _ _ ?_
   refine WC.seq (fun K6 hK6 => ?_)
   refine WC.block ?_
   refine WC.rr tbk hs3 [] rfl ⟨by omega, trivial⟩ ?_
   refine WC.sr ?_
   refine WL.run tbk 2 hs3 [] rfl trivial ?_
   refine WL.val rfl rfl rfl (Run.idxK (i - 1) Try.runUnderlying148 Try.sizeOf4 rfl rfl rfl ?_ ?_ ?_) ?_
   · exact SlF.some_ (SlF.st0 f_l hs3)
   · omega
   · omega
   refine WL.val rfl rfl rfl (Run.load Try.isAgg4 rfl rfl (SlF.one1 (SlF.st0 f_l hs3) ?_ rfl)) ?_
   · omega
   refine WL.nil ?_
   refine WC.cond rfl (fun h7 => ?_) (fun h7 => ?_)
   ·have qh7 := h7
    try simp only [bf, within_iff, within_not] at qh7
    have hb1 : bitI (gat encT l (i - 1)) 1 = 1 := by unfold bitI; rw [h7]; rfl
    refine WC.region ?_
    refine WL.run tbk 3 hs3 [] rfl ⟨by omega, trivial⟩ ?_
    refine WL.nil ?_
    refine hK6 _ _ ?_
    refine WC.region ?_
    refine WL.run tbk 3 hs3 [] rfl ⟨by omega, trivial⟩ ?_
    refine WL.nil ?_
    refine tkN ?_
    refine ⟨⟨rfl, rfl, trivial⟩, hs3, _, ?_, i - 1, rfl, ?_, ⟨?_, ?_, trivial⟩⟩
    · omega
    · omega
    · (refine congrArg some (congrArg (Value.int _) ?_); omega)
    · (refine congrArg some (congrArg (Value.int _) ?_); rw [hfd, hb1]; try omega)
   ·have qh7 := h7
    try simp only [bf, within_iff, within_not] at qh7
    have hb1 : bitI (gat encT l (i - 1)) 1 = 0 := by unfold bitI; rw [h7]; rfl
    refine WC.skip ?_
    refine hK6 _ _ ?_
    refine WC.region ?_
    refine WL.run tbk 3 hs3 [] rfl ⟨by omega, trivial⟩ ?_
    refine WL.nil ?_
    refine tkN ?_
    refine ⟨⟨rfl, rfl, trivial⟩, hs3, _, ?_, i - 1, rfl, ?_, ⟨?_, ?_, trivial⟩⟩
    · omega
    · omega
    · (refine congrArg some (congrArg (Value.int _) ?_); omega)
    · (refine congrArg some (congrArg (Value.int _) ?_); rw [hfd, hb1]; try omega)
  ·have qh5 := h5
   try simp only [bf, within_iff, within_not] at qh5
   refine WC.exit ?_
   refine hK2 _ _ ?_
   refine WC.rr tbk hs3 [] rfl trivial ?_
   refine WC.ret ?_
   refine retV1 rfl (resV.tmp rfl) ?_
   refine ⟨congrArg Ending.returned ?_, hs3.nil⟩
   rw [show i = 0 by omega, List.drop_zero]
theorem c_spec_l12List (v_b : Value) (b : List UInt8) (L_b : Hp) (A_l : Option Addr) (n_l c_l : Nat) (l : List Int) (w : World) (o_b : OwnF encB 5 v_b b L_b) (h_b : ∀ p, p ∈ L_b → w.heap[p.1]? = some p.2) (f_l : SlF encI w A_l n_l l) (s_l : 0 < n_l → (adr A_l).block ∉ L_b.map (·.1)) (hl : ∀ x, x ∈ l → 0 ≤ x ∧ x ≤ 4294967295) (hx : b.length + 5 * n_l ≤ 268435400) :
    Calls Try.prog 126 #[v_b, .slice A_l n_l c_l] w fun e w' => ∃ A c L1, e = .returned (.slice A (b ++ varL l.length ++ numsL l).length c) ∧ St w (L_b.map (·.1)) L1 w' ∧ OwnF encB 5 (.slice A (b ++ varL l.length ++ numsL l).length c) (b ++ varL l.length ++ numsL l) L1 := by
 obtain ⟨A_b, c_b, rfl⟩ := o_b.shape
 have hll := f_l.len
 have hvl := varL_len ((n_l : Int)).toNat (by omega)
 refine enter (vs := [.slice A_b b.length c_b, .slice A_l n_l c_l]) 15 Try.func126 rfl Try.ntmps126 rfl rfl ?_
 have hs1 := St.lent1 w L_b o_b h_b
 refine WC.rr tbk hs1 [] rfl trivial ?_
 refine WC.sr ?_
 refine WL.run tbk 3 hs1 [] rfl trivial ?_
 refine WL.call rfl rfl rfl (Run.call Try.call128 rfl rfl rfl) (c_spec_PutVar _ _ _ _ _ _ (SlF.ofOwn o_b (fun p_ hp_ => (hs1.own p_ (List.mem_append_left _ hp_)).1)) ?_ ?_ ?_) ?_
 · omega
 · omega
 · omega
 rintro _ whs2 ⟨A3, c4, L1_5, rfl, hs2, ho6⟩
 replace hs2 := hs1.callF hs2
 refine ⟨_, rfl, ?_⟩
 refine WL.run tbk 4 hs2 [] rfl trivial ?_
 refine WL.nil ?_
 refine WC.sr ?_
 refine WL.run tbk 2 hs2 [] rfl trivial ?_
 refine WL.call rfl rfl rfl (Run.call Try.call123 rfl rfl rfl) (c_spec_l12Nums _ _ _ _ _ _ _ _ ho6 (fun p_ hp_ => (hs2.own p_ (List.mem_append_left _ hp_)).1) (SlF.st f_l hs2 s_l) (St.sepT hs2 f_l s_l) ?_ ?_) ?_
 · exact hl
 · simp only [List.length_append]; omega
 rintro _ whs7 ⟨A8, c9, L1_10, rfl, hs7, ho11⟩
 replace hs7 := St.lend hs2 hs7
 refine ⟨_, rfl, ?_⟩
 refine WL.run tbk 1 hs7 [] rfl trivial ?_
 refine WL.nil ?_
 refine WC.ret ?_
 refine retV1 rfl (resV.tmp rfl) ?_
 have hx_ := OwnF.eqOf (xs := b ++ varL l.length ++ numsL l) ho11 (by rw [← hll] at *; first | rfl | simp)
 rw [← hx_]
 first | exact ⟨_, _, _, rfl, (St.keep1 hs7), ho11⟩ | exact ⟨A8, c9, _, by rw [OwnF.len_ ho11], (St.keep1 hs7), by rw [OwnF.len_ ho11]; exact ho11⟩
end Go.Proofs.Ytlmcekfdlgkffaa
