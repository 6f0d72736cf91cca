/- Walks of Go functions, printed by a program (wip/gen). -/
import Derived.Test.YtlmcekfdlgkffaaG1
namespace Go.Proofs.Ytlmcekfdlgkffaa
open Go Go.RowKit
set_option linter.unusedVariables false
set_option linter.unusedSimpArgs false
theorem c_impl_putVar (v_b : Value) (b : List UInt8) (L_b : Hp) (n : Int) (w : World) (o_b : OwnF encB 5 v_b b L_b) (h_b : ∀ p, p ∈ L_b → w.heap[p.1]? = some p.2) (h0 : 0 ≤ n) (h1 : n ≤ 34359738367) (hx : b.length ≤ 268435456) :
    Calls Try.prog 176 #[v_b, i64 n] w fun e w' => ∃ A c L1, e = .returned (.slice A (b ++ varL n.toNat).length c) ∧ St w (L_b.map (·.1)) L1 w' ∧ OwnF encB 5 (.slice A (b ++ varL n.toNat).length c) (b ++ varL n.toNat) L1 := by
 obtain ⟨A_b, c_b, rfl⟩ := o_b.shape
 have hvl := varL_len n.toNat (by omega)
 refine enter (vs := [.slice A_b b.length c_b, i64 n]) 21 Try.func176 rfl Try.ntmps176 rfl rfl ?_
 have hs1 := St.lent1 w L_b o_b h_b
 refine WC.rr tbk hs1 [] rfl trivial ?_
 refine WC.seq (fun K2 hK2 => ?_)
 refine WC.block ?_
 refine WC.loopO [(4, _)] ⟨rfl, trivial⟩ hs1 (fun k_ f L_ => ∃ (zs : List UInt8) (q : Int) (A3 : Option Addr) (c4 : Nat), k_ = q.toNat ∧ (0 ≤ q) ∧ (q ≤ n) ∧ (b ++ varL n.toNat = zs ++ varL q.toNat) ∧ OwnF encB 5 (.slice A3 (zs.length) c4) (zs) L_ ∧ Sub [(0, .slice A3 (zs.length) c4), (1, .int .i64 q)] f) (((fun (zs : List UInt8) (q : Int) => q.toNat) (b) (n))) ?_ ?_
 ·refine ⟨b, n, _, _, rfl, ?_, ?_, ?_, o_b, ⟨rfl, rfl, trivial⟩⟩
  · exact h0
  · exact Int.le_refl _
  · rfl
 ·clear hs1
  rintro _ f w L5 ⟨zs, q, A3, c4, rfl, p0, p1, p2, ho6, hG⟩ hF hs7
  refine WC.sub _ (hG.app hF) ?_
  clear hG hF
  have hlen := congrArg List.length p2
  simp only [List.length_append] at hlen
  refine WC.seq (fun K8 hK8 => ?_)
  refine WC.rr tbk hs7 [] rfl trivial ?_
  refine WC.cond rfl (fun h9 => ?_) (fun h9 => ?_)
  ·have qh9 := h9
   try simp only [bf, within_iff, within_not] at qh9
   refine WC.skip ?_
   refine hK8 _ _ ?_
   refine WC.block ?_
   refine WC.sr ?_
   refine WL.run tbk 2 hs7 [] rfl trivial ?_
   refine WL.val rfl rfl rfl (Run.rem rfl rfl rfl ?_ ?_) ?_
   · omega
   · omega
   refine WL.run tbk 2 hs7 [] rfl ⟨by omega, trivial⟩ ?_
   refine WL.buildSlice hs7 Try.runUnderlying23 Try.sizeOf5 Try.zeroValue5 rfl rfl rfl rfl rfl rfl rfl rfl rfl rfl (fun b10 whs11 hs11 => ?_)
   refine WL.appendG (St.perm hs11 (L' := L5 ++ _) (perm_front (A := [_]) (List.Perm.refl _))) ho6 (srcB1 Try.underlying23 (hs11.own _ (nthL_mem (i := 0) rfl)).1) Try.underlying23 info_5 rfl rfl rfl rfl rfl rfl rfl rfl rfl rfl ?_ (fun A15 c16 L12 whs13 hs13 ho14 => ?_)
   · simp only [List.length_append, List.length_singleton]; omega
   replace hs13 := St.back [_] hs13
   refine WL.run tbk 1 hs13 [] rfl trivial ?_
   refine WL.nil ?_
   refine WC.region ?_
   refine WL.run tbk 1 hs13 [] rfl trivial ?_
   refine WL.val rfl rfl rfl (Run.quo rfl rfl rfl ?_ ?_ ?_) ?_
   · omega
   · omega
   · omega
   refine WL.run tbk 1 hs13 [] rfl trivial ?_
   refine WL.nil ?_
   refine ibN ?_
   refine tkN ?_
   replace hs13 := St.drop hs13 (List.sublist_append_right [_] _)
   refine ⟨⟨rfl, trivial⟩, _, hs13, _, ?_, _, _, _, _, rfl, ?_, ?_, ?_, ho14, ⟨rfl, rfl, trivial⟩⟩
   · omega
   · omega
   · omega
   · rw [p2, List.append_assoc, List.singleton_append, ub_big (by omega)]
  ·have qh9 := h9
   try simp only [bf, within_iff, within_not] at qh9
   refine WC.exit ?_
   refine hK2 _ _ ?_
   refine WC.sr ?_
   refine WL.run tbk 3 hs7 [] rfl trivial ?_
   refine WL.buildSlice hs7 Try.runUnderlying23 Try.sizeOf5 Try.zeroValue5 rfl rfl rfl rfl rfl rfl rfl rfl rfl rfl (fun b17 whs18 hs18 => ?_)
   refine WL.appendG (St.perm hs18 (L' := L5 ++ _) (perm_front (A := [_]) (List.Perm.refl _))) ho6 (srcB1 Try.underlying23 (hs18.own _ (nthL_mem (i := 0) rfl)).1) Try.underlying23 info_5 rfl rfl rfl rfl rfl rfl rfl rfl rfl rfl ?_ (fun A22 c23 L19 whs20 hs20 ho21 => ?_)
   · simp only [List.length_append, List.length_singleton]; omega
   replace hs20 := St.back [_] hs20
   refine WL.run tbk 1 hs20 [] rfl trivial ?_
   refine WL.nil ?_
   refine WC.ret ?_
   refine retV1 rfl (resV.tmp rfl) ?_
   have hx_ := OwnF.eqOf (xs := b ++ varL n.toNat) ho21 (by rw [p2, ← ub_small p0 (by omega)])
   rw [← hx_]
   first | exact ⟨_, _, _, rfl, (St.keep1 (St.perm hs20 (L' := L19 ++ _) (perm_front (A := [_]) (List.Perm.refl _)))), ho21⟩ | exact ⟨A22, c23, _, by rw [OwnF.len_ ho21], (St.keep1 (St.perm hs20 (L' := L19 ++ _) (perm_front (A := [_]) (List.Perm.refl _)))), by rw [OwnF.len_ ho21]; exact ho21⟩
theorem c_impl_putVars (v_b : Value) (b : List UInt8) (L_b : Hp) (A_l : Option Addr) (n_l c_l : Nat) (l : List Int) (w : World) (o_b : OwnF encB 5 v_b b L_b) (h_b : ∀ p, p ∈ L_b → w.heap[p.1]? = some p.2) (f_l : SlF encI w A_l n_l l) (s_l : 0 < n_l → (adr A_l).block ∉ L_b.map (·.1)) (hl : ∀ x, x ∈ l → 0 ≤ x ∧ x ≤ 34359738367) (hx : b.length + 5 * n_l ≤ 268435456) :
    Calls Try.prog 174 #[v_b, .slice A_l n_l c_l] w fun e w' => ∃ A c L1, e = .returned (.slice A (b ++ numsL l).length c) ∧ St w (L_b.map (·.1)) L1 w' ∧ OwnF encB 5 (.slice A (b ++ numsL l).length c) (b ++ numsL l) L1 := by
 obtain ⟨A_b, c_b, rfl⟩ := o_b.shape
 refine enter (vs := [.slice A_b b.length c_b, .slice A_l n_l c_l]) 18 Try.func174 rfl Try.ntmps174 rfl rfl ?_
 have hs1 := St.lent1 w L_b o_b h_b
 refine WC.rr tbk hs1 [] rfl trivial ?_
 refine WC.seq (fun K2 hK2 => ?_)
 refine WC.rr tbk hs1 [] rfl trivial ?_
 refine WC.block ?_
 refine WC.loopO [(4, _), (7, _), (8, _)] ⟨rfl, rfl, rfl, trivial⟩ hs1 (fun k_ f L_ => ∃ (zs : List UInt8) (i : Nat) (A3 : Option Addr) (c4 : Nat), k_ = n_l - i ∧ (i ≤ n_l) ∧ (zs = b ++ numsL (l.take i)) ∧ OwnF encB 5 (.slice A3 (zs.length) c4) (zs) L_ ∧ Sub [(0, .slice A3 (zs.length) c4), (9, .int .i64 i)] f) (((fun (zs : List UInt8) (i : Nat) => n_l - i) (b) (0))) ?_ ?_
 ·refine ⟨b, 0, _, _, rfl, ?_, ?_, o_b, ⟨rfl, rfl, trivial⟩⟩
  · exact Nat.zero_le _
  · simp [numsL]
 ·clear hs1
  rintro _ f w L5 ⟨zs, i, A3, c4, rfl, p0, p1, ho6, hG⟩ hF hs7
  refine WC.sub _ (hG.app hF) ?_
  clear hG hF
  have hb5 := numsL_len (l := l.take i) (fun x hx => (hl x (List.mem_of_mem_take hx)).2)
  have hbl := congrArg List.length p1
  simp only [List.length_append, List.length_take] at hbl hb5
  refine WC.rr tbk hs7 [] rfl trivial ?_
  refine WC.seq (fun K8 hK8 => ?_)
  refine WC.cond rfl (fun h9 => ?_) (fun h9 => ?_)
  ·have qh9 := h9
   try simp only [bf, within_iff, within_not] at qh9
   have hi_ := hl (iat l i) (gat_mem (by rw [f_l.len]; omega))
   refine WC.skip ?_
   refine hK8 _ _ ?_
   refine WC.seq (fun K10 hK10 => ?_)
   refine WC.block ?_
   refine WC.sr ?_
   refine WL.val rfl rfl rfl (Run.idxN Try.runUnderlying22 Try.sizeOf3 rfl rfl rfl ?_ ?_ ?_) ?_
   · exact SlF.some_ (SlF.st f_l hs7 s_l)
   · omega
   · omega
   refine WL.val rfl rfl rfl (Run.load Try.isAgg3 rfl rfl (SlF.one1 (SlF.st f_l hs7 s_l) ?_ rfl)) ?_
   · omega
   refine WL.run tbk 1 hs7 [] rfl trivial ?_
   refine WL.nil ?_
   refine WC.region ?_
   refine WL.run tbk 2 hs7 [] rfl trivial ?_
   refine WL.call rfl rfl rfl (Run.call Try.call176 rfl rfl rfl) (c_impl_putVar _ _ _ _ _ ho6 (fun p_ hp_ => (hs7.own p_ (List.mem_append_left _ hp_)).1) ?_ ?_ ?_) ?_
   · exact hi_.1
   · exact hi_.2
   · omega
   rintro _ whs11 ⟨A12, c13, L1_14, rfl, hs11, ho15⟩
   replace hs11 := St.lend hs7 hs11
   refine ⟨_, rfl, ?_⟩
   refine WL.run tbk 1 hs11 [] rfl trivial ?_
   refine WL.nil ?_
   refine hK10 _ _ ?_
   refine WC.region ?_
   refine WL.run tbk 2 hs11 [] rfl ⟨by omega, trivial⟩ ?_
   refine WL.nil ?_
   refine tkN ?_
   refine ⟨⟨rfl, rfl, rfl, trivial⟩, _, hs11, _, ?_, _, i + 1, _, _, rfl, ?_, ?_, ho15, ⟨rfl, rfl, trivial⟩⟩
   · omega
   · omega
   · rw [p1, numsL_take (by rw [f_l.len]; omega), List.append_assoc] <;> rfl
  ·have qh9 := h9
   try simp only [bf, within_iff, within_not] at qh9
   refine WC.exit ?_
   refine hK2 _ _ ?_
   refine WC.rr tbk hs7 [] rfl trivial ?_
   refine WC.ret ?_
   refine retV1 rfl (resV.tmp rfl) ?_
   have hx_ := OwnF.eqOf (xs := b ++ numsL l) ho6 (by rw [p1, List.take_of_length_le (by rw [f_l.len]; omega)])
   rw [← hx_]
   first | exact ⟨_, _, _, rfl, (St.keep1 hs7), ho6⟩ | exact ⟨A3, c4, _, by rw [OwnF.len_ ho6], (St.keep1 hs7), by rw [OwnF.len_ ho6]; exact ho6⟩
theorem c_spec_l01Num (n : Int) (w : World) :
    Calls Try.prog 172 #[i64 n] w fun e w' => e = .returned (.bool (isNumB n)) ∧ St w [] [] w' := by
 refine enter (vs := [i64 n]) 9 Try.func172 rfl Try.ntmps172 rfl rfl ?_
 have hs1 := St.init w
 refine WC.rr tbk hs1 [] rfl trivial ?_
 refine WC.sr ?_
 refine WL.run tbk 3 hs1 [] rfl trivial ?_
 refine WL.pA tbk 2 Acts.nil hs1 [] rfl rfl rfl rfl (fun g_ => trivial) ?_
 refine WL.run tbk 1 hs1 [] rfl trivial ?_
 refine WL.nil ?_
 refine WC.ret ?_
 refine retV1 rfl (resV.tmp rfl) ?_
 refine ⟨congrArg Ending.returned ?_, hs1.nil⟩
 simp [isNumB]
theorem c_spec_PutVar (A_b : Option Addr) (n_b c_b : Nat) (b : List UInt8) (n : Int) (w : World) (f_b : SlF encB w A_b n_b b) (h0 : 0 ≤ n) (h1 : n ≤ 4294967295) (hx : b.length ≤ 268435456) :
    Calls Try.prog 128 #[.slice A_b n_b c_b, i64 n] w fun e w' => ∃ A c L1, e = .returned (.tuple #[.slice A (b ++ varL n.toNat).length c, .bool true]) ∧ St w [] L1 w' ∧ OwnF encB 5 (.slice A (b ++ varL n.toNat).length c) (b ++ varL n.toNat) L1 := by
 have hvl := varL_len n.toNat (by omega)
 refine enter (vs := [.slice A_b n_b c_b, i64 n]) 29 Try.func128 rfl Try.ntmps128 rfl rfl ?_
 have hs1 := St.init w
 refine WC.rr tbk hs1 [] rfl trivial ?_
 refine WC.seq (fun K2 hK2 => ?_)
 refine WC.sr ?_
 refine WL.run tbk 1 hs1 [] rfl trivial ?_
 refine WL.call rfl rfl rfl (Run.call Try.call172 rfl rfl rfl) (c_spec_l01Num _ _) ?_
 rintro _ whs3 ⟨rfl, hs3⟩
 replace hs3 := hs1.call0 hs3
 refine ⟨_, rfl, ?_⟩
 refine WL.run tbk 1 hs3 [] rfl trivial ?_
 refine WL.nil ?_
 refine WC.condF rfl (by simp [isNumB]; omega) ?_
 refine WC.skip ?_
 refine hK2 _ _ ?_
 refine WC.sr ?_
 refine WL.buildF (F := encB) hs3 ([]) Try.runUnderlying23 Try.sizeOf5 Try.zeroValue5 rfl rfl rfl rfl rfl rfl rfl rfl rfl rfl rfl rfl (fun A8 c9 L5 whs6 hs6 ho7 => ?_)
 refine WL.run tbk 1 hs6 [] rfl trivial ?_
 refine WL.appendG hs6 ho7 (SlF.src (SlF.st0 f_b hs6) Try.underlying23) Try.underlying23 info_5 rfl rfl rfl rfl rfl rfl rfl rfl rfl rfl ?_ (fun A13 c14 L10 whs11 hs11 ho12 => ?_)
 · simp only [List.length_append, List.length_singleton, List.length_nil]; omega
 refine WL.run tbk 1 hs11 [] rfl trivial ?_
 refine WL.nil ?_
 refine WC.seq (fun K15 hK15 => ?_)
 refine WC.block ?_
 refine WC.loopO [(4, _), (5, _), (9, _)] ⟨rfl, rfl, rfl, trivial⟩ hs11 (fun k_ f L_ => ∃ (zs : List UInt8) (q : Int) (A16 : Option Addr) (c17 : Nat), k_ = q.toNat ∧ (0 ≤ q) ∧ (q ≤ n) ∧ (b ++ varL n.toNat = zs ++ varL q.toNat) ∧ OwnF encB 5 (.slice A16 (zs.length) c17) (zs) L_ ∧ Sub [(6, .slice A16 (zs.length) c17), (1, .int .i64 q)] f) (((fun (zs : List UInt8) (q : Int) => q.toNat) (([] ++ b)) (n))) ?_ ?_
 ·refine ⟨([] ++ b), n, _, _, rfl, ?_, ?_, ?_, ho12, ⟨rfl, rfl, trivial⟩⟩
  · exact h0
  · exact Int.le_refl _
  · rfl
 ·clear hs11
  rintro _ f w L18 ⟨zs, q, A16, c17, rfl, p0, p1, p2, ho19, hG⟩ hF hs20
  refine WC.sub _ (hG.app hF) ?_
  clear hG hF
  have hlen := congrArg List.length p2
  simp only [List.length_append] at hlen
  refine WC.seq (fun K21 hK21 => ?_)
  refine WC.rr tbk hs20 [] rfl trivial ?_
  refine WC.cD rfl (fun qh22 => ?_) (fun qh22 => ?_)
  ·refine WC.skip ?_
   refine hK21 _ _ ?_
   refine WC.block ?_
   refine WC.sr ?_
   refine WL.run tbk 2 hs20 [] rfl trivial ?_
   refine WL.val rfl rfl rfl (Run.rem rfl rfl rfl ?_ ?_) ?_
   · omega
   · omega
   refine WL.run tbk 2 hs20 [] rfl ⟨by omega, trivial⟩ ?_
   refine WL.buildSlice hs20 Try.runUnderlying23 Try.sizeOf5 Try.zeroValue5 rfl rfl rfl rfl rfl rfl rfl rfl rfl rfl (fun b23 whs24 hs24 => ?_)
   refine WL.appendG (St.perm hs24 (L' := L18 ++ _) (perm_front (A := [_]) (List.Perm.refl _))) ho19 (srcB1 Try.underlying23 (hs24.own _ (nthL_mem (i := 0) rfl)).1) Try.underlying23 info_5 rfl rfl rfl rfl rfl rfl rfl rfl rfl rfl ?_ (fun A28 c29 L25 whs26 hs26 ho27 => ?_)
   · simp only [List.length_append, List.length_singleton, List.length_nil]; omega
   replace hs26 := St.back [_] hs26
   refine WL.run tbk 1 hs26 [] rfl trivial ?_
   refine WL.nil ?_
   refine WC.region ?_
   refine WL.run tbk 1 hs26 [] rfl trivial ?_
   refine WL.val rfl rfl rfl (Run.quo rfl rfl rfl ?_ ?_ ?_) ?_
   · omega
   · omega
   · omega
   refine WL.run tbk 1 hs26 [] rfl trivial ?_
   refine WL.nil ?_
   refine ibN ?_
   refine tkN ?_
   replace hs26 := St.drop hs26 (List.sublist_append_right [_] _)
   refine ⟨⟨rfl, rfl, rfl, trivial⟩, _, hs26, _, ?_, _, _, _, _, rfl, ?_, ?_, ?_, ho27, ⟨rfl, rfl, trivial⟩⟩
   · omega
   · omega
   · omega
   · rw [p2, List.append_assoc, List.singleton_append, ub_big (by omega)]
  ·refine WC.exit ?_
   refine hK15 _ _ ?_
   refine WC.sr ?_
   refine WL.run tbk 3 hs20 [] rfl trivial ?_
   refine WL.buildSlice hs20 Try.runUnderlying23 Try.sizeOf5 Try.zeroValue5 rfl rfl rfl rfl rfl rfl rfl rfl rfl rfl (fun b30 whs31 hs31 => ?_)
   refine WL.appendG (St.perm hs31 (L' := L18 ++ _) (perm_front (A := [_]) (List.Perm.refl _))) ho19 (srcB1 Try.underlying23 (hs31.own _ (nthL_mem (i := 0) rfl)).1) Try.underlying23 info_5 rfl rfl rfl rfl rfl rfl rfl rfl rfl rfl ?_ (fun A35 c36 L32 whs33 hs33 ho34 => ?_)
   · simp only [List.length_append, List.length_singleton, List.length_nil]; omega
   replace hs33 := St.back [_] hs33
   refine WL.run tbk 2 hs33 [] rfl trivial ?_
   refine WL.nil ?_
   refine WC.ret ?_
   refine retV2 rfl (resV.tmp rfl) (resV.tmp rfl) ?_
   have hx_ := OwnF.eqOf (xs := b ++ varL n.toNat) ho34 (by rw [p2, ← ub_small p0 (by omega)])
   rw [← hx_]
   first | exact ⟨_, _, _, rfl, (St.keep1 (St.perm hs33 (L' := L32 ++ _) (perm_front (A := [_]) (List.Perm.refl _)))), ho34⟩ | exact ⟨A35, c36, _, by rw [OwnF.len_ ho34], (St.keep1 (St.perm hs33 (L' := L32 ++ _) (perm_front (A := [_]) (List.Perm.refl _)))), by rw [OwnF.len_ ho34]; exact ho34⟩
theorem c_spec_l12Nums (v_b : Value) (b : List UInt8) (L_b : Hp) (A_l : Option Addr) (n_l c_l : Nat) (l : List Int) (w : World) (o_b : OwnF encB 5 v_b b L_b) (h_b : ∀ p, p ∈ L_b → w.heap[p.1]? = some p.2) (f_l : SlF encI w A_l n_l l) (s_l : 0 < n_l → (adr A_l).block ∉ L_b.map (·.1)) (hl : ∀ x, x ∈ l → 0 ≤ x ∧ x ≤ 4294967295) (hx : b.length + 5 * n_l ≤ 268435456) :
    Calls Try.prog 123 #[v_b, .slice A_l n_l c_l] w fun e w' => ∃ A c L1, e = .returned (.slice A (b ++ numsL l).length c) ∧ St w (L_b.map (·.1)) L1 w' ∧ OwnF encB 5 (.slice A (b ++ numsL l).length c) (b ++ numsL l) L1 := by
 obtain ⟨A_b, c_b, rfl⟩ := o_b.shape
 refine enter (vs := [.slice A_b b.length c_b, .slice A_l n_l c_l]) 21 Try.func123 rfl Try.ntmps123 rfl rfl ?_
 have hs1 := St.lent1 w L_b o_b h_b
 refine WC.rr tbk hs1 [] rfl trivial ?_
 refine WC.seq (fun K2 hK2 => ?_)
 refine WC.rr tbk hs1 [] rfl trivial ?_
 refine WC.block ?_
 refine WC.loopO [(4, _), (7, _), (8, _)] ⟨rfl, rfl, rfl, trivial⟩ hs1 (fun k_ f L_ => ∃ (zs : List UInt8) (i : Nat) (A3 : Option Addr) (c4 : Nat), k_ = n_l - i ∧ (i ≤ n_l) ∧ (zs = b ++ numsL (l.take i)) ∧ OwnF encB 5 (.slice A3 (zs.length) c4) (zs) L_ ∧ Sub [(0, .slice A3 (zs.length) c4), (9, .int .i64 i)] f) (((fun (zs : List UInt8) (i : Nat) => n_l - i) (b) (0))) ?_ ?_
 ·refine ⟨b, 0, _, _, rfl, ?_, ?_, o_b, ⟨rfl, rfl, trivial⟩⟩
  · exact Nat.zero_le _
  · simp [numsL]
 ·clear hs1
  rintro _ f w L5 ⟨zs, i, A3, c4, rfl, p0, p1, ho6, hG⟩ hF hs7
  refine WC.sub _ (hG.app hF) ?_
  clear hG hF
  have hb5 := numsL_len (l := l.take i) (fun x hx => (by have := (hl x (List.mem_of_mem_take hx)).2; omega))
  have hbl := congrArg List.length p1
  simp only [List.length_append, List.length_take] at hbl hb5
  refine WC.rr tbk hs7 [] rfl trivial ?_
  refine WC.seq (fun K8 hK8 => ?_)
  refine WC.cond rfl (fun h9 => ?_) (fun h9 => ?_)
  ·have qh9 := h9
   try simp only [bf, within_iff, within_not] at qh9
   have hi_ := hl (iat l i) (gat_mem (by rw [f_l.len]; omega))
   refine WC.skip ?_
   refine hK8 _ _ ?_
   refine WC.seq (fun K10 hK10 => ?_)
   refine WC.block ?_
   refine WC.sr ?_
   refine WL.val rfl rfl rfl (Run.idxN Try.runUnderlying22 Try.sizeOf3 rfl rfl rfl ?_ ?_ ?_) ?_
   · exact SlF.some_ (SlF.st f_l hs7 s_l)
   · omega
   · omega
   refine WL.val rfl rfl rfl (Run.load Try.isAgg3 rfl rfl (SlF.one1 (SlF.st f_l hs7 s_l) ?_ rfl)) ?_
   · omega
   refine WL.run tbk 1 hs7 [] rfl trivial ?_
   refine WL.nil ?_
   refine WC.region ?_
   refine WL.run tbk 2 hs7 [] rfl trivial ?_
   refine WL.call rfl rfl rfl (Run.call Try.call128 rfl rfl rfl) (c_spec_PutVar _ _ _ _ _ _ (SlF.ofOwn ho6 (fun p_ hp_ => (hs7.own p_ (List.mem_append_left _ hp_)).1)) ?_ ?_ ?_) ?_
   · exact hi_.1
   · exact hi_.2
   · omega
   rintro _ whs11 ⟨A12, c13, L1_14, rfl, hs11, ho15⟩
   replace hs11 := hs7.callF hs11
   refine ⟨_, rfl, ?_⟩
   refine WL.run tbk 4 hs11 [] rfl trivial ?_
   refine WL.nil ?_
   refine hK10 _ _ ?_
   refine WC.region ?_
   refine WL.run tbk 2 hs11 [] rfl ⟨by omega, trivial⟩ ?_
   refine WL.nil ?_
   refine tkN ?_
   replace hs11 := St.drop (St.perm hs11 (L' := L5 ++ _) (perm_front (A := L1_14) (List.Perm.refl _))) (List.sublist_append_right L5 _)
   refine ⟨⟨rfl, rfl, rfl, trivial⟩, _, hs11, _, ?_, _, i + 1, _, _, rfl, ?_, ?_, ho15, ⟨rfl, rfl, trivial⟩⟩
   · omega
   · omega
   · rw [p1, numsL_take (by rw [f_l.len]; omega), List.append_assoc] <;> rfl
  ·have qh9 := h9
   try simp only [bf, within_iff, within_not] at qh9
   refine WC.exit ?_
   refine hK2 _ _ ?_
   refine WC.rr tbk hs7 [] rfl trivial ?_
   refine WC.ret ?_
   refine retV1 rfl (resV.tmp rfl) ?_
   have hx_ := OwnF.eqOf (xs := b ++ numsL l) ho6 (by rw [p1, List.take_of_length_le (by rw [f_l.len]; omega)])
   rw [← hx_]
   first | exact ⟨_, _, _, rfl, (St.keep1 hs7), ho6⟩ | exact ⟨A3, c4, _, by rw [OwnF.len_ ho6], (St.keep1 hs7), by rw [OwnF.len_ ho6]; exact ho6⟩
end Go.Proofs.Ytlmcekfdlgkffaa
