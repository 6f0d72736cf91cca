/- Walks of Go functions, printed by a program (wip/gen). -/
import Derived.Test.YtpiimkfonlijdaaM2
import Derived.Test.YtpiimkfonlijdaaC2
namespace Go.Proofs.Ytpiimkfonlijdaa
open Go Go.RowKit
set_option linter.unusedVariables false
set_option linter.unusedSimpArgs false
theorem c_impl_putVar (v_b : Value) (b : List UInt8) (L_b : Hp) (n : Int) (w : World) (o_b : OwnF encB 5 v_b b L_b) (h_b : ∀ p, p ∈ L_b → w.heap[p.1]? = some p.2) (h0 : 0 ≤ n) (h1 : n ≤ 34359738367) (hx : b.length ≤ 268435456) :
    Calls Try.prog 99 #[v_b, i64 n] w fun e w' => ∃ A c L1, e = .returned (.slice A (b ++ varL n.toNat).length c) ∧ St w (L_b.map (·.1)) L1 w' ∧ OwnF encB 5 (.slice A (b ++ varL n.toNat).length c) (b ++ varL n.toNat) L1 := by
  obtain ⟨A_b, c_b, rfl⟩ := o_b.shape
  have hvl := varL_len n.toNat (by omega)
  refine enter (vs := [.slice A_b b.length c_b, i64 n]) 21 Try.func99 rfl Try.ntmps99 rfl rfl ?_
  have hs1 := St.lent1 w L_b o_b h_b
  refine WC.seq (fun K2 hK2 => ?_)
  refine WC.region ?_
  refine WL.val rfl rfl rfl (Run.assign rfl rfl) ?_
  refine WL.nil ?_
  refine tkN ?_
  refine hK2 _ _ ?_
  clear hK2
  refine WC.seq (fun K3 hK3 => ?_)
  refine WC.block ?_
  refine WC.loopO [(4, _)] ⟨rfl, trivial⟩ hs1 (fun k_ f L_ => ∃ (zs : List UInt8) (q : Int) (A4 : Option Addr) (c5 : Nat), k_ = q.toNat ∧ (0 ≤ q) ∧ (q ≤ n) ∧ (b ++ varL n.toNat = zs ++ varL q.toNat) ∧ OwnF encB 5 (.slice A4 (zs.length) c5) (zs) L_ ∧ Sub [(0, .slice A4 (zs.length) c5), (1, .int .i64 q)] f) (((fun (zs : List UInt8) (q : Int) => q.toNat) (b) (n))) ?_ ?_
  · refine ⟨b, n, _, _, rfl, ?_, ?_, ?_, o_b, ⟨rfl, rfl, trivial⟩⟩
    · exact h0
    · exact Int.le_refl _
    · rfl
  · clear hs1
    rintro _ f w L6 ⟨zs, q, A4, c5, rfl, p0, p1, p2, ho7, hG⟩ hF hs8
    refine WC.sub _ (hG.app hF) ?_
    clear hG hF
    have hlen := congrArg List.length p2
    simp only [List.length_append] at hlen
    refine WC.seq (fun K9 hK9 => ?_)
    refine WC.seq (fun K10 hK10 => ?_)
    refine WC.region ?_
    refine WL.val rfl rfl rfl (Run.move rfl rfl) ?_
    refine WL.val rfl rfl rfl (Run.geq rfl rfl rfl) ?_
    refine WL.nil ?_
    refine tkN ?_
    refine hK10 _ _ ?_
    clear hK10
    refine WC.cond rfl (fun h11 => ?_) (fun h11 => ?_)
    · have qh11 := h11
      try simp only [decide_eq_true_eq, decide_eq_false_iff_not, Bool.not_eq_true', Bool.not_eq_false', Bool.and_eq_true, Bool.or_eq_false_iff, within_iff, within_not] at qh11
      refine WC.skip ?_
      refine tkN ?_
      refine hK9 _ _ ?_
      clear hK9
      refine WC.block ?_
      refine WC.seq (fun K12 hK12 => ?_)
      refine WC.region ?_
      refine WL.val rfl rfl rfl (Run.move rfl rfl) ?_
      refine WL.val rfl rfl rfl (Run.move rfl rfl) ?_
      refine WL.val rfl rfl rfl (Run.rem rfl rfl rfl ?_ ?_) ?_
      · omega
      · omega
      refine WL.val rfl rfl rfl (Run.add rfl rfl rfl ?_) ?_
      · constructor <;> omega
      refine WL.val rfl rfl rfl (Run.convU8 Try.runUnderlying3 Try.runUnderlying5 rfl rfl) ?_
      refine WL.buildSlice hs8 Try.runUnderlying22 Try.sizeOf5 Try.zeroValue5 rfl rfl rfl rfl rfl rfl rfl rfl rfl rfl (fun b13 whs14 hs14 => ?_)
      refine WL.appendG (St.perm hs14 (L' := L6 ++ _) (perm_front (A := [_]) (List.Perm.refl _))) ho7 (srcB1 Try.underlying22 (hs14.own _ (nthL_mem (i := 0) rfl)).1) Try.underlying22 info_5 rfl rfl rfl rfl rfl rfl rfl rfl rfl rfl ?_ (fun A18 c19 L15 whs16 hs16 ho17 => ?_)
      · simp only [List.length_append, List.length_singleton]; omega
      replace hs16 := St.back [_] hs16
      refine WL.val rfl rfl rfl (Run.assign rfl rfl) ?_
      refine WL.nil ?_
      refine tkN ?_
      refine hK12 _ _ ?_
      clear hK12
      refine WC.region ?_
      refine WL.val rfl rfl rfl (Run.move rfl rfl) ?_
      refine WL.val rfl rfl rfl (Run.quo rfl rfl rfl ?_ ?_ ?_) ?_
      · omega
      · omega
      · omega
      refine WL.val rfl rfl rfl (Run.assign rfl rfl) ?_
      refine WL.nil ?_
      refine ibN ?_
      refine tkN ?_
      replace hs16 := St.drop hs16 (List.sublist_append_right [_] _)
      refine ⟨⟨rfl, trivial⟩, _, hs16, _, ?_, _, _, _, _, rfl, ?_, ?_, ?_, ho17, ⟨rfl, rfl, trivial⟩⟩
      · omega
      · omega
      · omega
      · rw [p2, List.append_assoc, List.singleton_append, ub_big (by omega)]
    · have qh11 := h11
      try simp only [decide_eq_true_eq, decide_eq_false_iff_not, Bool.not_eq_true', Bool.not_eq_false', Bool.and_eq_true, Bool.or_eq_false_iff, within_iff, within_not] at qh11
      refine WC.exit ?_
      refine tkE ?_
      refine tkE ?_
      refine ibE ?_
      refine tkN ?_
      refine hK3 _ _ ?_
      clear hK3
      refine WC.seq (fun K20 hK20 => ?_)
      refine WC.region ?_
      refine WL.val rfl rfl rfl (Run.move rfl rfl) ?_
      refine WL.val rfl rfl rfl (Run.move rfl rfl) ?_
      refine WL.val rfl rfl rfl (Run.convU8 Try.runUnderlying3 Try.runUnderlying5 rfl rfl) ?_
      refine WL.buildSlice hs8 Try.runUnderlying22 Try.sizeOf5 Try.zeroValue5 rfl rfl rfl rfl rfl rfl rfl rfl rfl rfl (fun b21 whs22 hs22 => ?_)
      refine WL.appendG (St.perm hs22 (L' := L6 ++ _) (perm_front (A := [_]) (List.Perm.refl _))) ho7 (srcB1 Try.underlying22 (hs22.own _ (nthL_mem (i := 0) rfl)).1) Try.underlying22 info_5 rfl rfl rfl rfl rfl rfl rfl rfl rfl rfl ?_ (fun A26 c27 L23 whs24 hs24 ho25 => ?_)
      · simp only [List.length_append, List.length_singleton]; omega
      replace hs24 := St.back [_] hs24
      refine WL.val rfl rfl rfl (Run.assign rfl rfl) ?_
      refine WL.nil ?_
      refine tkN ?_
      refine hK20 _ _ ?_
      clear hK20
      refine WC.ret ?_
      refine retV1 rfl (resV.tmp rfl) ?_
      have hx_ := OwnF.eqOf (xs := b ++ varL n.toNat) ho25 (by rw [p2, ← ub_small p0 (by omega)])
      rw [← hx_]
      first | exact ⟨_, _, _, rfl, (St.keep1 (St.perm hs24 (L' := L23 ++ _) (perm_front (A := [_]) (List.Perm.refl _)))), ho25⟩ | exact ⟨A26, c27, _, by rw [OwnF.len_ ho25], (St.keep1 (St.perm hs24 (L' := L23 ++ _) (perm_front (A := [_]) (List.Perm.refl _)))), by rw [OwnF.len_ ho25]; exact ho25⟩
theorem c_impl_putVars (v_b : Value) (b : List UInt8) (L_b : Hp) (A_l : Option Addr) (n_l c_l : Nat) (l : List Int) (w : World) (o_b : OwnF encB 5 v_b b L_b) (h_b : ∀ p, p ∈ L_b → w.heap[p.1]? = some p.2) (f_l : SlF encI w A_l n_l l) (s_l : 0 < n_l → (adr A_l).block ∉ L_b.map (·.1)) (hl : ∀ x, x ∈ l → 0 ≤ x ∧ x ≤ 34359738367) (hx : b.length + 5 * n_l ≤ 268435456) :
    Calls Try.prog 63 #[v_b, .slice A_l n_l c_l] w fun e w' => ∃ A c L1, e = .returned (.slice A (b ++ numsL l).length c) ∧ St w (L_b.map (·.1)) L1 w' ∧ OwnF encB 5 (.slice A (b ++ numsL l).length c) (b ++ numsL l) L1 := by
  obtain ⟨A_b, c_b, rfl⟩ := o_b.shape
  refine enter (vs := [.slice A_b b.length c_b, .slice A_l n_l c_l]) 18 Try.func63 rfl Try.ntmps63 rfl rfl ?_
  have hs1 := St.lent1 w L_b o_b h_b
  refine WC.seq (fun K2 hK2 => ?_)
  refine WC.region ?_
  refine WL.val rfl rfl rfl (Run.assign rfl rfl) ?_
  refine WL.nil ?_
  refine tkN ?_
  refine hK2 _ _ ?_
  clear hK2
  refine WC.seq (fun K3 hK3 => ?_)
  refine WC.seq (fun K4 hK4 => ?_)
  refine WC.region ?_
  refine WL.val rfl rfl rfl (Run.move rfl rfl) ?_
  refine WL.val rfl rfl rfl (Run.lenSl Try.runUnderlying51 rfl rfl) ?_
  refine WL.val rfl rfl rfl (Run.move rfl rfl) ?_
  refine WL.nil ?_
  refine tkN ?_
  refine hK4 _ _ ?_
  clear hK4
  refine WC.block ?_
  refine WC.loopO [(1, _), (4, _), (7, _), (8, _)] ⟨rfl, rfl, rfl, rfl, trivial⟩ hs1 (fun k_ f L_ => ∃ (zs : List UInt8) (i : Nat) (A5 : Option Addr) (c6 : Nat), k_ = n_l - i ∧ (i ≤ n_l) ∧ (zs = b ++ numsL (l.take i)) ∧ OwnF encB 5 (.slice A5 (zs.length) c6) (zs) L_ ∧ Sub [(0, .slice A5 (zs.length) c6), (9, .int .i64 i)] f) (((fun (zs : List UInt8) (i : Nat) => n_l - i) (b) (0))) ?_ ?_
  · refine ⟨b, 0, _, _, rfl, ?_, ?_, o_b, ⟨rfl, rfl, trivial⟩⟩
    · exact Nat.zero_le _
    · simp [numsL]
  · clear hs1
    rintro _ f w L7 ⟨zs, i, A5, c6, rfl, p0, p1, ho8, hG⟩ hF hs9
    refine WC.sub _ (hG.app hF) ?_
    clear hG hF
    have hb5 := numsL_len (l := l.take i) (fun x hx => (hl x (List.mem_of_mem_take hx)).2)
    have hbl := congrArg List.length p1
    simp only [List.length_append, List.length_take] at hbl hb5
    refine WC.seq (fun K10 hK10 => ?_)
    refine WC.region ?_
    refine WL.val rfl rfl rfl (Run.lss rfl rfl rfl) ?_
    refine WL.nil ?_
    refine tkN ?_
    refine hK10 _ _ ?_
    clear hK10
    refine WC.seq (fun K11 hK11 => ?_)
    refine WC.cond rfl (fun h12 => ?_) (fun h12 => ?_)
    · have qh12 := h12
      try simp only [decide_eq_true_eq, decide_eq_false_iff_not, Bool.not_eq_true', Bool.not_eq_false', Bool.and_eq_true, Bool.or_eq_false_iff, within_iff, within_not] at qh12
      have hi_ := hl (iat l i) (gat_mem (by rw [f_l.len]; omega))
      refine WC.skip ?_
      refine tkN ?_
      refine hK11 _ _ ?_
      clear hK11
      refine WC.seq (fun K13 hK13 => ?_)
      refine WC.block ?_
      refine WC.seq (fun K14 hK14 => ?_)
      refine WC.region ?_
      refine WL.val rfl rfl rfl (Run.idx Try.runUnderlying51 Try.sizeOf3 rfl rfl rfl ?_ ?_ ?_) ?_
      · exact SlF.some_ (SlF.st f_l hs9 s_l)
      · omega
      · omega
      refine WL.val rfl rfl rfl (Run.load Try.isAgg3 rfl rfl (SlF.one1 (SlF.st f_l hs9 s_l) ?_ rfl)) ?_
      · omega
      refine WL.val rfl rfl rfl (Run.assign rfl rfl) ?_
      refine WL.nil ?_
      refine tkN ?_
      refine hK14 _ _ ?_
      clear hK14
      refine WC.region ?_
      refine WL.val rfl rfl rfl (Run.move rfl rfl) ?_
      refine WL.val rfl rfl rfl (Run.move rfl rfl) ?_
      refine WL.call rfl rfl rfl (Run.call Try.call99 rfl rfl rfl) (c_impl_putVar _ _ _ _ _ ho8 (fun p_ hp_ => (hs9.own p_ (List.mem_append_left _ hp_)).1) ?_ ?_ ?_) ?_
      · exact hi_.1
      · exact hi_.2
      · omega
      rintro _ whs15 ⟨A16, c17, L118, rfl, hs15, ho19⟩
      replace hs15 := St.lend hs9 hs15
      refine ⟨_, rfl, ?_⟩
      refine WL.val rfl rfl rfl (Run.assign rfl rfl) ?_
      refine WL.nil ?_
      refine ibN ?_
      refine tkN ?_
      refine hK13 _ _ ?_
      clear hK13
      refine WC.region ?_
      refine WL.val rfl rfl rfl (Run.add rfl rfl rfl ?_) ?_
      · constructor <;> omega
      refine WL.val rfl rfl rfl (Run.move rfl rfl) ?_
      refine WL.nil ?_
      refine tkN ?_
      refine ⟨⟨rfl, rfl, rfl, rfl, trivial⟩, _, hs15, _, ?_, _, i + 1, _, _, rfl, ?_, ?_, ho19, ⟨rfl, rfl, trivial⟩⟩
      · omega
      · omega
      · rw [p1, numsL_take (by rw [f_l.len]; omega), List.append_assoc]; rfl
    · have qh12 := h12
      try simp only [decide_eq_true_eq, decide_eq_false_iff_not, Bool.not_eq_true', Bool.not_eq_false', Bool.and_eq_true, Bool.or_eq_false_iff, within_iff, within_not] at qh12
      refine WC.exit ?_
      refine tkE ?_
      refine tkE ?_
      refine ibE ?_
      refine tkN ?_
      refine hK3 _ _ ?_
      clear hK3
      refine WC.seq (fun K20 hK20 => ?_)
      refine WC.region ?_
      refine WL.val rfl rfl rfl (Run.move rfl rfl) ?_
      refine WL.val rfl rfl rfl (Run.assign rfl rfl) ?_
      refine WL.nil ?_
      refine tkN ?_
      refine hK20 _ _ ?_
      clear hK20
      refine WC.ret ?_
      refine retV1 rfl (resV.tmp rfl) ?_
      have hx_ := OwnF.eqOf (xs := b ++ numsL l) ho8 (by rw [p1, List.take_of_length_le (by rw [f_l.len]; omega)])
      rw [← hx_]
      first | exact ⟨_, _, _, rfl, (St.keep1 hs9), ho8⟩ | exact ⟨A5, c6, _, by rw [OwnF.len_ ho8], (St.keep1 hs9), by rw [OwnF.len_ ho8]; exact ho8⟩
theorem c_impl_putText (v_b : Value) (b : List UInt8) (L_b : Hp) (s : ByteArray) (w : World) (o_b : OwnF encB 5 v_b b L_b) (h_b : ∀ p, p ∈ L_b → w.heap[p.1]? = some p.2) (hs : s.size ≤ 100000) (hx : b.length ≤ 268000000) :
    Calls Try.prog 64 #[v_b, .string s] w fun e w' => ∃ A c L1, e = .returned (.slice A (b ++ textL s).length c) ∧ St w (L_b.map (·.1)) L1 w' ∧ OwnF encB 5 (.slice A (b ++ textL s).length c) (b ++ textL s) L1 := by
  obtain ⟨A_b, c_b, rfl⟩ := o_b.shape
  have hvl := varL_len s.size (by omega)
  refine enter (vs := [.slice A_b b.length c_b, .string s]) 11 Try.func64 rfl Try.ntmps64 rfl rfl ?_
  have hs1 := St.lent1 w L_b o_b h_b
  refine WC.seq (fun K2 hK2 => ?_)
  refine WC.region ?_
  refine WL.val rfl rfl rfl (Run.assign rfl rfl) ?_
  refine WL.nil ?_
  refine tkN ?_
  refine hK2 _ _ ?_
  clear hK2
  refine WC.seq (fun K3 hK3 => ?_)
  refine WC.region ?_
  refine WL.val rfl rfl rfl (Run.move rfl rfl) ?_
  refine WL.val rfl rfl rfl (Run.move rfl rfl) ?_
  refine WL.val rfl rfl rfl (Run.lenStr Try.runUnderlying9 rfl rfl) ?_
  refine WL.call rfl rfl rfl (Run.call Try.call99 rfl rfl rfl) (c_impl_putVar _ _ _ _ _ o_b (fun p_ hp_ => (hs1.own p_ (List.mem_append_left _ hp_)).1) ?_ ?_ ?_) ?_
  · first | assumption | rfl | omega
  · first | assumption | rfl | omega
  · first | assumption | rfl | omega
  rintro _ whs4 ⟨A5, c6, L17, rfl, hs4, ho8⟩
  replace hs4 := St.lend hs1 hs4
  refine ⟨_, rfl, ?_⟩
  refine WL.val rfl rfl rfl (Run.move rfl rfl) ?_
  refine WL.appendG hs4 ho8 (srcStr Try.underlying9 _) Try.underlying22 info_5 rfl rfl rfl rfl rfl rfl rfl rfl rfl rfl ?_ (fun A12 c13 L9 whs10 hs10 ho11 => ?_)
  · simp only [List.length_append, Int.toNat_natCast]; simp; omega
  refine WL.val rfl rfl rfl (Run.assign rfl rfl) ?_
  refine WL.nil ?_
  refine tkN ?_
  refine hK3 _ _ ?_
  clear hK3
  refine WC.ret ?_
  refine retV1 rfl (resV.tmp rfl) ?_
  have hx_ := OwnF.eqOf (xs := b ++ textL s) ho11 (by simp [textL])
  rw [← hx_]
  first | exact ⟨_, _, _, rfl, (St.keep1 hs10), ho11⟩ | exact ⟨A12, c13, _, by rw [OwnF.len_ ho11], (St.keep1 hs10), by rw [OwnF.len_ ho11]; exact ho11⟩
end Go.Proofs.Ytpiimkfonlijdaa
