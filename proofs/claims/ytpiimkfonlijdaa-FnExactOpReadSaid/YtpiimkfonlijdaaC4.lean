/- Walks of Go functions, printed by a program (wip/gen). -/
import Derived.Test.YtpiimkfonlijdaaC3
namespace Go.Proofs.Ytpiimkfonlijdaa
open Go Go.RowKit
set_option linter.unusedVariables false
set_option linter.unusedSimpArgs false
theorem c_spec_l01Num (n : Int) (w : World) :
    Calls Try.prog 95 #[i64 n] w fun e w' => e = .returned (.bool (isNumB n)) ∧ St w [] [] w' := by
  refine enter (vs := [i64 n]) 9 Try.func95 rfl Try.ntmps95 rfl rfl ?_
  have hs1 := St.init w
  refine WC.seq (fun K2 hK2 => ?_)
  refine WC.region ?_
  refine WL.val rfl rfl rfl (Run.assign rfl rfl) ?_
  refine WL.nil ?_
  refine tkN ?_
  refine hK2 _ _ ?_
  clear hK2
  refine WC.seq (fun K3 hK3 => ?_)
  refine WC.region ?_
  refine WL.val rfl rfl rfl (Run.move rfl rfl) ?_
  refine WL.val rfl rfl rfl (Run.geq rfl rfl rfl) ?_
  refine WL.val rfl rfl rfl (Run.move rfl rfl) ?_
  apply WL.meetAnd 3 5 8 [(0, _), (2, _)] rfl hs1
  · intro g4 J5
    refine WL.val (wantT rfl g4) rfl rfl (Run.move rfl rfl) ?_
    refine WL.val (wantT rfl g4) rfl rfl (Run.leq rfl rfl rfl) ?_
    refine WL.val rfl rfl rfl (Run.pickT rfl rfl g4 rfl) ?_
    exact WL.fin J5 hs1 rfl (andT g4) ⟨rfl, rfl, trivial⟩
  · intro g4 J5
    refine WL.skip (wantNT rfl g4) rfl rfl ?_
    refine WL.skip (wantNT rfl g4) rfl rfl ?_
    refine WL.val rfl rfl rfl (Run.pickF rfl rfl g4 rfl) ?_
    exact WL.fin J5 hs1 rfl (andF g4) ⟨rfl, rfl, trivial⟩
  · intro whs6 hs6
    refine WL.val rfl rfl rfl (Run.assign rfl rfl) ?_
    refine WL.nil ?_
    refine tkN ?_
    refine hK3 _ _ ?_
    clear hK3
    refine WC.ret ?_
    refine retV1 rfl (resV.tmp rfl) ?_
    refine ⟨congrArg Ending.returned ?_, hs6.nil⟩
    simp [isNumB]
theorem c_spec_PutVar (A_b : Option Addr) (n_b c_b : Nat) (b : List UInt8) (n : Int) (w : World) (f_b : SlF encB w A_b n_b b) (h0 : 0 ≤ n) (h1 : n ≤ 4294967295) (hx : b.length ≤ 268435456) :
    Calls Try.prog 55 #[.slice A_b n_b c_b, i64 n] w fun e w' => ∃ A c L1, e = .returned (.tuple #[.slice A (b ++ varL n.toNat).length c, .bool true]) ∧ St w [] L1 w' ∧ OwnF encB 5 (.slice A (b ++ varL n.toNat).length c) (b ++ varL n.toNat) L1 := by
  have hvl := varL_len n.toNat (by omega)
  refine enter (vs := [.slice A_b n_b c_b, i64 n]) 29 Try.func55 rfl Try.ntmps55 rfl rfl ?_
  have hs1 := St.init w
  refine WC.seq (fun K2 hK2 => ?_)
  refine WC.region ?_
  refine WL.val rfl rfl rfl (Run.assign rfl rfl) ?_
  refine WL.val rfl rfl rfl (Run.assign rfl rfl) ?_
  refine WL.nil ?_
  refine tkN ?_
  refine hK2 _ _ ?_
  clear hK2
  refine WC.seq (fun K3 hK3 => ?_)
  refine WC.seq (fun K4 hK4 => ?_)
  refine WC.region ?_
  refine WL.val rfl rfl rfl (Run.move rfl rfl) ?_
  refine WL.call rfl rfl rfl (Run.call Try.call95 rfl rfl rfl) (c_spec_l01Num _ _) ?_
  rintro _ whs5 ⟨rfl, hs5⟩
  replace hs5 := hs1.call0 hs5
  refine ⟨_, rfl, ?_⟩
  refine WL.val rfl rfl rfl (Run.not rfl rfl) ?_
  refine WL.nil ?_
  refine tkN ?_
  refine hK4 _ _ ?_
  clear hK4
  refine WC.condF rfl (by simp [isNumB]; omega) ?_
  refine WC.skip ?_
  refine tkN ?_
  refine hK3 _ _ ?_
  clear hK3
  refine WC.seq (fun K7 hK7 => ?_)
  refine WC.region ?_
  refine WL.buildF (F := encB) hs5 ([]) Try.runUnderlying22 Try.sizeOf5 Try.zeroValue5 rfl rfl rfl rfl rfl rfl rfl rfl rfl rfl rfl rfl (fun A11 c12 L8 whs9 hs9 ho10 => ?_)
  refine WL.val rfl rfl rfl (Run.move rfl rfl) ?_
  refine WL.appendG hs9 ho10 (SlF.src (SlF.st0 f_b hs9) Try.underlying22) Try.underlying22 info_5 rfl rfl rfl rfl rfl rfl rfl rfl rfl rfl ?_ (fun A16 c17 L13 whs14 hs14 ho15 => ?_)
  · simp only [List.length_append, List.length_singleton, List.length_nil]; omega
  refine WL.val rfl rfl rfl (Run.assign rfl rfl) ?_
  refine WL.nil ?_
  refine tkN ?_
  refine hK7 _ _ ?_
  clear hK7
  refine WC.seq (fun K18 hK18 => ?_)
  refine WC.block ?_
  refine WC.loopO [(0, _), (4, _), (5, _), (7, _), (8, _), (9, _), (10, _), (11, _), (12, _)] ⟨rfl, rfl, rfl, rfl, rfl, rfl, rfl, rfl, rfl, trivial⟩ hs14 (fun k_ f L_ => ∃ (zs : List UInt8) (q : Int) (A19 : Option Addr) (c20 : Nat), k_ = q.toNat ∧ (0 ≤ q) ∧ (q ≤ n) ∧ (b ++ varL n.toNat = zs ++ varL q.toNat) ∧ OwnF encB 5 (.slice A19 (zs.length) c20) (zs) L_ ∧ Sub [(6, .slice A19 (zs.length) c20), (1, .int .i64 q)] f) (((fun (zs : List UInt8) (q : Int) => q.toNat) (([] ++ b)) (n))) ?_ ?_
  · refine ⟨([] ++ b), n, _, _, rfl, ?_, ?_, ?_, ho15, ⟨rfl, rfl, trivial⟩⟩
    · exact h0
    · exact Int.le_refl _
    · rfl
  · clear hs14
    rintro _ f w L21 ⟨zs, q, A19, c20, rfl, p0, p1, p2, ho22, hG⟩ hF hs23
    refine WC.sub _ (hG.app hF) ?_
    clear hG hF
    have hlen := congrArg List.length p2
    simp only [List.length_append] at hlen
    refine WC.seq (fun K24 hK24 => ?_)
    refine WC.seq (fun K25 hK25 => ?_)
    refine WC.region ?_
    refine WL.val rfl rfl rfl (Run.move rfl rfl) ?_
    refine WL.val rfl rfl rfl (Run.geq rfl rfl rfl) ?_
    refine WL.nil ?_
    refine tkN ?_
    refine hK25 _ _ ?_
    clear hK25
    refine WC.cond rfl (fun h26 => ?_) (fun h26 => ?_)
    · have qh26 := h26
      try simp only [decide_eq_true_eq, decide_eq_false_iff_not, Bool.not_eq_true', Bool.not_eq_false', Bool.and_eq_true, Bool.or_eq_false_iff, within_iff, within_not] at qh26
      refine WC.skip ?_
      refine tkN ?_
      refine hK24 _ _ ?_
      clear hK24
      refine WC.block ?_
      refine WC.seq (fun K27 hK27 => ?_)
      refine WC.region ?_
      refine WL.val rfl rfl rfl (Run.move rfl rfl) ?_
      refine WL.val rfl rfl rfl (Run.move rfl rfl) ?_
      refine WL.val rfl rfl rfl (Run.rem rfl rfl rfl ?_ ?_) ?_
      · omega
      · omega
      refine WL.val rfl rfl rfl (Run.add rfl rfl rfl ?_) ?_
      · constructor <;> omega
      refine WL.val rfl rfl rfl (Run.convU8 Try.runUnderlying3 Try.runUnderlying5 rfl rfl) ?_
      refine WL.buildSlice hs23 Try.runUnderlying22 Try.sizeOf5 Try.zeroValue5 rfl rfl rfl rfl rfl rfl rfl rfl rfl rfl (fun b28 whs29 hs29 => ?_)
      refine WL.appendG (St.perm hs29 (L' := L21 ++ _) (perm_front (A := [_]) (List.Perm.refl _))) ho22 (srcB1 Try.underlying22 (hs29.own _ (nthL_mem (i := 0) rfl)).1) Try.underlying22 info_5 rfl rfl rfl rfl rfl rfl rfl rfl rfl rfl ?_ (fun A33 c34 L30 whs31 hs31 ho32 => ?_)
      · simp only [List.length_append, List.length_singleton, List.length_nil]; omega
      replace hs31 := St.back [_] hs31
      refine WL.val rfl rfl rfl (Run.assign rfl rfl) ?_
      refine WL.nil ?_
      refine tkN ?_
      refine hK27 _ _ ?_
      clear hK27
      refine WC.region ?_
      refine WL.val rfl rfl rfl (Run.move rfl rfl) ?_
      refine WL.val rfl rfl rfl (Run.quo rfl rfl rfl ?_ ?_ ?_) ?_
      · omega
      · omega
      · omega
      refine WL.val rfl rfl rfl (Run.assign rfl rfl) ?_
      refine WL.nil ?_
      refine ibN ?_
      refine tkN ?_
      replace hs31 := St.drop hs31 (List.sublist_append_right [_] _)
      refine ⟨⟨rfl, rfl, rfl, rfl, rfl, rfl, rfl, rfl, rfl, trivial⟩, _, hs31, _, ?_, _, _, _, _, rfl, ?_, ?_, ?_, ho32, ⟨rfl, rfl, trivial⟩⟩
      · omega
      · omega
      · omega
      · rw [p2, List.append_assoc, List.singleton_append, ub_big (by omega)]
    · have qh26 := h26
      try simp only [decide_eq_true_eq, decide_eq_false_iff_not, Bool.not_eq_true', Bool.not_eq_false', Bool.and_eq_true, Bool.or_eq_false_iff, within_iff, within_not] at qh26
      refine WC.exit ?_
      refine tkE ?_
      refine tkE ?_
      refine ibE ?_
      refine tkN ?_
      refine hK18 _ _ ?_
      clear hK18
      refine WC.seq (fun K35 hK35 => ?_)
      refine WC.region ?_
      refine WL.val rfl rfl rfl (Run.move rfl rfl) ?_
      refine WL.val rfl rfl rfl (Run.move rfl rfl) ?_
      refine WL.val rfl rfl rfl (Run.convU8 Try.runUnderlying3 Try.runUnderlying5 rfl rfl) ?_
      refine WL.buildSlice hs23 Try.runUnderlying22 Try.sizeOf5 Try.zeroValue5 rfl rfl rfl rfl rfl rfl rfl rfl rfl rfl (fun b36 whs37 hs37 => ?_)
      refine WL.appendG (St.perm hs37 (L' := L21 ++ _) (perm_front (A := [_]) (List.Perm.refl _))) ho22 (srcB1 Try.underlying22 (hs37.own _ (nthL_mem (i := 0) rfl)).1) Try.underlying22 info_5 rfl rfl rfl rfl rfl rfl rfl rfl rfl rfl ?_ (fun A41 c42 L38 whs39 hs39 ho40 => ?_)
      · simp only [List.length_append, List.length_singleton, List.length_nil]; omega
      replace hs39 := St.back [_] hs39
      refine WL.val rfl rfl rfl (Run.assign rfl rfl) ?_
      refine WL.val rfl rfl rfl (Run.assign rfl rfl) ?_
      refine WL.nil ?_
      refine tkN ?_
      refine hK35 _ _ ?_
      clear hK35
      refine WC.ret ?_
      refine retV2 rfl (resV.tmp rfl) (resV.tmp rfl) ?_
      have hx_ := OwnF.eqOf (xs := b ++ varL n.toNat) ho40 (by rw [p2, ← ub_small p0 (by omega)])
      rw [← hx_]
      first | exact ⟨_, _, _, rfl, (St.keep1 (St.perm hs39 (L' := L38 ++ _) (perm_front (A := [_]) (List.Perm.refl _)))), ho40⟩ | exact ⟨A41, c42, _, by rw [OwnF.len_ ho40], (St.keep1 (St.perm hs39 (L' := L38 ++ _) (perm_front (A := [_]) (List.Perm.refl _)))), by rw [OwnF.len_ ho40]; exact ho40⟩
theorem c_spec_l12Nums (v_b : Value) (b : List UInt8) (L_b : Hp) (A_l : Option Addr) (n_l c_l : Nat) (l : List Int) (w : World) (o_b : OwnF encB 5 v_b b L_b) (h_b : ∀ p, p ∈ L_b → w.heap[p.1]? = some p.2) (f_l : SlF encI w A_l n_l l) (s_l : 0 < n_l → (adr A_l).block ∉ L_b.map (·.1)) (hl : ∀ x, x ∈ l → 0 ≤ x ∧ x ≤ 4294967295) (hx : b.length + 5 * n_l ≤ 268435456) :
    Calls Try.prog 61 #[v_b, .slice A_l n_l c_l] w fun e w' => ∃ A c L1, e = .returned (.slice A (b ++ numsL l).length c) ∧ St w (L_b.map (·.1)) L1 w' ∧ OwnF encB 5 (.slice A (b ++ numsL l).length c) (b ++ numsL l) L1 := by
  obtain ⟨A_b, c_b, rfl⟩ := o_b.shape
  refine enter (vs := [.slice A_b b.length c_b, .slice A_l n_l c_l]) 21 Try.func61 rfl Try.ntmps61 rfl rfl ?_
  have hs1 := St.lent1 w L_b o_b h_b
  refine WC.seq (fun K2 hK2 => ?_)
  refine WC.region ?_
  refine WL.val rfl rfl rfl (Run.assign rfl rfl) ?_
  refine WL.nil ?_
  refine tkN ?_
  refine hK2 _ _ ?_
  clear hK2
  refine WC.seq (fun K3 hK3 => ?_)
  refine WC.seq (fun K4 hK4 => ?_)
  refine WC.region ?_
  refine WL.val rfl rfl rfl (Run.move rfl rfl) ?_
  refine WL.val rfl rfl rfl (Run.lenSl Try.runUnderlying51 rfl rfl) ?_
  refine WL.val rfl rfl rfl (Run.move rfl rfl) ?_
  refine WL.nil ?_
  refine tkN ?_
  refine hK4 _ _ ?_
  clear hK4
  refine WC.block ?_
  refine WC.loopO [(1, _), (4, _), (7, _), (8, _)] ⟨rfl, rfl, rfl, rfl, trivial⟩ hs1 (fun k_ f L_ => ∃ (zs : List UInt8) (i : Nat) (A5 : Option Addr) (c6 : Nat), k_ = n_l - i ∧ (i ≤ n_l) ∧ (zs = b ++ numsL (l.take i)) ∧ OwnF encB 5 (.slice A5 (zs.length) c6) (zs) L_ ∧ Sub [(0, .slice A5 (zs.length) c6), (9, .int .i64 i)] f) (((fun (zs : List UInt8) (i : Nat) => n_l - i) (b) (0))) ?_ ?_
  · refine ⟨b, 0, _, _, rfl, ?_, ?_, o_b, ⟨rfl, rfl, trivial⟩⟩
    · exact Nat.zero_le _
    · simp [numsL]
  · clear hs1
    rintro _ f w L7 ⟨zs, i, A5, c6, rfl, p0, p1, ho8, hG⟩ hF hs9
    refine WC.sub _ (hG.app hF) ?_
    clear hG hF
    have hb5 := numsL_len (l := l.take i) (fun x hx => (by have := (hl x (List.mem_of_mem_take hx)).2; omega))
    have hbl := congrArg List.length p1
    simp only [List.length_append, List.length_take] at hbl hb5
    refine WC.seq (fun K10 hK10 => ?_)
    refine WC.region ?_
    refine WL.val rfl rfl rfl (Run.lss rfl rfl rfl) ?_
    refine WL.nil ?_
    refine tkN ?_
    refine hK10 _ _ ?_
    clear hK10
    refine WC.seq (fun K11 hK11 => ?_)
    refine WC.cond rfl (fun h12 => ?_) (fun h12 => ?_)
    · have qh12 := h12
      try simp only [decide_eq_true_eq, decide_eq_false_iff_not, Bool.not_eq_true', Bool.not_eq_false', Bool.and_eq_true, Bool.or_eq_false_iff, within_iff, within_not] at qh12
      have hi_ := hl (iat l i) (gat_mem (by rw [f_l.len]; omega))
      refine WC.skip ?_
      refine tkN ?_
      refine hK11 _ _ ?_
      clear hK11
      refine WC.seq (fun K13 hK13 => ?_)
      refine WC.block ?_
      refine WC.seq (fun K14 hK14 => ?_)
      refine WC.region ?_
      refine WL.val rfl rfl rfl (Run.idx Try.runUnderlying51 Try.sizeOf3 rfl rfl rfl ?_ ?_ ?_) ?_
      · exact SlF.some_ (SlF.st f_l hs9 s_l)
      · omega
      · omega
      refine WL.val rfl rfl rfl (Run.load Try.isAgg3 rfl rfl (SlF.one1 (SlF.st f_l hs9 s_l) ?_ rfl)) ?_
      · omega
      refine WL.val rfl rfl rfl (Run.assign rfl rfl) ?_
      refine WL.nil ?_
      refine tkN ?_
      refine hK14 _ _ ?_
      clear hK14
      refine WC.region ?_
      refine WL.val rfl rfl rfl (Run.move rfl rfl) ?_
      refine WL.val rfl rfl rfl (Run.move rfl rfl) ?_
      refine WL.call rfl rfl rfl (Run.call Try.call55 rfl rfl rfl) (c_spec_PutVar _ _ _ _ _ _ (SlF.ofOwn ho8 (fun p_ hp_ => (hs9.own p_ (List.mem_append_left _ hp_)).1)) ?_ ?_ ?_) ?_
      · exact hi_.1
      · exact hi_.2
      · omega
      rintro _ whs15 ⟨A16, c17, L118, rfl, hs15, ho19⟩
      replace hs15 := hs9.callF hs15
      refine ⟨_, rfl, ?_⟩
      refine WL.val rfl rfl rfl (Run.move rfl rfl) ?_
      refine WL.val rfl rfl rfl (Run.extract rfl rfl rfl) ?_
      refine WL.val rfl rfl rfl (Run.extract rfl rfl rfl) ?_
      refine WL.val rfl rfl rfl (Run.assign rfl rfl) ?_
      refine WL.nil ?_
      refine ibN ?_
      refine tkN ?_
      refine hK13 _ _ ?_
      clear hK13
      refine WC.region ?_
      refine WL.val rfl rfl rfl (Run.add rfl rfl rfl ?_) ?_
      · constructor <;> omega
      refine WL.val rfl rfl rfl (Run.move rfl rfl) ?_
      refine WL.nil ?_
      refine tkN ?_
      replace hs15 := St.drop (St.perm hs15 (L' := L7 ++ _) (perm_front (A := L118) (List.Perm.refl _))) (List.sublist_append_right L7 _)
      refine ⟨⟨rfl, rfl, rfl, rfl, trivial⟩, _, hs15, _, ?_, _, i + 1, _, _, rfl, ?_, ?_, ho19, ⟨rfl, rfl, trivial⟩⟩
      · omega
      · omega
      · rw [p1, numsL_take (by rw [f_l.len]; omega), List.append_assoc]; rfl
    · have qh12 := h12
      try simp only [decide_eq_true_eq, decide_eq_false_iff_not, Bool.not_eq_true', Bool.not_eq_false', Bool.and_eq_true, Bool.or_eq_false_iff, within_iff, within_not] at qh12
      refine WC.exit ?_
      refine tkE ?_
      refine tkE ?_
      refine ibE ?_
      refine tkN ?_
      refine hK3 _ _ ?_
      clear hK3
      refine WC.seq (fun K20 hK20 => ?_)
      refine WC.region ?_
      refine WL.val rfl rfl rfl (Run.move rfl rfl) ?_
      refine WL.val rfl rfl rfl (Run.assign rfl rfl) ?_
      refine WL.nil ?_
      refine tkN ?_
      refine hK20 _ _ ?_
      clear hK20
      refine WC.ret ?_
      refine retV1 rfl (resV.tmp rfl) ?_
      have hx_ := OwnF.eqOf (xs := b ++ numsL l) ho8 (by rw [p1, List.take_of_length_le (by rw [f_l.len]; omega)])
      rw [← hx_]
      first | exact ⟨_, _, _, rfl, (St.keep1 hs9), ho8⟩ | exact ⟨A5, c6, _, by rw [OwnF.len_ ho8], (St.keep1 hs9), by rw [OwnF.len_ ho8]; exact ho8⟩
theorem c_spec_PutText (A_b : Option Addr) (n_b c_b : Nat) (b : List UInt8) (s : ByteArray) (w : World) (f_b : SlF encB w A_b n_b b) (hs : s.size ≤ 4000) (hx : b.length ≤ 268000000) :
    Calls Try.prog 62 #[.slice A_b n_b c_b, .string s] w fun e w' => ∃ A c L1, e = .returned (.tuple #[.slice A (b ++ textL s).length c, .bool true]) ∧ St w [] L1 w' ∧ OwnF encB 5 (.slice A (b ++ textL s).length c) (b ++ textL s) L1 := by
  have hvl := varL_len s.size (by omega)
  refine enter (vs := [.slice A_b n_b c_b, .string s]) 21 Try.func62 rfl Try.ntmps62 rfl rfl ?_
  have hs1 := St.init w
  refine WC.seq (fun K2 hK2 => ?_)
  refine WC.region ?_
  refine WL.val rfl rfl rfl (Run.assign rfl rfl) ?_
  refine WL.val rfl rfl rfl (Run.assign rfl rfl) ?_
  refine WL.nil ?_
  refine tkN ?_
  refine hK2 _ _ ?_
  clear hK2
  refine WC.seq (fun K3 hK3 => ?_)
  refine WC.seq (fun K4 hK4 => ?_)
  refine WC.region ?_
  refine WL.val rfl rfl rfl (Run.move rfl rfl) ?_
  refine WL.val rfl rfl rfl (Run.lenStr Try.runUnderlying9 rfl rfl) ?_
  refine WL.val rfl rfl rfl (Run.gtr rfl rfl rfl) ?_
  refine WL.nil ?_
  refine tkN ?_
  refine hK4 _ _ ?_
  clear hK4
  refine WC.condF rfl (by simp; omega) ?_
  refine WC.skip ?_
  refine tkN ?_
  refine hK3 _ _ ?_
  clear hK3
  refine WC.seq (fun K6 hK6 => ?_)
  refine WC.region ?_
  refine WL.val rfl rfl rfl (Run.move rfl rfl) ?_
  refine WL.val rfl rfl rfl (Run.move rfl rfl) ?_
  refine WL.val rfl rfl rfl (Run.lenStr Try.runUnderlying9 rfl rfl) ?_
  refine WL.call rfl rfl rfl (Run.call Try.call55 rfl rfl rfl) (c_spec_PutVar _ _ _ _ _ _ (SlF.st0 f_b hs1) ?_ ?_ ?_) ?_
  · first | assumption | rfl | omega
  · first | assumption | rfl | omega
  · first | assumption | rfl | omega
  rintro _ whs7 ⟨A8, c9, L110, rfl, hs7, ho11⟩
  replace hs7 := hs1.callF hs7
  refine ⟨_, rfl, ?_⟩
  refine WL.val rfl rfl rfl (Run.move rfl rfl) ?_
  refine WL.val rfl rfl rfl (Run.extract rfl rfl rfl) ?_
  refine WL.val rfl rfl rfl (Run.extract rfl rfl rfl) ?_
  refine WL.val rfl rfl rfl (Run.assign rfl rfl) ?_
  refine WL.val rfl rfl rfl (Run.assign rfl rfl) ?_
  refine WL.nil ?_
  refine tkN ?_
  refine hK6 _ _ ?_
  clear hK6
  refine WC.seq (fun K12 hK12 => ?_)
  refine WC.region ?_
  refine WL.val rfl rfl rfl (Run.move rfl rfl) ?_
  refine WL.val rfl rfl rfl (Run.move rfl rfl) ?_
  refine WL.appendG hs7 ho11 (srcStr Try.underlying9 _) Try.underlying22 info_5 rfl rfl rfl rfl rfl rfl rfl rfl rfl rfl ?_ (fun A16 c17 L13 whs14 hs14 ho15 => ?_)
  · simp only [List.length_append, Int.toNat_natCast]; simp; omega
  refine WL.val rfl rfl rfl (Run.assign rfl rfl) ?_
  refine WL.val rfl rfl rfl (Run.assign rfl rfl) ?_
  refine WL.nil ?_
  refine tkN ?_
  refine hK12 _ _ ?_
  clear hK12
  refine WC.ret ?_
  refine retV2 rfl (resV.tmp rfl) (resV.tmp rfl) ?_
  have hx_ := OwnF.eqOf (xs := b ++ textL s) ho15 (by simp [textL])
  rw [← hx_]
  first | exact ⟨_, _, _, rfl, (St.keep1 hs14), ho15⟩ | exact ⟨A16, c17, _, by rw [OwnF.len_ ho15], (St.keep1 hs14), by rw [OwnF.len_ ho15]; exact ho15⟩
end Go.Proofs.Ytpiimkfonlijdaa
