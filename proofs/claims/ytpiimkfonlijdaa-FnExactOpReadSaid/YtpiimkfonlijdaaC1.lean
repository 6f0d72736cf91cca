/- Walks of Go functions, printed by a program (wip/gen). -/
import Derived.Test.YtpiimkfonlijdaaD1
import Derived.Test.YtpiimkfonlijdaaE7
import Derived.Test.YtpiimkfonlijdaaG1
namespace Go.Proofs.Ytpiimkfonlijdaa
open Go Go.RowKit
set_option linter.unusedVariables false
set_option linter.unusedSimpArgs false
theorem info_5 : Try.prog.info? 5 = some Try.t5 := by kernel_rfl
theorem info_81 : Try.prog.info? 81 = some Try.t81 := by kernel_rfl
theorem info_121 : Try.prog.info? 121 = some Try.t121 := by kernel_rfl
theorem c_laws_szByteS (A_a : Option Addr) (n_a c_a : Nat) (a : List UInt8) (left : Int) (w : World) (f_a : SlF encB w A_a n_a a) (h1 : 0 ≤ left) (h2 : left ≤ 1048576) (h3 : n_a ≤ 9223372036854775807) :
    Calls Try.prog 44 #[.slice A_a n_a c_a, i64 left] w fun e w' => e = .returned (.int .i64 (szR left n_a)) ∧ St w [] [] w' := by
  refine enter (vs := [.slice A_a n_a c_a, i64 left]) 12 Try.func44 rfl Try.ntmps44 rfl rfl ?_
  have hs1 := St.init w
  refine WC.seq (fun K2 hK2 => ?_)
  refine WC.region ?_
  refine WL.val rfl rfl rfl (Run.assign rfl rfl) ?_
  refine WL.nil ?_
  refine tkN ?_
  refine hK2 _ _ ?_
  clear hK2
  refine WC.seq (fun K3 hK3 => ?_)
  refine WC.region ?_
  refine WL.val rfl rfl rfl (Run.move rfl rfl) ?_
  refine WL.val rfl rfl rfl (Run.move rfl rfl) ?_
  refine WL.val rfl rfl rfl (Run.lenSl Try.runUnderlying22 rfl rfl) ?_
  refine WL.val rfl rfl rfl (Run.sub rfl rfl rfl ?_) ?_
  · constructor <;> omega
  refine WL.val rfl rfl rfl (Run.assign rfl rfl) ?_
  refine WL.nil ?_
  refine tkN ?_
  refine hK3 _ _ ?_
  clear hK3
  refine WC.seq (fun K4 hK4 => ?_)
  refine WC.seq (fun K5 hK5 => ?_)
  refine WC.region ?_
  refine WL.val rfl rfl rfl (Run.move rfl rfl) ?_
  refine WL.val rfl rfl rfl (Run.lss rfl rfl rfl) ?_
  refine WL.nil ?_
  refine tkN ?_
  refine hK5 _ _ ?_
  clear hK5
  refine WC.cond rfl (fun h6 => ?_) (fun h6 => ?_)
  · have qh6 := h6
    try simp only [decide_eq_true_eq, decide_eq_false_iff_not, Bool.not_eq_true', Bool.not_eq_false', Bool.and_eq_true, Bool.or_eq_false_iff, within_iff, within_not] at qh6
    refine WC.seq (fun K7 hK7 => ?_)
    refine WC.region ?_
    refine WL.val rfl rfl rfl (Run.assign rfl rfl) ?_
    refine WL.nil ?_
    refine tkN ?_
    refine hK7 _ _ ?_
    clear hK7
    refine WC.ret ?_
    refine tkR ?_
    clear hK4
    refine retV1 rfl (resV.tmp rfl) ?_
    refine ⟨congrArg Ending.returned ?_, hs1.nil⟩
    simp only [szR]; rw [if_neg (by omega)]
  · have qh6 := h6
    try simp only [decide_eq_true_eq, decide_eq_false_iff_not, Bool.not_eq_true', Bool.not_eq_false', Bool.and_eq_true, Bool.or_eq_false_iff, within_iff, within_not] at qh6
    refine WC.skip ?_
    refine tkN ?_
    refine hK4 _ _ ?_
    clear hK4
    refine WC.seq (fun K8 hK8 => ?_)
    refine WC.region ?_
    refine WL.val rfl rfl rfl (Run.move rfl rfl) ?_
    refine WL.val rfl rfl rfl (Run.assign rfl rfl) ?_
    refine WL.nil ?_
    refine tkN ?_
    refine hK8 _ _ ?_
    clear hK8
    refine WC.ret ?_
    refine retV1 rfl (resV.tmp rfl) ?_
    refine ⟨congrArg Ending.returned ?_, hs1.nil⟩
    simp only [szR]; rw [if_pos (by omega)]
theorem c_laws_toByteS (A_a : Option Addr) (n_a c_a : Nat) (a : List UInt8) (w : World) (f_a : SlF encB w A_a n_a a) (hn : n_a ≤ 1099511627776) :
    Calls Try.prog 28 #[.slice A_a n_a c_a] w fun e w' => ∃ A c L1, e = .returned (.slice A (a).length c) ∧ St w [] L1 w' ∧ OwnF encB 5 (.slice A (a).length c) (a) L1 := by
  refine enter (vs := [.slice A_a n_a c_a]) 22 Try.func28 rfl Try.ntmps28 rfl rfl ?_
  have hs1 := St.init w
  refine WC.seq (fun K2 hK2 => ?_)
  refine WC.region ?_
  refine WL.val rfl rfl rfl (Run.assign rfl rfl) ?_
  refine WL.nil ?_
  refine tkN ?_
  refine hK2 _ _ ?_
  clear hK2
  refine WC.seq (fun K3 hK3 => ?_)
  refine WC.region ?_
  refine WL.val rfl rfl rfl (Run.move rfl rfl) ?_
  refine WL.val rfl rfl rfl (Run.lenSl Try.runUnderlying22 rfl rfl) ?_
  refine WL.makeF (F := encB) hs1 Try.underlying22 info_5 rfl rfl rfl rfl rfl rfl rfl rfl rfl ?_ ?_ (fun A7 c8 L4 whs5 hs5 ho6 => ?_)
  · have e_ : Try.t5.bytes = 1 := rfl
    rw [e_]; omega
  · omega
  refine WL.val rfl rfl rfl (Run.assign rfl rfl) ?_
  refine WL.nil ?_
  refine tkN ?_
  refine hK3 _ _ ?_
  clear hK3
  refine WC.seq (fun K9 hK9 => ?_)
  refine WC.seq (fun K10 hK10 => ?_)
  refine WC.region ?_
  refine WL.val rfl rfl rfl (Run.assign rfl rfl) ?_
  refine WL.nil ?_
  refine tkN ?_
  refine hK10 _ _ ?_
  clear hK10
  refine WC.block ?_
  refine WC.loopO [(0, _), (2, _), (5, _), (6, _), (7, _)] ⟨rfl, rfl, rfl, rfl, rfl, trivial⟩ hs5 (fun k_ f L_ => ∃ (i : Nat) (A11 : Option Addr) (c12 : Nat), k_ = n_a - i ∧ (i ≤ n_a) ∧ OwnF encB 5 (.slice A11 (n_a) c12) (fillG encB a i) L_ ∧ Sub [(3, .slice A11 (n_a) c12), (4, .int .i64 i)] f) (((fun (i : Nat) => n_a - i) (0))) ?_ ?_
  · refine ⟨0, _, _, rfl, ?_, (fillG_zero f_a.len ▸ ho6), ⟨rfl, rfl, trivial⟩⟩
    · exact Nat.zero_le _
  · clear hs5
    rintro _ f w L13 ⟨i, A11, c12, rfl, p0, ho14, hG⟩ hF hs15
    refine WC.sub _ (hG.app hF) ?_
    clear hG hF
    refine WC.seq (fun K16 hK16 => ?_)
    refine WC.seq (fun K17 hK17 => ?_)
    refine WC.region ?_
    refine WL.val rfl rfl rfl (Run.move rfl rfl) ?_
    refine WL.val rfl rfl rfl (Run.move rfl rfl) ?_
    refine WL.val rfl rfl rfl (Run.lenSl Try.runUnderlying22 rfl rfl) ?_
    refine WL.val rfl rfl rfl (Run.lss rfl rfl rfl) ?_
    refine WL.nil ?_
    refine tkN ?_
    refine hK17 _ _ ?_
    clear hK17
    refine WC.cond rfl (fun h18 => ?_) (fun h18 => ?_)
    · have qh18 := h18
      try simp only [decide_eq_true_eq, decide_eq_false_iff_not, Bool.not_eq_true', Bool.not_eq_false', Bool.and_eq_true, Bool.or_eq_false_iff, within_iff, within_not] at qh18
      refine WC.skip ?_
      refine tkN ?_
      refine hK16 _ _ ?_
      clear hK16
      refine WC.seq (fun K19 hK19 => ?_)
      refine WC.block ?_
      refine WC.region ?_
      refine WL.val rfl rfl rfl (Run.move rfl rfl) ?_
      refine WL.val rfl rfl rfl (Run.move rfl rfl) ?_
      refine WL.val rfl rfl rfl (Run.move rfl rfl) ?_
      refine WL.val rfl rfl rfl (Run.move rfl rfl) ?_
      refine WL.val rfl rfl rfl (Run.idx Try.runUnderlying22 Try.sizeOf5 rfl rfl rfl ?_ ?_ ?_) ?_
      · exact SlF.some_ (SlF.st0 f_a hs15)
      · omega
      · omega
      refine WL.val rfl rfl rfl (Run.load Try.isAgg5 rfl rfl (SlF.one1 (SlF.st0 f_a hs15) ?_ rfl)) ?_
      · omega
      refine WL.val rfl rfl rfl (Run.idx Try.runUnderlying22 Try.sizeOf5 rfl rfl rfl ?_ ?_ ?_) ?_
      · exact SlF.some_ (SlF.ofOwn ho14 (fun p_ hp_ => (hs15.own p_ (List.mem_append_left _ hp_)).1))
      · omega
      · omega
      refine WL.storeF1 (x' := _) hs15 ho14 Try.sizeOf5 rfl rfl rfl rfl rfl rfl rfl rfl rfl ?_ rfl (fun L20 whs21 hs21 ho22 _ => ?_)
      · omega
      refine WL.nil ?_
      refine ibN ?_
      refine tkN ?_
      refine hK19 _ _ ?_
      clear hK19
      refine WC.region ?_
      refine WL.val rfl rfl rfl (Run.move rfl rfl) ?_
      refine WL.val rfl rfl rfl (Run.add rfl rfl rfl ?_) ?_
      · constructor <;> omega
      refine WL.val rfl rfl rfl (Run.assign rfl rfl) ?_
      refine WL.nil ?_
      refine tkN ?_
      rw [fillG_set (i := i) (by rw [f_a.len]; omega) (by simp) (by simp)] at ho22
      refine ⟨⟨rfl, rfl, rfl, rfl, rfl, trivial⟩, _, hs21, _, ?_, i + 1, _, _, rfl, ?_, ho22, ⟨rfl, rfl, trivial⟩⟩
      · omega
      · omega
    · have qh18 := h18
      try simp only [decide_eq_true_eq, decide_eq_false_iff_not, Bool.not_eq_true', Bool.not_eq_false', Bool.and_eq_true, Bool.or_eq_false_iff, within_iff, within_not] at qh18
      refine WC.exit ?_
      refine tkE ?_
      refine tkE ?_
      refine ibE ?_
      refine tkN ?_
      refine hK9 _ _ ?_
      clear hK9
      refine WC.seq (fun K23 hK23 => ?_)
      refine WC.region ?_
      refine WL.val rfl rfl rfl (Run.move rfl rfl) ?_
      refine WL.val rfl rfl rfl (Run.assign rfl rfl) ?_
      refine WL.nil ?_
      refine tkN ?_
      refine hK23 _ _ ?_
      clear hK23
      refine WC.ret ?_
      refine retV1 rfl (resV.tmp rfl) ?_
      have hx_ := OwnF.eqOf (xs := a) ho14 (fillG_full (by rw [f_a.len]; omega))
      have hy_ := ho14
      rw [hx_] at hy_
      obtain ⟨A_, c_, hz_⟩ := hy_.shape
      exact ⟨A_, c_, _, congrArg Ending.returned hz_, (St.keep1 hs15), hz_ ▸ hy_⟩
theorem c_laws_eqByteS (A_a : Option Addr) (n_a c_a : Nat) (a : List UInt8) (A_b : Option Addr) (n_b c_b : Nat) (b : List UInt8) (w : World) (f_a : SlF encB w A_a n_a a) (f_b : SlF encB w A_b n_b b) (hn : n_a ≤ 1099511627776) (hab : a = b) :
    Calls Try.prog 19 #[.slice A_a n_a c_a, .slice A_b n_b c_b] w fun e w' => e = .returned (.bool true) ∧ St w [] [] w' := by
  subst hab
  obtain rfl : n_a = n_b := f_a.len.symm.trans f_b.len
  refine enter (vs := [.slice A_a n_a c_a, .slice A_b n_a c_b]) 26 Try.func19 rfl Try.ntmps19 rfl rfl ?_
  have hs1 := St.init w
  refine WC.seq (fun K2 hK2 => ?_)
  refine WC.region ?_
  refine WL.val rfl rfl rfl (Run.assign rfl rfl) ?_
  refine WL.nil ?_
  refine tkN ?_
  refine hK2 _ _ ?_
  clear hK2
  refine WC.seq (fun K3 hK3 => ?_)
  refine WC.seq (fun K4 hK4 => ?_)
  refine WC.region ?_
  refine WL.val rfl rfl rfl (Run.move rfl rfl) ?_
  refine WL.val rfl rfl rfl (Run.lenSl Try.runUnderlying22 rfl rfl) ?_
  refine WL.val rfl rfl rfl (Run.move rfl rfl) ?_
  refine WL.val rfl rfl rfl (Run.lenSl Try.runUnderlying22 rfl rfl) ?_
  refine WL.val rfl rfl rfl (Run.neq rfl rfl rfl) ?_
  refine WL.nil ?_
  refine tkN ?_
  refine hK4 _ _ ?_
  clear hK4
  refine WC.condF rfl (by simp) ?_
  refine WC.skip ?_
  refine tkN ?_
  refine hK3 _ _ ?_
  clear hK3
  refine WC.seq (fun K6 hK6 => ?_)
  refine WC.seq (fun K7 hK7 => ?_)
  refine WC.region ?_
  refine WL.val rfl rfl rfl (Run.assign rfl rfl) ?_
  refine WL.nil ?_
  refine tkN ?_
  refine hK7 _ _ ?_
  clear hK7
  refine WC.block ?_
  refine WC.loopS [(0, _), (1, _), (6, _), (7, _), (8, _), (9, _), (10, _)] ⟨rfl, rfl, rfl, rfl, rfl, rfl, rfl, trivial⟩ hs1 (fun k_ f w' => ∃ (i : Nat), k_ = n_a - i ∧ (i ≤ n_a) ∧ Sub [(5, .int .i64 i)] f) ((fun (i : Nat) => n_a - i) (0)) ?_ ?_
  · refine ⟨0, rfl, ?_, ⟨rfl, trivial⟩⟩
    · exact Nat.zero_le _
  · clear hs1
    rintro _ f w ⟨i, rfl, p0, hG⟩ hF hs8
    refine WC.sub _ (hG.app hF) ?_
    clear hG hF
    refine WC.seq (fun K9 hK9 => ?_)
    refine WC.seq (fun K10 hK10 => ?_)
    refine WC.region ?_
    refine WL.val rfl rfl rfl (Run.move rfl rfl) ?_
    refine WL.val rfl rfl rfl (Run.move rfl rfl) ?_
    refine WL.val rfl rfl rfl (Run.lenSl Try.runUnderlying22 rfl rfl) ?_
    refine WL.val rfl rfl rfl (Run.lss rfl rfl rfl) ?_
    refine WL.nil ?_
    refine tkN ?_
    refine hK10 _ _ ?_
    clear hK10
    refine WC.cond rfl (fun h11 => ?_) (fun h11 => ?_)
    · have qh11 := h11
      try simp only [decide_eq_true_eq, decide_eq_false_iff_not, Bool.not_eq_true', Bool.not_eq_false', Bool.and_eq_true, Bool.or_eq_false_iff, within_iff, within_not] at qh11
      refine WC.skip ?_
      refine tkN ?_
      refine hK9 _ _ ?_
      clear hK9
      refine WC.seq (fun K12 hK12 => ?_)
      refine WC.block ?_
      refine WC.seq (fun K13 hK13 => ?_)
      refine WC.regionQ (fun w' => St _ _ _ w') mixed (by kernel_rfl) hs8.drew ?_
      refine WQ.val rfl rfl rfl (fun w_ hs_ => (Run.move rfl rfl)) ?_
      refine WQ.val rfl rfl rfl (fun w_ hs_ => (Run.move rfl rfl)) ?_
      refine WQ.val rfl rfl rfl (fun w_ hs_ => (Run.idx Try.runUnderlying22 Try.sizeOf5 rfl rfl rfl ?_ ?_ ?_)) ?_
      · exact SlF.some_ (SlF.st0 f_a (hs_ : St _ _ _ _))
      · omega
      · omega
      refine WQ.val rfl rfl rfl (fun w_ hs_ => (Run.load Try.isAgg5 rfl rfl (SlF.one1 (SlF.st0 f_a (hs_ : St _ _ _ _)) ?_ rfl))) ?_
      · omega
      refine WQ.val rfl rfl rfl (fun w_ hs_ => (Run.move rfl rfl)) ?_
      refine WQ.val rfl rfl rfl (fun w_ hs_ => (Run.move rfl rfl)) ?_
      refine WQ.val rfl rfl rfl (fun w_ hs_ => (Run.idx Try.runUnderlying22 Try.sizeOf5 rfl rfl rfl ?_ ?_ ?_)) ?_
      · exact SlF.some_ (SlF.st0 f_b (hs_ : St _ _ _ _))
      · omega
      · omega
      refine WQ.val rfl rfl rfl (fun w_ hs_ => (Run.load Try.isAgg5 rfl rfl (SlF.one1 (SlF.st0 f_b (hs_ : St _ _ _ _)) ?_ rfl))) ?_
      · omega
      refine WQ.val rfl rfl rfl (fun w_ hs_ => (Run.neq rfl rfl rfl)) ?_
      refine WQ.nil (fun whs14 hs14 => ?_)
      replace hs14 : St _ _ _ _ := hs14
      refine tkN ?_
      refine hK13 _ _ ?_
      clear hK13
      refine WC.condF rfl (by simp) ?_
      refine WC.skip ?_
      refine ibN ?_
      refine tkN ?_
      refine hK12 _ _ ?_
      clear hK12
      refine WC.region ?_
      refine WL.val rfl rfl rfl (Run.move rfl rfl) ?_
      refine WL.val rfl rfl rfl (Run.add rfl rfl rfl ?_) ?_
      · constructor <;> omega
      refine WL.val rfl rfl rfl (Run.assign rfl rfl) ?_
      refine WL.nil ?_
      refine tkN ?_
      refine ⟨⟨rfl, rfl, rfl, rfl, rfl, rfl, rfl, trivial⟩, hs14, _, ?_, i + 1, rfl, ?_, ⟨rfl, trivial⟩⟩
      · omega
      · omega
    · have qh11 := h11
      try simp only [decide_eq_true_eq, decide_eq_false_iff_not, Bool.not_eq_true', Bool.not_eq_false', Bool.and_eq_true, Bool.or_eq_false_iff, within_iff, within_not] at qh11
      refine WC.exit ?_
      refine tkE ?_
      refine tkE ?_
      refine ibE ?_
      refine tkN ?_
      refine hK6 _ _ ?_
      clear hK6
      refine WC.seq (fun K16 hK16 => ?_)
      refine WC.region ?_
      refine WL.val rfl rfl rfl (Run.assign rfl rfl) ?_
      refine WL.nil ?_
      refine tkN ?_
      refine hK16 _ _ ?_
      clear hK16
      refine WC.ret ?_
      refine retV1 rfl (resV.tmp rfl) ?_
      refine ⟨congrArg Ending.returned ?_, hs8.nil⟩
      rfl
theorem c_laws_toNode (a_Pane : Int) (a_Down : Bool) (a_First : Int) (w : World) :
    Calls Try.prog 85 #[.agg #[i64 a_Pane, .bool a_Down, i64 a_First]] w fun e w' => e = .returned (.agg #[i64 a_Pane, .bool a_Down, i64 a_First]) ∧ St w [] [] w' := by
  refine enter (vs := [.agg #[i64 a_Pane, .bool a_Down, i64 a_First]]) 14 Try.func85 rfl Try.ntmps85 rfl rfl ?_
  have hs1 := St.init w
  refine WC.seq (fun K2 hK2 => ?_)
  refine WC.region ?_
  refine WL.box hs1 rfl rfl rfl rfl rfl rfl (fun b3 whs4 hs4 => ?_)
  refine WL.alloc hs4 Try.zeroValue121 rfl rfl rfl rfl rfl (fun b5 whs6 hs6 => ?_)
  refine WL.nil ?_
  refine tkN ?_
  refine hK2 _ _ ?_
  clear hK2
  refine WC.seq (fun K7 hK7 => ?_)
  refine WC.region ?_
  refine WL.alloc hs6 Try.zeroValue121 rfl rfl rfl rfl rfl (fun b8 whs9 hs9 => ?_)
  refine WL.nil ?_
  refine tkN ?_
  refine hK7 _ _ ?_
  clear hK7
  refine WC.seq (fun K10 hK10 => ?_)
  refine WC.region ?_
  refine WL.val rfl rfl rfl (Run.field Try.runUnderlying124 rfl rfl rfl Try.sizeOf3 rfl) ?_
  refine WL.val rfl rfl rfl (Run.loadL hs9 2 Try.isAgg3 rfl rfl rfl rfl) ?_
  refine WL.val rfl rfl rfl (Run.field Try.runUnderlying121 rfl rfl rfl Try.sizeOf3 rfl) ?_
  refine WL.store hs9 0 Try.sizeOf3 rfl rfl rfl rfl rfl rfl rfl rfl rfl rfl (fun whs11 hs11 => ?_)
  refine WL.nil ?_
  refine tkN ?_
  refine hK10 _ _ ?_
  clear hK10
  refine WC.seq (fun K12 hK12 => ?_)
  refine WC.region ?_
  refine WL.val rfl rfl rfl (Run.field Try.runUnderlying124 rfl rfl rfl Try.sizeOf4 rfl) ?_
  refine WL.val rfl rfl rfl (Run.loadL hs11 2 Try.isAgg4 rfl rfl rfl rfl) ?_
  refine WL.val rfl rfl rfl (Run.field Try.runUnderlying121 rfl rfl rfl Try.sizeOf4 rfl) ?_
  refine WL.store hs11 0 Try.sizeOf4 rfl rfl rfl rfl rfl rfl rfl rfl rfl rfl (fun whs13 hs13 => ?_)
  refine WL.nil ?_
  refine tkN ?_
  refine hK12 _ _ ?_
  clear hK12
  refine WC.seq (fun K14 hK14 => ?_)
  refine WC.region ?_
  refine WL.val rfl rfl rfl (Run.field Try.runUnderlying124 rfl rfl rfl Try.sizeOf3 rfl) ?_
  refine WL.val rfl rfl rfl (Run.loadL hs13 2 Try.isAgg3 rfl rfl rfl rfl) ?_
  refine WL.val rfl rfl rfl (Run.field Try.runUnderlying121 rfl rfl rfl Try.sizeOf3 rfl) ?_
  refine WL.store hs13 0 Try.sizeOf3 rfl rfl rfl rfl rfl rfl rfl rfl rfl rfl (fun whs15 hs15 => ?_)
  refine WL.nil ?_
  refine tkN ?_
  refine hK14 _ _ ?_
  clear hK14
  refine WC.seq (fun K16 hK16 => ?_)
  refine WC.region ?_
  refine WL.val rfl rfl rfl (Run.loadLA hs15 0 Try.isAgg121 Try.sizeOf121 rfl rfl rfl rfl rfl) ?_
  refine WL.storeA hs15 1 Try.sizeOf121 rfl rfl rfl rfl rfl rfl rfl rfl rfl (Nat.le_of_ble_eq_true rfl) (.inl (Nat.le_of_ble_eq_true rfl)) (fun whs17 hs17 => ?_)
  refine WL.nil ?_
  refine tkN ?_
  refine hK16 _ _ ?_
  clear hK16
  refine WC.ret ?_
  refine retV1 rfl (resV.cell rfl (run_loadVarA Try.isAgg121 Try.sizeOf121 (cells_of_heap (hs17.own _ (nthL_mem (i := 1) rfl)).1 rfl rfl))) ?_
  refine ⟨congrArg Ending.returned ?_, hs17.nil⟩
  rfl
theorem c_laws_eqNode (a_Pane : Int) (a_Down : Bool) (a_First : Int) (b_Pane : Int) (b_Down : Bool) (b_First : Int) (w : World) (hab : (⟨a_Pane, a_Down, a_First⟩ : NodeD) = (⟨b_Pane, b_Down, b_First⟩ : NodeD)) :
    Calls Try.prog 91 #[.agg #[i64 a_Pane, .bool a_Down, i64 a_First], .agg #[i64 b_Pane, .bool b_Down, i64 b_First]] w fun e w' => e = .returned (.bool true) ∧ St w [] [] w' := by
  cases hab
  refine enter (vs := [.agg #[i64 a_Pane, .bool a_Down, i64 a_First], .agg #[i64 a_Pane, .bool a_Down, i64 a_First]]) 20 Try.func91 rfl Try.ntmps91 rfl rfl ?_
  have hs1 := St.init w
  refine WC.seq (fun K2 hK2 => ?_)
  refine WC.region ?_
  refine WL.box hs1 rfl rfl rfl rfl rfl rfl (fun b3 whs4 hs4 => ?_)
  refine WL.box hs4 rfl rfl rfl rfl rfl rfl (fun b5 whs6 hs6 => ?_)
  refine WL.val rfl rfl rfl (Run.assign rfl rfl) ?_
  refine WL.nil ?_
  refine tkN ?_
  refine hK2 _ _ ?_
  clear hK2
  refine WC.seq (fun K7 hK7 => ?_)
  refine WC.seq (fun K8 hK8 => ?_)
  refine WC.region ?_
  refine WL.val rfl rfl rfl (Run.field Try.runUnderlying121 rfl rfl rfl Try.sizeOf3 rfl) ?_
  refine WL.val rfl rfl rfl (Run.loadL hs6 1 Try.isAgg3 rfl rfl rfl rfl) ?_
  refine WL.val rfl rfl rfl (Run.field Try.runUnderlying121 rfl rfl rfl Try.sizeOf3 rfl) ?_
  refine WL.val rfl rfl rfl (Run.loadL hs6 0 Try.isAgg3 rfl rfl rfl rfl) ?_
  refine WL.val rfl rfl rfl (Run.neq rfl rfl rfl) ?_
  refine WL.nil ?_
  refine tkN ?_
  refine hK8 _ _ ?_
  clear hK8
  refine WC.condF rfl (by simp) ?_
  refine WC.skip ?_
  refine tkN ?_
  refine hK7 _ _ ?_
  clear hK7
  refine WC.seq (fun K10 hK10 => ?_)
  refine WC.seq (fun K11 hK11 => ?_)
  refine WC.region ?_
  refine WL.val rfl rfl rfl (Run.field Try.runUnderlying121 rfl rfl rfl Try.sizeOf4 rfl) ?_
  refine WL.val rfl rfl rfl (Run.loadL hs6 1 Try.isAgg4 rfl rfl rfl rfl) ?_
  refine WL.val rfl rfl rfl (Run.field Try.runUnderlying121 rfl rfl rfl Try.sizeOf4 rfl) ?_
  refine WL.val rfl rfl rfl (Run.loadL hs6 0 Try.isAgg4 rfl rfl rfl rfl) ?_
  refine WL.val rfl rfl rfl (Run.neqB Try.runUnderlying4 rfl rfl rfl) ?_
  refine WL.nil ?_
  refine tkN ?_
  refine hK11 _ _ ?_
  clear hK11
  refine WC.condF rfl (by simp) ?_
  refine WC.skip ?_
  refine tkN ?_
  refine hK10 _ _ ?_
  clear hK10
  refine WC.seq (fun K13 hK13 => ?_)
  refine WC.seq (fun K14 hK14 => ?_)
  refine WC.region ?_
  refine WL.val rfl rfl rfl (Run.field Try.runUnderlying121 rfl rfl rfl Try.sizeOf3 rfl) ?_
  refine WL.val rfl rfl rfl (Run.loadL hs6 1 Try.isAgg3 rfl rfl rfl rfl) ?_
  refine WL.val rfl rfl rfl (Run.field Try.runUnderlying121 rfl rfl rfl Try.sizeOf3 rfl) ?_
  refine WL.val rfl rfl rfl (Run.loadL hs6 0 Try.isAgg3 rfl rfl rfl rfl) ?_
  refine WL.val rfl rfl rfl (Run.neq rfl rfl rfl) ?_
  refine WL.nil ?_
  refine tkN ?_
  refine hK14 _ _ ?_
  clear hK14
  refine WC.condF rfl (by simp) ?_
  refine WC.skip ?_
  refine tkN ?_
  refine hK13 _ _ ?_
  clear hK13
  refine WC.seq (fun K16 hK16 => ?_)
  refine WC.region ?_
  refine WL.val rfl rfl rfl (Run.assign rfl rfl) ?_
  refine WL.nil ?_
  refine tkN ?_
  refine hK16 _ _ ?_
  clear hK16
  refine WC.ret ?_
  refine retV1 rfl (resV.tmp rfl) ?_
  refine ⟨congrArg Ending.returned ?_, hs6.nil⟩
  rfl
theorem c_laws_szNodeS (A_a : Option Addr) (n_a c_a : Nat) (a : List NodeD) (left : Int) (w : World) (f_a : SlF encNode w A_a n_a a) (h1 : 0 ≤ left) (h2 : left ≤ 1048576) (h3 : n_a ≤ 9223372036854775807) :
    Calls Try.prog 39 #[.slice A_a n_a c_a, i64 left] w fun e w' => e = .returned (.int .i64 (szR left n_a)) ∧ St w [] [] w' := by
  refine enter (vs := [.slice A_a n_a c_a, i64 left]) 12 Try.func39 rfl Try.ntmps39 rfl rfl ?_
  have hs1 := St.init w
  refine WC.seq (fun K2 hK2 => ?_)
  refine WC.region ?_
  refine WL.val rfl rfl rfl (Run.assign rfl rfl) ?_
  refine WL.nil ?_
  refine tkN ?_
  refine hK2 _ _ ?_
  clear hK2
  refine WC.seq (fun K3 hK3 => ?_)
  refine WC.region ?_
  refine WL.val rfl rfl rfl (Run.move rfl rfl) ?_
  refine WL.val rfl rfl rfl (Run.move rfl rfl) ?_
  refine WL.val rfl rfl rfl (Run.lenSl Try.runUnderlying68 rfl rfl) ?_
  refine WL.val rfl rfl rfl (Run.sub rfl rfl rfl ?_) ?_
  · constructor <;> omega
  refine WL.val rfl rfl rfl (Run.assign rfl rfl) ?_
  refine WL.nil ?_
  refine tkN ?_
  refine hK3 _ _ ?_
  clear hK3
  refine WC.seq (fun K4 hK4 => ?_)
  refine WC.seq (fun K5 hK5 => ?_)
  refine WC.region ?_
  refine WL.val rfl rfl rfl (Run.move rfl rfl) ?_
  refine WL.val rfl rfl rfl (Run.lss rfl rfl rfl) ?_
  refine WL.nil ?_
  refine tkN ?_
  refine hK5 _ _ ?_
  clear hK5
  refine WC.cond rfl (fun h6 => ?_) (fun h6 => ?_)
  · have qh6 := h6
    try simp only [decide_eq_true_eq, decide_eq_false_iff_not, Bool.not_eq_true', Bool.not_eq_false', Bool.and_eq_true, Bool.or_eq_false_iff, within_iff, within_not] at qh6
    refine WC.seq (fun K7 hK7 => ?_)
    refine WC.region ?_
    refine WL.val rfl rfl rfl (Run.assign rfl rfl) ?_
    refine WL.nil ?_
    refine tkN ?_
    refine hK7 _ _ ?_
    clear hK7
    refine WC.ret ?_
    refine tkR ?_
    clear hK4
    refine retV1 rfl (resV.tmp rfl) ?_
    refine ⟨congrArg Ending.returned ?_, hs1.nil⟩
    simp only [szR]; rw [if_neg (by omega)]
  · have qh6 := h6
    try simp only [decide_eq_true_eq, decide_eq_false_iff_not, Bool.not_eq_true', Bool.not_eq_false', Bool.and_eq_true, Bool.or_eq_false_iff, within_iff, within_not] at qh6
    refine WC.skip ?_
    refine tkN ?_
    refine hK4 _ _ ?_
    clear hK4
    refine WC.seq (fun K8 hK8 => ?_)
    refine WC.region ?_
    refine WL.val rfl rfl rfl (Run.move rfl rfl) ?_
    refine WL.val rfl rfl rfl (Run.assign rfl rfl) ?_
    refine WL.nil ?_
    refine tkN ?_
    refine hK8 _ _ ?_
    clear hK8
    refine WC.ret ?_
    refine retV1 rfl (resV.tmp rfl) ?_
    refine ⟨congrArg Ending.returned ?_, hs1.nil⟩
    simp only [szR]; rw [if_pos (by omega)]
theorem c_laws_toNodeS (A_a : Option Addr) (n_a c_a : Nat) (a : List NodeD) (w : World) (f_a : SlF encNode w A_a n_a a) (hn : n_a ≤ 1099511627776) :
    Calls Try.prog 41 #[.slice A_a n_a c_a] w fun e w' => ∃ A c L1, e = .returned (.slice A (a).length c) ∧ St w [] L1 w' ∧ OwnF encNode 121 (.slice A (a).length c) (a) L1 := by
  refine enter (vs := [.slice A_a n_a c_a]) 23 Try.func41 rfl Try.ntmps41 rfl rfl ?_
  have hs1 := St.init w
  refine WC.seq (fun K2 hK2 => ?_)
  refine WC.region ?_
  refine WL.val rfl rfl rfl (Run.assign rfl rfl) ?_
  refine WL.nil ?_
  refine tkN ?_
  refine hK2 _ _ ?_
  clear hK2
  refine WC.seq (fun K3 hK3 => ?_)
  refine WC.region ?_
  refine WL.val rfl rfl rfl (Run.move rfl rfl) ?_
  refine WL.val rfl rfl rfl (Run.lenSl Try.runUnderlying68 rfl rfl) ?_
  refine WL.makeF (F := encNode) hs1 Try.underlying71 info_121 rfl rfl rfl rfl rfl rfl rfl rfl rfl ?_ ?_ (fun A7 c8 L4 whs5 hs5 ho6 => ?_)
  · have e_ : Try.t121.bytes = 24 := rfl
    rw [e_]; omega
  · omega
  refine WL.val rfl rfl rfl (Run.assign rfl rfl) ?_
  refine WL.nil ?_
  refine tkN ?_
  refine hK3 _ _ ?_
  clear hK3
  refine WC.seq (fun K9 hK9 => ?_)
  refine WC.seq (fun K10 hK10 => ?_)
  refine WC.region ?_
  refine WL.val rfl rfl rfl (Run.assign rfl rfl) ?_
  refine WL.nil ?_
  refine tkN ?_
  refine hK10 _ _ ?_
  clear hK10
  refine WC.block ?_
  refine WC.loopO [(0, _), (2, _), (5, _), (6, _), (7, _)] ⟨rfl, rfl, rfl, rfl, rfl, trivial⟩ hs5 (fun k_ f L_ => ∃ (i : Nat) (A11 : Option Addr) (c12 : Nat), k_ = n_a - i ∧ (i ≤ n_a) ∧ OwnF encNode 121 (.slice A11 (n_a) c12) (fillG encNode a i) L_ ∧ Sub [(3, .slice A11 (n_a) c12), (4, .int .i64 i)] f) (((fun (i : Nat) => n_a - i) (0))) ?_ ?_
  · refine ⟨0, _, _, rfl, ?_, (fillG_zero f_a.len ▸ ho6), ⟨rfl, rfl, trivial⟩⟩
    · exact Nat.zero_le _
  · clear hs5
    rintro _ f w L13 ⟨i, A11, c12, rfl, p0, ho14, hG⟩ hF hs15
    refine WC.sub _ (hG.app hF) ?_
    clear hG hF
    refine WC.seq (fun K16 hK16 => ?_)
    refine WC.seq (fun K17 hK17 => ?_)
    refine WC.region ?_
    refine WL.val rfl rfl rfl (Run.move rfl rfl) ?_
    refine WL.val rfl rfl rfl (Run.move rfl rfl) ?_
    refine WL.val rfl rfl rfl (Run.lenSl Try.runUnderlying68 rfl rfl) ?_
    refine WL.val rfl rfl rfl (Run.lss rfl rfl rfl) ?_
    refine WL.nil ?_
    refine tkN ?_
    refine hK17 _ _ ?_
    clear hK17
    refine WC.cond rfl (fun h18 => ?_) (fun h18 => ?_)
    · have qh18 := h18
      try simp only [decide_eq_true_eq, decide_eq_false_iff_not, Bool.not_eq_true', Bool.not_eq_false', Bool.and_eq_true, Bool.or_eq_false_iff, within_iff, within_not] at qh18
      refine WC.skip ?_
      refine tkN ?_
      refine hK16 _ _ ?_
      clear hK16
      refine WC.seq (fun K19 hK19 => ?_)
      refine WC.block ?_
      refine WC.region ?_
      refine WL.val rfl rfl rfl (Run.move rfl rfl) ?_
      refine WL.val rfl rfl rfl (Run.move rfl rfl) ?_
      refine WL.val rfl rfl rfl (Run.move rfl rfl) ?_
      refine WL.val rfl rfl rfl (Run.move rfl rfl) ?_
      refine WL.val rfl rfl rfl (Run.idx Try.runUnderlying68 Try.sizeOf124 rfl rfl rfl ?_ ?_ ?_) ?_
      · exact SlF.some_ (SlF.st0 f_a hs15)
      · omega
      · omega
      refine WL.val rfl rfl rfl (Run.loadA Try.isAgg124 Try.sizeOf124 rfl rfl (SlF.whole (SlF.st0 f_a hs15) ?_)) ?_
      · omega
      refine WL.call rfl rfl rfl (Run.call Try.call85 rfl rfl rfl) (c_laws_toNode _ _ _ _) ?_
      rintro _ whs20 ⟨rfl, hs20⟩
      replace hs20 := hs15.call0 hs20
      refine ⟨_, rfl, ?_⟩
      refine WL.val rfl rfl rfl (Run.idx Try.runUnderlying71 Try.sizeOf121 rfl rfl rfl ?_ ?_ ?_) ?_
      · exact SlF.some_ (SlF.ofOwn ho14 (fun p_ hp_ => (hs20.own p_ (List.mem_append_left _ hp_)).1))
      · omega
      · omega
      refine WL.storeF1 (x' := _) hs20 ho14 Try.sizeOf121 rfl rfl rfl rfl rfl rfl rfl rfl rfl ?_ rfl (fun L21 whs22 hs22 ho23 _ => ?_)
      · omega
      refine WL.nil ?_
      refine ibN ?_
      refine tkN ?_
      refine hK19 _ _ ?_
      clear hK19
      refine WC.region ?_
      refine WL.val rfl rfl rfl (Run.move rfl rfl) ?_
      refine WL.val rfl rfl rfl (Run.add rfl rfl rfl ?_) ?_
      · constructor <;> omega
      refine WL.val rfl rfl rfl (Run.assign rfl rfl) ?_
      refine WL.nil ?_
      refine tkN ?_
      rw [fillG_set (i := i) (by rw [f_a.len]; omega) (by simp) (by simp)] at ho23
      refine ⟨⟨rfl, rfl, rfl, rfl, rfl, trivial⟩, _, hs22, _, ?_, i + 1, _, _, rfl, ?_, ho23, ⟨rfl, rfl, trivial⟩⟩
      · omega
      · omega
    · have qh18 := h18
      try simp only [decide_eq_true_eq, decide_eq_false_iff_not, Bool.not_eq_true', Bool.not_eq_false', Bool.and_eq_true, Bool.or_eq_false_iff, within_iff, within_not] at qh18
      refine WC.exit ?_
      refine tkE ?_
      refine tkE ?_
      refine ibE ?_
      refine tkN ?_
      refine hK9 _ _ ?_
      clear hK9
      refine WC.seq (fun K24 hK24 => ?_)
      refine WC.region ?_
      refine WL.val rfl rfl rfl (Run.move rfl rfl) ?_
      refine WL.val rfl rfl rfl (Run.assign rfl rfl) ?_
      refine WL.nil ?_
      refine tkN ?_
      refine hK24 _ _ ?_
      clear hK24
      refine WC.ret ?_
      refine retV1 rfl (resV.tmp rfl) ?_
      have hx_ := OwnF.eqOf (xs := a) ho14 (fillG_full (by rw [f_a.len]; omega))
      have hy_ := ho14
      rw [hx_] at hy_
      obtain ⟨A_, c_, hz_⟩ := hy_.shape
      exact ⟨A_, c_, _, congrArg Ending.returned hz_, (St.keep1 hs15), hz_ ▸ hy_⟩
theorem c_laws_eqNodeS (A_a : Option Addr) (n_a c_a : Nat) (a : List NodeD) (A_b : Option Addr) (n_b c_b : Nat) (b : List NodeD) (w : World) (f_a : SlF encNode w A_a n_a a) (f_b : SlF encNode w A_b n_b b) (hn : n_a ≤ 1099511627776) (hab : a = b) :
    Calls Try.prog 43 #[.slice A_a n_a c_a, .slice A_b n_b c_b] w fun e w' => e = .returned (.bool true) ∧ St w [] [] w' := by
  subst hab
  obtain rfl : n_a = n_b := f_a.len.symm.trans f_b.len
  refine enter (vs := [.slice A_a n_a c_a, .slice A_b n_a c_b]) 27 Try.func43 rfl Try.ntmps43 rfl rfl ?_
  have hs1 := St.init w
  refine WC.seq (fun K2 hK2 => ?_)
  refine WC.region ?_
  refine WL.val rfl rfl rfl (Run.assign rfl rfl) ?_
  refine WL.nil ?_
  refine tkN ?_
  refine hK2 _ _ ?_
  clear hK2
  refine WC.seq (fun K3 hK3 => ?_)
  refine WC.seq (fun K4 hK4 => ?_)
  refine WC.region ?_
  refine WL.val rfl rfl rfl (Run.move rfl rfl) ?_
  refine WL.val rfl rfl rfl (Run.lenSl Try.runUnderlying71 rfl rfl) ?_
  refine WL.val rfl rfl rfl (Run.move rfl rfl) ?_
  refine WL.val rfl rfl rfl (Run.lenSl Try.runUnderlying71 rfl rfl) ?_
  refine WL.val rfl rfl rfl (Run.neq rfl rfl rfl) ?_
  refine WL.nil ?_
  refine tkN ?_
  refine hK4 _ _ ?_
  clear hK4
  refine WC.condF rfl (by simp) ?_
  refine WC.skip ?_
  refine tkN ?_
  refine hK3 _ _ ?_
  clear hK3
  refine WC.seq (fun K6 hK6 => ?_)
  refine WC.seq (fun K7 hK7 => ?_)
  refine WC.region ?_
  refine WL.val rfl rfl rfl (Run.assign rfl rfl) ?_
  refine WL.nil ?_
  refine tkN ?_
  refine hK7 _ _ ?_
  clear hK7
  refine WC.block ?_
  refine WC.loopS [(0, _), (1, _), (6, _), (7, _), (8, _), (9, _), (10, _)] ⟨rfl, rfl, rfl, rfl, rfl, rfl, rfl, trivial⟩ hs1 (fun k_ f w' => ∃ (i : Nat), k_ = n_a - i ∧ (i ≤ n_a) ∧ Sub [(5, .int .i64 i)] f) ((fun (i : Nat) => n_a - i) (0)) ?_ ?_
  · refine ⟨0, rfl, ?_, ⟨rfl, trivial⟩⟩
    · exact Nat.zero_le _
  · clear hs1
    rintro _ f w ⟨i, rfl, p0, hG⟩ hF hs8
    refine WC.sub _ (hG.app hF) ?_
    clear hG hF
    refine WC.seq (fun K9 hK9 => ?_)
    refine WC.seq (fun K10 hK10 => ?_)
    refine WC.region ?_
    refine WL.val rfl rfl rfl (Run.move rfl rfl) ?_
    refine WL.val rfl rfl rfl (Run.move rfl rfl) ?_
    refine WL.val rfl rfl rfl (Run.lenSl Try.runUnderlying71 rfl rfl) ?_
    refine WL.val rfl rfl rfl (Run.lss rfl rfl rfl) ?_
    refine WL.nil ?_
    refine tkN ?_
    refine hK10 _ _ ?_
    clear hK10
    refine WC.cond rfl (fun h11 => ?_) (fun h11 => ?_)
    · have qh11 := h11
      try simp only [decide_eq_true_eq, decide_eq_false_iff_not, Bool.not_eq_true', Bool.not_eq_false', Bool.and_eq_true, Bool.or_eq_false_iff, within_iff, within_not] at qh11
      refine WC.skip ?_
      refine tkN ?_
      refine hK9 _ _ ?_
      clear hK9
      refine WC.seq (fun K12 hK12 => ?_)
      refine WC.block ?_
      refine WC.seq (fun K13 hK13 => ?_)
      refine WC.regionQ (fun w' => St _ _ _ w') mixed (by kernel_rfl) hs8.drew ?_
      refine WQ.val rfl rfl rfl (fun w_ hs_ => (Run.move rfl rfl)) ?_
      refine WQ.val rfl rfl rfl (fun w_ hs_ => (Run.move rfl rfl)) ?_
      refine WQ.val rfl rfl rfl (fun w_ hs_ => (Run.idx Try.runUnderlying71 Try.sizeOf121 rfl rfl rfl ?_ ?_ ?_)) ?_
      · exact SlF.some_ (SlF.st0 f_a (hs_ : St _ _ _ _))
      · omega
      · omega
      refine WQ.val rfl rfl rfl (fun w_ hs_ => (Run.loadA Try.isAgg121 Try.sizeOf121 rfl rfl (SlF.whole (SlF.st0 f_a (hs_ : St _ _ _ _)) ?_))) ?_
      · omega
      refine WQ.val rfl rfl rfl (fun w_ hs_ => (Run.move rfl rfl)) ?_
      refine WQ.val rfl rfl rfl (fun w_ hs_ => (Run.move rfl rfl)) ?_
      refine WQ.val rfl rfl rfl (fun w_ hs_ => (Run.idx Try.runUnderlying71 Try.sizeOf121 rfl rfl rfl ?_ ?_ ?_)) ?_
      · exact SlF.some_ (SlF.st0 f_b (hs_ : St _ _ _ _))
      · omega
      · omega
      refine WQ.val rfl rfl rfl (fun w_ hs_ => (Run.loadA Try.isAgg121 Try.sizeOf121 rfl rfl (SlF.whole (SlF.st0 f_b (hs_ : St _ _ _ _)) ?_))) ?_
      · omega
      refine WQ.call rfl rfl rfl (fun w_ hs_ => (Run.call Try.call91 rfl rfl rfl)) (fun w_ hs_ => (c_laws_eqNode _ _ _ _ _ _ _ ?_).mono fun e_ w_ h_ => ⟨h_.1, (hs_ : St _ _ _ _).call0 h_.2⟩) ?_
      · first | assumption | rfl | omega
      refine WQ.val rfl rfl rfl (fun w_ hs_ => (Run.not rfl rfl)) ?_
      refine WQ.nil (fun whs14 hs14 => ?_)
      replace hs14 : St _ _ _ _ := hs14
      refine tkN ?_
      refine hK13 _ _ ?_
      clear hK13
      refine WC.condF rfl (by simp) ?_
      refine WC.skip ?_
      refine ibN ?_
      refine tkN ?_
      refine hK12 _ _ ?_
      clear hK12
      refine WC.region ?_
      refine WL.val rfl rfl rfl (Run.move rfl rfl) ?_
      refine WL.val rfl rfl rfl (Run.add rfl rfl rfl ?_) ?_
      · constructor <;> omega
      refine WL.val rfl rfl rfl (Run.assign rfl rfl) ?_
      refine WL.nil ?_
      refine tkN ?_
      refine ⟨⟨rfl, rfl, rfl, rfl, rfl, rfl, rfl, trivial⟩, hs14, _, ?_, i + 1, rfl, ?_, ⟨rfl, trivial⟩⟩
      · omega
      · omega
    · have qh11 := h11
      try simp only [decide_eq_true_eq, decide_eq_false_iff_not, Bool.not_eq_true', Bool.not_eq_false', Bool.and_eq_true, Bool.or_eq_false_iff, within_iff, within_not] at qh11
      refine WC.exit ?_
      refine tkE ?_
      refine tkE ?_
      refine ibE ?_
      refine tkN ?_
      refine hK6 _ _ ?_
      clear hK6
      refine WC.seq (fun K16 hK16 => ?_)
      refine WC.region ?_
      refine WL.val rfl rfl rfl (Run.assign rfl rfl) ?_
      refine WL.nil ?_
      refine tkN ?_
      refine hK16 _ _ ?_
      clear hK16
      refine WC.ret ?_
      refine retV1 rfl (resV.tmp rfl) ?_
      refine ⟨congrArg Ending.returned ?_, hs8.nil⟩
      rfl
theorem c_laws_toAttr (a_Fg : Int) (a_Bg : Int) (a_Bold : Bool) (a_Under : Bool) (a_Turn : Bool) (w : World) :
    Calls Try.prog 96 #[.agg #[i64 a_Fg, i64 a_Bg, .bool a_Bold, .bool a_Under, .bool a_Turn]] w fun e w' => e = .returned (.agg #[i64 a_Fg, i64 a_Bg, .bool a_Bold, .bool a_Under, .bool a_Turn]) ∧ St w [] [] w' := by
  refine enter (vs := [.agg #[i64 a_Fg, i64 a_Bg, .bool a_Bold, .bool a_Under, .bool a_Turn]]) 20 Try.func96 rfl Try.ntmps96 rfl rfl ?_
  have hs1 := St.init w
  refine WC.seq (fun K2 hK2 => ?_)
  refine WC.region ?_
  refine WL.box hs1 rfl rfl rfl rfl rfl rfl (fun b3 whs4 hs4 => ?_)
  refine WL.alloc hs4 Try.zeroValue57 rfl rfl rfl rfl rfl (fun b5 whs6 hs6 => ?_)
  refine WL.nil ?_
  refine tkN ?_
  refine hK2 _ _ ?_
  clear hK2
  refine WC.seq (fun K7 hK7 => ?_)
  refine WC.region ?_
  refine WL.alloc hs6 Try.zeroValue57 rfl rfl rfl rfl rfl (fun b8 whs9 hs9 => ?_)
  refine WL.nil ?_
  refine tkN ?_
  refine hK7 _ _ ?_
  clear hK7
  refine WC.seq (fun K10 hK10 => ?_)
  refine WC.region ?_
  refine WL.val rfl rfl rfl (Run.field Try.runUnderlying86 rfl rfl rfl Try.sizeOf3 rfl) ?_
  refine WL.val rfl rfl rfl (Run.loadL hs9 2 Try.isAgg3 rfl rfl rfl rfl) ?_
  refine WL.val rfl rfl rfl (Run.field Try.runUnderlying57 rfl rfl rfl Try.sizeOf3 rfl) ?_
  refine WL.store hs9 0 Try.sizeOf3 rfl rfl rfl rfl rfl rfl rfl rfl rfl rfl (fun whs11 hs11 => ?_)
  refine WL.nil ?_
  refine tkN ?_
  refine hK10 _ _ ?_
  clear hK10
  refine WC.seq (fun K12 hK12 => ?_)
  refine WC.region ?_
  refine WL.val rfl rfl rfl (Run.field Try.runUnderlying86 rfl rfl rfl Try.sizeOf3 rfl) ?_
  refine WL.val rfl rfl rfl (Run.loadL hs11 2 Try.isAgg3 rfl rfl rfl rfl) ?_
  refine WL.val rfl rfl rfl (Run.field Try.runUnderlying57 rfl rfl rfl Try.sizeOf3 rfl) ?_
  refine WL.store hs11 0 Try.sizeOf3 rfl rfl rfl rfl rfl rfl rfl rfl rfl rfl (fun whs13 hs13 => ?_)
  refine WL.nil ?_
  refine tkN ?_
  refine hK12 _ _ ?_
  clear hK12
  refine WC.seq (fun K14 hK14 => ?_)
  refine WC.region ?_
  refine WL.val rfl rfl rfl (Run.field Try.runUnderlying86 rfl rfl rfl Try.sizeOf4 rfl) ?_
  refine WL.val rfl rfl rfl (Run.loadL hs13 2 Try.isAgg4 rfl rfl rfl rfl) ?_
  refine WL.val rfl rfl rfl (Run.field Try.runUnderlying57 rfl rfl rfl Try.sizeOf4 rfl) ?_
  refine WL.store hs13 0 Try.sizeOf4 rfl rfl rfl rfl rfl rfl rfl rfl rfl rfl (fun whs15 hs15 => ?_)
  refine WL.nil ?_
  refine tkN ?_
  refine hK14 _ _ ?_
  clear hK14
  refine WC.seq (fun K16 hK16 => ?_)
  refine WC.region ?_
  refine WL.val rfl rfl rfl (Run.field Try.runUnderlying86 rfl rfl rfl Try.sizeOf4 rfl) ?_
  refine WL.val rfl rfl rfl (Run.loadL hs15 2 Try.isAgg4 rfl rfl rfl rfl) ?_
  refine WL.val rfl rfl rfl (Run.field Try.runUnderlying57 rfl rfl rfl Try.sizeOf4 rfl) ?_
  refine WL.store hs15 0 Try.sizeOf4 rfl rfl rfl rfl rfl rfl rfl rfl rfl rfl (fun whs17 hs17 => ?_)
  refine WL.nil ?_
  refine tkN ?_
  refine hK16 _ _ ?_
  clear hK16
  refine WC.seq (fun K18 hK18 => ?_)
  refine WC.region ?_
  refine WL.val rfl rfl rfl (Run.field Try.runUnderlying86 rfl rfl rfl Try.sizeOf4 rfl) ?_
  refine WL.val rfl rfl rfl (Run.loadL hs17 2 Try.isAgg4 rfl rfl rfl rfl) ?_
  refine WL.val rfl rfl rfl (Run.field Try.runUnderlying57 rfl rfl rfl Try.sizeOf4 rfl) ?_
  refine WL.store hs17 0 Try.sizeOf4 rfl rfl rfl rfl rfl rfl rfl rfl rfl rfl (fun whs19 hs19 => ?_)
  refine WL.nil ?_
  refine tkN ?_
  refine hK18 _ _ ?_
  clear hK18
  refine WC.seq (fun K20 hK20 => ?_)
  refine WC.region ?_
  refine WL.val rfl rfl rfl (Run.loadLA hs19 0 Try.isAgg57 Try.sizeOf57 rfl rfl rfl rfl rfl) ?_
  refine WL.storeA hs19 1 Try.sizeOf57 rfl rfl rfl rfl rfl rfl rfl rfl rfl (Nat.le_of_ble_eq_true rfl) (.inl (Nat.le_of_ble_eq_true rfl)) (fun whs21 hs21 => ?_)
  refine WL.nil ?_
  refine tkN ?_
  refine hK20 _ _ ?_
  clear hK20
  refine WC.ret ?_
  refine retV1 rfl (resV.cell rfl (run_loadVarA Try.isAgg57 Try.sizeOf57 (cells_of_heap (hs21.own _ (nthL_mem (i := 1) rfl)).1 rfl rfl))) ?_
  refine ⟨congrArg Ending.returned ?_, hs21.nil⟩
  rfl
theorem c_laws_toCell (a_R : Int) (a_A_Fg : Int) (a_A_Bg : Int) (a_A_Bold : Bool) (a_A_Under : Bool) (a_A_Turn : Bool) (w : World) :
    Calls Try.prog 57 #[.agg #[i64 a_R, i64 a_A_Fg, i64 a_A_Bg, .bool a_A_Bold, .bool a_A_Under, .bool a_A_Turn]] w fun e w' => e = .returned (.agg #[i64 a_R, i64 a_A_Fg, i64 a_A_Bg, .bool a_A_Bold, .bool a_A_Under, .bool a_A_Turn]) ∧ St w [] [] w' := by
  refine enter (vs := [.agg #[i64 a_R, i64 a_A_Fg, i64 a_A_Bg, .bool a_A_Bold, .bool a_A_Under, .bool a_A_Turn]]) 12 Try.func57 rfl Try.ntmps57 rfl rfl ?_
  have hs1 := St.init w
  refine WC.seq (fun K2 hK2 => ?_)
  refine WC.region ?_
  refine WL.box hs1 rfl rfl rfl rfl rfl rfl (fun b3 whs4 hs4 => ?_)
  refine WL.alloc hs4 Try.zeroValue81 rfl rfl rfl rfl rfl (fun b5 whs6 hs6 => ?_)
  refine WL.nil ?_
  refine tkN ?_
  refine hK2 _ _ ?_
  clear hK2
  refine WC.seq (fun K7 hK7 => ?_)
  refine WC.region ?_
  refine WL.alloc hs6 Try.zeroValue81 rfl rfl rfl rfl rfl (fun b8 whs9 hs9 => ?_)
  refine WL.nil ?_
  refine tkN ?_
  refine hK7 _ _ ?_
  clear hK7
  refine WC.seq (fun K10 hK10 => ?_)
  refine WC.region ?_
  refine WL.val rfl rfl rfl (Run.field Try.runUnderlying88 rfl rfl rfl Try.sizeOf3 rfl) ?_
  refine WL.val rfl rfl rfl (Run.loadL hs9 2 Try.isAgg3 rfl rfl rfl rfl) ?_
  refine WL.val rfl rfl rfl (Run.field Try.runUnderlying81 rfl rfl rfl Try.sizeOf3 rfl) ?_
  refine WL.store hs9 0 Try.sizeOf3 rfl rfl rfl rfl rfl rfl rfl rfl rfl rfl (fun whs11 hs11 => ?_)
  refine WL.nil ?_
  refine tkN ?_
  refine hK10 _ _ ?_
  clear hK10
  refine WC.seq (fun K12 hK12 => ?_)
  refine WC.region ?_
  refine WL.val rfl rfl rfl (Run.field Try.runUnderlying88 rfl rfl rfl Try.sizeOf86 rfl) ?_
  refine WL.val rfl rfl rfl (Run.loadLA hs11 2 Try.isAgg86 Try.sizeOf86 rfl rfl rfl rfl rfl) ?_
  refine WL.call rfl rfl rfl (Run.call Try.call96 rfl rfl rfl) (c_laws_toAttr _ _ _ _ _ _) ?_
  rintro _ whs13 ⟨rfl, hs13⟩
  replace hs13 := hs11.call0 hs13
  refine ⟨_, rfl, ?_⟩
  refine WL.val rfl rfl rfl (Run.field Try.runUnderlying81 rfl rfl rfl Try.sizeOf57 rfl) ?_
  refine WL.storeA hs13 0 Try.sizeOf57 rfl rfl rfl rfl rfl rfl rfl rfl rfl (Nat.le_of_ble_eq_true rfl) (.inl (Nat.le_of_ble_eq_true rfl)) (fun whs14 hs14 => ?_)
  refine WL.nil ?_
  refine tkN ?_
  refine hK12 _ _ ?_
  clear hK12
  refine WC.seq (fun K15 hK15 => ?_)
  refine WC.region ?_
  refine WL.val rfl rfl rfl (Run.loadLA hs14 0 Try.isAgg81 Try.sizeOf81 rfl rfl rfl rfl rfl) ?_
  refine WL.storeA hs14 1 Try.sizeOf81 rfl rfl rfl rfl rfl rfl rfl rfl rfl (Nat.le_of_ble_eq_true rfl) (.inl (Nat.le_of_ble_eq_true rfl)) (fun whs16 hs16 => ?_)
  refine WL.nil ?_
  refine tkN ?_
  refine hK15 _ _ ?_
  clear hK15
  refine WC.ret ?_
  refine retV1 rfl (resV.cell rfl (run_loadVarA Try.isAgg81 Try.sizeOf81 (cells_of_heap (hs16.own _ (nthL_mem (i := 1) rfl)).1 rfl rfl))) ?_
  refine ⟨congrArg Ending.returned ?_, hs16.nil⟩
  rfl
theorem c_laws_eqAttr (a_Fg : Int) (a_Bg : Int) (a_Bold : Bool) (a_Under : Bool) (a_Turn : Bool) (b_Fg : Int) (b_Bg : Int) (b_Bold : Bool) (b_Under : Bool) (b_Turn : Bool) (w : World) (hab : (⟨a_Fg, a_Bg, a_Bold, a_Under, a_Turn⟩ : AttrD) = (⟨b_Fg, b_Bg, b_Bold, b_Under, b_Turn⟩ : AttrD)) :
    Calls Try.prog 101 #[.agg #[i64 a_Fg, i64 a_Bg, .bool a_Bold, .bool a_Under, .bool a_Turn], .agg #[i64 b_Fg, i64 b_Bg, .bool b_Bold, .bool b_Under, .bool b_Turn]] w fun e w' => e = .returned (.bool true) ∧ St w [] [] w' := by
  cases hab
  refine enter (vs := [.agg #[i64 a_Fg, i64 a_Bg, .bool a_Bold, .bool a_Under, .bool a_Turn], .agg #[i64 a_Fg, i64 a_Bg, .bool a_Bold, .bool a_Under, .bool a_Turn]]) 30 Try.func101 rfl Try.ntmps101 rfl rfl ?_
  have hs1 := St.init w
  refine WC.seq (fun K2 hK2 => ?_)
  refine WC.region ?_
  refine WL.box hs1 rfl rfl rfl rfl rfl rfl (fun b3 whs4 hs4 => ?_)
  refine WL.box hs4 rfl rfl rfl rfl rfl rfl (fun b5 whs6 hs6 => ?_)
  refine WL.val rfl rfl rfl (Run.assign rfl rfl) ?_
  refine WL.nil ?_
  refine tkN ?_
  refine hK2 _ _ ?_
  clear hK2
  refine WC.seq (fun K7 hK7 => ?_)
  refine WC.seq (fun K8 hK8 => ?_)
  refine WC.region ?_
  refine WL.val rfl rfl rfl (Run.field Try.runUnderlying57 rfl rfl rfl Try.sizeOf3 rfl) ?_
  refine WL.val rfl rfl rfl (Run.loadL hs6 1 Try.isAgg3 rfl rfl rfl rfl) ?_
  refine WL.val rfl rfl rfl (Run.field Try.runUnderlying57 rfl rfl rfl Try.sizeOf3 rfl) ?_
  refine WL.val rfl rfl rfl (Run.loadL hs6 0 Try.isAgg3 rfl rfl rfl rfl) ?_
  refine WL.val rfl rfl rfl (Run.neq rfl rfl rfl) ?_
  refine WL.nil ?_
  refine tkN ?_
  refine hK8 _ _ ?_
  clear hK8
  refine WC.condF rfl (by simp) ?_
  refine WC.skip ?_
  refine tkN ?_
  refine hK7 _ _ ?_
  clear hK7
  refine WC.seq (fun K10 hK10 => ?_)
  refine WC.seq (fun K11 hK11 => ?_)
  refine WC.region ?_
  refine WL.val rfl rfl rfl (Run.field Try.runUnderlying57 rfl rfl rfl Try.sizeOf3 rfl) ?_
  refine WL.val rfl rfl rfl (Run.loadL hs6 1 Try.isAgg3 rfl rfl rfl rfl) ?_
  refine WL.val rfl rfl rfl (Run.field Try.runUnderlying57 rfl rfl rfl Try.sizeOf3 rfl) ?_
  refine WL.val rfl rfl rfl (Run.loadL hs6 0 Try.isAgg3 rfl rfl rfl rfl) ?_
  refine WL.val rfl rfl rfl (Run.neq rfl rfl rfl) ?_
  refine WL.nil ?_
  refine tkN ?_
  refine hK11 _ _ ?_
  clear hK11
  refine WC.condF rfl (by simp) ?_
  refine WC.skip ?_
  refine tkN ?_
  refine hK10 _ _ ?_
  clear hK10
  refine WC.seq (fun K13 hK13 => ?_)
  refine WC.seq (fun K14 hK14 => ?_)
  refine WC.region ?_
  refine WL.val rfl rfl rfl (Run.field Try.runUnderlying57 rfl rfl rfl Try.sizeOf4 rfl) ?_
  refine WL.val rfl rfl rfl (Run.loadL hs6 1 Try.isAgg4 rfl rfl rfl rfl) ?_
  refine WL.val rfl rfl rfl (Run.field Try.runUnderlying57 rfl rfl rfl Try.sizeOf4 rfl) ?_
  refine WL.val rfl rfl rfl (Run.loadL hs6 0 Try.isAgg4 rfl rfl rfl rfl) ?_
  refine WL.val rfl rfl rfl (Run.neqB Try.runUnderlying4 rfl rfl rfl) ?_
  refine WL.nil ?_
  refine tkN ?_
  refine hK14 _ _ ?_
  clear hK14
  refine WC.condF rfl (by simp) ?_
  refine WC.skip ?_
  refine tkN ?_
  refine hK13 _ _ ?_
  clear hK13
  refine WC.seq (fun K16 hK16 => ?_)
  refine WC.seq (fun K17 hK17 => ?_)
  refine WC.region ?_
  refine WL.val rfl rfl rfl (Run.field Try.runUnderlying57 rfl rfl rfl Try.sizeOf4 rfl) ?_
  refine WL.val rfl rfl rfl (Run.loadL hs6 1 Try.isAgg4 rfl rfl rfl rfl) ?_
  refine WL.val rfl rfl rfl (Run.field Try.runUnderlying57 rfl rfl rfl Try.sizeOf4 rfl) ?_
  refine WL.val rfl rfl rfl (Run.loadL hs6 0 Try.isAgg4 rfl rfl rfl rfl) ?_
  refine WL.val rfl rfl rfl (Run.neqB Try.runUnderlying4 rfl rfl rfl) ?_
  refine WL.nil ?_
  refine tkN ?_
  refine hK17 _ _ ?_
  clear hK17
  refine WC.condF rfl (by simp) ?_
  refine WC.skip ?_
  refine tkN ?_
  refine hK16 _ _ ?_
  clear hK16
  refine WC.seq (fun K19 hK19 => ?_)
  refine WC.seq (fun K20 hK20 => ?_)
  refine WC.region ?_
  refine WL.val rfl rfl rfl (Run.field Try.runUnderlying57 rfl rfl rfl Try.sizeOf4 rfl) ?_
  refine WL.val rfl rfl rfl (Run.loadL hs6 1 Try.isAgg4 rfl rfl rfl rfl) ?_
  refine WL.val rfl rfl rfl (Run.field Try.runUnderlying57 rfl rfl rfl Try.sizeOf4 rfl) ?_
  refine WL.val rfl rfl rfl (Run.loadL hs6 0 Try.isAgg4 rfl rfl rfl rfl) ?_
  refine WL.val rfl rfl rfl (Run.neqB Try.runUnderlying4 rfl rfl rfl) ?_
  refine WL.nil ?_
  refine tkN ?_
  refine hK20 _ _ ?_
  clear hK20
  refine WC.condF rfl (by simp) ?_
  refine WC.skip ?_
  refine tkN ?_
  refine hK19 _ _ ?_
  clear hK19
  refine WC.seq (fun K22 hK22 => ?_)
  refine WC.region ?_
  refine WL.val rfl rfl rfl (Run.assign rfl rfl) ?_
  refine WL.nil ?_
  refine tkN ?_
  refine hK22 _ _ ?_
  clear hK22
  refine WC.ret ?_
  refine retV1 rfl (resV.tmp rfl) ?_
  refine ⟨congrArg Ending.returned ?_, hs6.nil⟩
  rfl
theorem c_laws_eqCell (a_R : Int) (a_A_Fg : Int) (a_A_Bg : Int) (a_A_Bold : Bool) (a_A_Under : Bool) (a_A_Turn : Bool) (b_R : Int) (b_A_Fg : Int) (b_A_Bg : Int) (b_A_Bold : Bool) (b_A_Under : Bool) (b_A_Turn : Bool) (w : World) (hab : (⟨a_R, ⟨a_A_Fg, a_A_Bg, a_A_Bold, a_A_Under, a_A_Turn⟩⟩ : CellD) = (⟨b_R, ⟨b_A_Fg, b_A_Bg, b_A_Bold, b_A_Under, b_A_Turn⟩⟩ : CellD)) :
    Calls Try.prog 60 #[.agg #[i64 a_R, i64 a_A_Fg, i64 a_A_Bg, .bool a_A_Bold, .bool a_A_Under, .bool a_A_Turn], .agg #[i64 b_R, i64 b_A_Fg, i64 b_A_Bg, .bool b_A_Bold, .bool b_A_Under, .bool b_A_Turn]] w fun e w' => e = .returned (.bool true) ∧ St w [] [] w' := by
  cases hab
  refine enter (vs := [.agg #[i64 a_R, i64 a_A_Fg, i64 a_A_Bg, .bool a_A_Bold, .bool a_A_Under, .bool a_A_Turn], .agg #[i64 a_R, i64 a_A_Fg, i64 a_A_Bg, .bool a_A_Bold, .bool a_A_Under, .bool a_A_Turn]]) 16 Try.func60 rfl Try.ntmps60 rfl rfl ?_
  have hs1 := St.init w
  refine WC.seq (fun K2 hK2 => ?_)
  refine WC.region ?_
  refine WL.box hs1 rfl rfl rfl rfl rfl rfl (fun b3 whs4 hs4 => ?_)
  refine WL.box hs4 rfl rfl rfl rfl rfl rfl (fun b5 whs6 hs6 => ?_)
  refine WL.val rfl rfl rfl (Run.assign rfl rfl) ?_
  refine WL.nil ?_
  refine tkN ?_
  refine hK2 _ _ ?_
  clear hK2
  refine WC.seq (fun K7 hK7 => ?_)
  refine WC.seq (fun K8 hK8 => ?_)
  refine WC.region ?_
  refine WL.val rfl rfl rfl (Run.field Try.runUnderlying81 rfl rfl rfl Try.sizeOf3 rfl) ?_
  refine WL.val rfl rfl rfl (Run.loadL hs6 1 Try.isAgg3 rfl rfl rfl rfl) ?_
  refine WL.val rfl rfl rfl (Run.field Try.runUnderlying81 rfl rfl rfl Try.sizeOf3 rfl) ?_
  refine WL.val rfl rfl rfl (Run.loadL hs6 0 Try.isAgg3 rfl rfl rfl rfl) ?_
  refine WL.val rfl rfl rfl (Run.neq rfl rfl rfl) ?_
  refine WL.nil ?_
  refine tkN ?_
  refine hK8 _ _ ?_
  clear hK8
  refine WC.condF rfl (by simp) ?_
  refine WC.skip ?_
  refine tkN ?_
  refine hK7 _ _ ?_
  clear hK7
  refine WC.seq (fun K10 hK10 => ?_)
  refine WC.seq (fun K11 hK11 => ?_)
  refine WC.region ?_
  refine WL.val rfl rfl rfl (Run.field Try.runUnderlying81 rfl rfl rfl Try.sizeOf57 rfl) ?_
  refine WL.val rfl rfl rfl (Run.loadLA hs6 1 Try.isAgg57 Try.sizeOf57 rfl rfl rfl rfl rfl) ?_
  refine WL.val rfl rfl rfl (Run.field Try.runUnderlying81 rfl rfl rfl Try.sizeOf57 rfl) ?_
  refine WL.val rfl rfl rfl (Run.loadLA hs6 0 Try.isAgg57 Try.sizeOf57 rfl rfl rfl rfl rfl) ?_
  refine WL.call rfl rfl rfl (Run.call Try.call101 rfl rfl rfl) (c_laws_eqAttr _ _ _ _ _ _ _ _ _ _ _ ?_) ?_
  · first | assumption | rfl | omega
  rintro _ whs12 ⟨rfl, hs12⟩
  replace hs12 := hs6.call0 hs12
  refine ⟨_, rfl, ?_⟩
  refine WL.val rfl rfl rfl (Run.not rfl rfl) ?_
  refine WL.nil ?_
  refine tkN ?_
  refine hK11 _ _ ?_
  clear hK11
  refine WC.condF rfl (by simp) ?_
  refine WC.skip ?_
  refine tkN ?_
  refine hK10 _ _ ?_
  clear hK10
  refine WC.seq (fun K14 hK14 => ?_)
  refine WC.region ?_
  refine WL.val rfl rfl rfl (Run.assign rfl rfl) ?_
  refine WL.nil ?_
  refine tkN ?_
  refine hK14 _ _ ?_
  clear hK14
  refine WC.ret ?_
  refine retV1 rfl (resV.tmp rfl) ?_
  refine ⟨congrArg Ending.returned ?_, hs12.nil⟩
  rfl
theorem c_laws_toCellS (A_a : Option Addr) (n_a c_a : Nat) (a : List CellD) (w : World) (f_a : SlF encCell w A_a n_a a) (hn : n_a ≤ 1099511627776) :
    Calls Try.prog 17 #[.slice A_a n_a c_a] w fun e w' => ∃ A c L1, e = .returned (.slice A (a).length c) ∧ St w [] L1 w' ∧ OwnF encCell 81 (.slice A (a).length c) (a) L1 := by
  refine enter (vs := [.slice A_a n_a c_a]) 23 Try.func17 rfl Try.ntmps17 rfl rfl ?_
  have hs1 := St.init w
  refine WC.seq (fun K2 hK2 => ?_)
  refine WC.region ?_
  refine WL.val rfl rfl rfl (Run.assign rfl rfl) ?_
  refine WL.nil ?_
  refine tkN ?_
  refine hK2 _ _ ?_
  clear hK2
  refine WC.seq (fun K3 hK3 => ?_)
  refine WC.region ?_
  refine WL.val rfl rfl rfl (Run.move rfl rfl) ?_
  refine WL.val rfl rfl rfl (Run.lenSl Try.runUnderlying31 rfl rfl) ?_
  refine WL.makeF (F := encCell) hs1 Try.underlying35 info_81 rfl rfl rfl rfl rfl rfl rfl rfl rfl ?_ ?_ (fun A7 c8 L4 whs5 hs5 ho6 => ?_)
  · have e_ : Try.t81.bytes = 32 := rfl
    rw [e_]; omega
  · omega
  refine WL.val rfl rfl rfl (Run.assign rfl rfl) ?_
  refine WL.nil ?_
  refine tkN ?_
  refine hK3 _ _ ?_
  clear hK3
  refine WC.seq (fun K9 hK9 => ?_)
  refine WC.seq (fun K10 hK10 => ?_)
  refine WC.region ?_
  refine WL.val rfl rfl rfl (Run.assign rfl rfl) ?_
  refine WL.nil ?_
  refine tkN ?_
  refine hK10 _ _ ?_
  clear hK10
  refine WC.block ?_
  refine WC.loopO [(0, _), (2, _), (5, _), (6, _), (7, _)] ⟨rfl, rfl, rfl, rfl, rfl, trivial⟩ hs5 (fun k_ f L_ => ∃ (i : Nat) (A11 : Option Addr) (c12 : Nat), k_ = n_a - i ∧ (i ≤ n_a) ∧ OwnF encCell 81 (.slice A11 (n_a) c12) (fillG encCell a i) L_ ∧ Sub [(3, .slice A11 (n_a) c12), (4, .int .i64 i)] f) (((fun (i : Nat) => n_a - i) (0))) ?_ ?_
  · refine ⟨0, _, _, rfl, ?_, (fillG_zero f_a.len ▸ ho6), ⟨rfl, rfl, trivial⟩⟩
    · exact Nat.zero_le _
  · clear hs5
    rintro _ f w L13 ⟨i, A11, c12, rfl, p0, ho14, hG⟩ hF hs15
    refine WC.sub _ (hG.app hF) ?_
    clear hG hF
    refine WC.seq (fun K16 hK16 => ?_)
    refine WC.seq (fun K17 hK17 => ?_)
    refine WC.region ?_
    refine WL.val rfl rfl rfl (Run.move rfl rfl) ?_
    refine WL.val rfl rfl rfl (Run.move rfl rfl) ?_
    refine WL.val rfl rfl rfl (Run.lenSl Try.runUnderlying31 rfl rfl) ?_
    refine WL.val rfl rfl rfl (Run.lss rfl rfl rfl) ?_
    refine WL.nil ?_
    refine tkN ?_
    refine hK17 _ _ ?_
    clear hK17
    refine WC.cond rfl (fun h18 => ?_) (fun h18 => ?_)
    · have qh18 := h18
      try simp only [decide_eq_true_eq, decide_eq_false_iff_not, Bool.not_eq_true', Bool.not_eq_false', Bool.and_eq_true, Bool.or_eq_false_iff, within_iff, within_not] at qh18
      refine WC.skip ?_
      refine tkN ?_
      refine hK16 _ _ ?_
      clear hK16
      refine WC.seq (fun K19 hK19 => ?_)
      refine WC.block ?_
      refine WC.region ?_
      refine WL.val rfl rfl rfl (Run.move rfl rfl) ?_
      refine WL.val rfl rfl rfl (Run.move rfl rfl) ?_
      refine WL.val rfl rfl rfl (Run.move rfl rfl) ?_
      refine WL.val rfl rfl rfl (Run.move rfl rfl) ?_
      refine WL.val rfl rfl rfl (Run.idx Try.runUnderlying31 Try.sizeOf88 rfl rfl rfl ?_ ?_ ?_) ?_
      · exact SlF.some_ (SlF.st0 f_a hs15)
      · omega
      · omega
      refine WL.val rfl rfl rfl (Run.loadA Try.isAgg88 Try.sizeOf88 rfl rfl (SlF.whole (SlF.st0 f_a hs15) ?_)) ?_
      · omega
      refine WL.call rfl rfl rfl (Run.call Try.call57 rfl rfl rfl) (c_laws_toCell _ _ _ _ _ _ _) ?_
      rintro _ whs20 ⟨rfl, hs20⟩
      replace hs20 := hs15.call0 hs20
      refine ⟨_, rfl, ?_⟩
      refine WL.val rfl rfl rfl (Run.idx Try.runUnderlying35 Try.sizeOf81 rfl rfl rfl ?_ ?_ ?_) ?_
      · exact SlF.some_ (SlF.ofOwn ho14 (fun p_ hp_ => (hs20.own p_ (List.mem_append_left _ hp_)).1))
      · omega
      · omega
      refine WL.storeF1 (x' := _) hs20 ho14 Try.sizeOf81 rfl rfl rfl rfl rfl rfl rfl rfl rfl ?_ rfl (fun L21 whs22 hs22 ho23 _ => ?_)
      · omega
      refine WL.nil ?_
      refine ibN ?_
      refine tkN ?_
      refine hK19 _ _ ?_
      clear hK19
      refine WC.region ?_
      refine WL.val rfl rfl rfl (Run.move rfl rfl) ?_
      refine WL.val rfl rfl rfl (Run.add rfl rfl rfl ?_) ?_
      · constructor <;> omega
      refine WL.val rfl rfl rfl (Run.assign rfl rfl) ?_
      refine WL.nil ?_
      refine tkN ?_
      rw [fillG_set (i := i) (by rw [f_a.len]; omega) (by simp) (by simp)] at ho23
      refine ⟨⟨rfl, rfl, rfl, rfl, rfl, trivial⟩, _, hs22, _, ?_, i + 1, _, _, rfl, ?_, ho23, ⟨rfl, rfl, trivial⟩⟩
      · omega
      · omega
    · have qh18 := h18
      try simp only [decide_eq_true_eq, decide_eq_false_iff_not, Bool.not_eq_true', Bool.not_eq_false', Bool.and_eq_true, Bool.or_eq_false_iff, within_iff, within_not] at qh18
      refine WC.exit ?_
      refine tkE ?_
      refine tkE ?_
      refine ibE ?_
      refine tkN ?_
      refine hK9 _ _ ?_
      clear hK9
      refine WC.seq (fun K24 hK24 => ?_)
      refine WC.region ?_
      refine WL.val rfl rfl rfl (Run.move rfl rfl) ?_
      refine WL.val rfl rfl rfl (Run.assign rfl rfl) ?_
      refine WL.nil ?_
      refine tkN ?_
      refine hK24 _ _ ?_
      clear hK24
      refine WC.ret ?_
      refine retV1 rfl (resV.tmp rfl) ?_
      have hx_ := OwnF.eqOf (xs := a) ho14 (fillG_full (by rw [f_a.len]; omega))
      have hy_ := ho14
      rw [hx_] at hy_
      obtain ⟨A_, c_, hz_⟩ := hy_.shape
      exact ⟨A_, c_, _, congrArg Ending.returned hz_, (St.keep1 hs15), hz_ ▸ hy_⟩
theorem c_laws_eqCellS (A_a : Option Addr) (n_a c_a : Nat) (a : List CellD) (A_b : Option Addr) (n_b c_b : Nat) (b : List CellD) (w : World) (f_a : SlF encCell w A_a n_a a) (f_b : SlF encCell w A_b n_b b) (hn : n_a ≤ 1099511627776) (hab : a = b) :
    Calls Try.prog 20 #[.slice A_a n_a c_a, .slice A_b n_b c_b] w fun e w' => e = .returned (.bool true) ∧ St w [] [] w' := by
  subst hab
  obtain rfl : n_a = n_b := f_a.len.symm.trans f_b.len
  refine enter (vs := [.slice A_a n_a c_a, .slice A_b n_a c_b]) 27 Try.func20 rfl Try.ntmps20 rfl rfl ?_
  have hs1 := St.init w
  refine WC.seq (fun K2 hK2 => ?_)
  refine WC.region ?_
  refine WL.val rfl rfl rfl (Run.assign rfl rfl) ?_
  refine WL.nil ?_
  refine tkN ?_
  refine hK2 _ _ ?_
  clear hK2
  refine WC.seq (fun K3 hK3 => ?_)
  refine WC.seq (fun K4 hK4 => ?_)
  refine WC.region ?_
  refine WL.val rfl rfl rfl (Run.move rfl rfl) ?_
  refine WL.val rfl rfl rfl (Run.lenSl Try.runUnderlying35 rfl rfl) ?_
  refine WL.val rfl rfl rfl (Run.move rfl rfl) ?_
  refine WL.val rfl rfl rfl (Run.lenSl Try.runUnderlying35 rfl rfl) ?_
  refine WL.val rfl rfl rfl (Run.neq rfl rfl rfl) ?_
  refine WL.nil ?_
  refine tkN ?_
  refine hK4 _ _ ?_
  clear hK4
  refine WC.condF rfl (by simp) ?_
  refine WC.skip ?_
  refine tkN ?_
  refine hK3 _ _ ?_
  clear hK3
  refine WC.seq (fun K6 hK6 => ?_)
  refine WC.seq (fun K7 hK7 => ?_)
  refine WC.region ?_
  refine WL.val rfl rfl rfl (Run.assign rfl rfl) ?_
  refine WL.nil ?_
  refine tkN ?_
  refine hK7 _ _ ?_
  clear hK7
  refine WC.block ?_
  refine WC.loopS [(0, _), (1, _), (6, _), (7, _), (8, _), (9, _), (10, _)] ⟨rfl, rfl, rfl, rfl, rfl, rfl, rfl, trivial⟩ hs1 (fun k_ f w' => ∃ (i : Nat), k_ = n_a - i ∧ (i ≤ n_a) ∧ Sub [(5, .int .i64 i)] f) ((fun (i : Nat) => n_a - i) (0)) ?_ ?_
  · refine ⟨0, rfl, ?_, ⟨rfl, trivial⟩⟩
    · exact Nat.zero_le _
  · clear hs1
    rintro _ f w ⟨i, rfl, p0, hG⟩ hF hs8
    refine WC.sub _ (hG.app hF) ?_
    clear hG hF
    refine WC.seq (fun K9 hK9 => ?_)
    refine WC.seq (fun K10 hK10 => ?_)
    refine WC.region ?_
    refine WL.val rfl rfl rfl (Run.move rfl rfl) ?_
    refine WL.val rfl rfl rfl (Run.move rfl rfl) ?_
    refine WL.val rfl rfl rfl (Run.lenSl Try.runUnderlying35 rfl rfl) ?_
    refine WL.val rfl rfl rfl (Run.lss rfl rfl rfl) ?_
    refine WL.nil ?_
    refine tkN ?_
    refine hK10 _ _ ?_
    clear hK10
    refine WC.cond rfl (fun h11 => ?_) (fun h11 => ?_)
    · have qh11 := h11
      try simp only [decide_eq_true_eq, decide_eq_false_iff_not, Bool.not_eq_true', Bool.not_eq_false', Bool.and_eq_true, Bool.or_eq_false_iff, within_iff, within_not] at qh11
      refine WC.skip ?_
      refine tkN ?_
      refine hK9 _ _ ?_
      clear hK9
      refine WC.seq (fun K12 hK12 => ?_)
      refine WC.block ?_
      refine WC.seq (fun K13 hK13 => ?_)
      refine WC.regionQ (fun w' => St _ _ _ w') mixed (by kernel_rfl) hs8.drew ?_
      refine WQ.val rfl rfl rfl (fun w_ hs_ => (Run.move rfl rfl)) ?_
      refine WQ.val rfl rfl rfl (fun w_ hs_ => (Run.move rfl rfl)) ?_
      refine WQ.val rfl rfl rfl (fun w_ hs_ => (Run.idx Try.runUnderlying35 Try.sizeOf81 rfl rfl rfl ?_ ?_ ?_)) ?_
      · exact SlF.some_ (SlF.st0 f_a (hs_ : St _ _ _ _))
      · omega
      · omega
      refine WQ.val rfl rfl rfl (fun w_ hs_ => (Run.loadA Try.isAgg81 Try.sizeOf81 rfl rfl (SlF.whole (SlF.st0 f_a (hs_ : St _ _ _ _)) ?_))) ?_
      · omega
      refine WQ.val rfl rfl rfl (fun w_ hs_ => (Run.move rfl rfl)) ?_
      refine WQ.val rfl rfl rfl (fun w_ hs_ => (Run.move rfl rfl)) ?_
      refine WQ.val rfl rfl rfl (fun w_ hs_ => (Run.idx Try.runUnderlying35 Try.sizeOf81 rfl rfl rfl ?_ ?_ ?_)) ?_
      · exact SlF.some_ (SlF.st0 f_b (hs_ : St _ _ _ _))
      · omega
      · omega
      refine WQ.val rfl rfl rfl (fun w_ hs_ => (Run.loadA Try.isAgg81 Try.sizeOf81 rfl rfl (SlF.whole (SlF.st0 f_b (hs_ : St _ _ _ _)) ?_))) ?_
      · omega
      refine WQ.call rfl rfl rfl (fun w_ hs_ => (Run.call Try.call60 rfl rfl rfl)) (fun w_ hs_ => (c_laws_eqCell _ _ _ _ _ _ _ _ _ _ _ _ _ ?_).mono fun e_ w_ h_ => ⟨h_.1, (hs_ : St _ _ _ _).call0 h_.2⟩) ?_
      · first | assumption | rfl | omega
      refine WQ.val rfl rfl rfl (fun w_ hs_ => (Run.not rfl rfl)) ?_
      refine WQ.nil (fun whs14 hs14 => ?_)
      replace hs14 : St _ _ _ _ := hs14
      refine tkN ?_
      refine hK13 _ _ ?_
      clear hK13
      refine WC.condF rfl (by simp) ?_
      refine WC.skip ?_
      refine ibN ?_
      refine tkN ?_
      refine hK12 _ _ ?_
      clear hK12
      refine WC.region ?_
      refine WL.val rfl rfl rfl (Run.move rfl rfl) ?_
      refine WL.val rfl rfl rfl (Run.add rfl rfl rfl ?_) ?_
      · constructor <;> omega
      refine WL.val rfl rfl rfl (Run.assign rfl rfl) ?_
      refine WL.nil ?_
      refine tkN ?_
      refine ⟨⟨rfl, rfl, rfl, rfl, rfl, rfl, rfl, trivial⟩, hs14, _, ?_, i + 1, rfl, ?_, ⟨rfl, trivial⟩⟩
      · omega
      · omega
    · have qh11 := h11
      try simp only [decide_eq_true_eq, decide_eq_false_iff_not, Bool.not_eq_true', Bool.not_eq_false', Bool.and_eq_true, Bool.or_eq_false_iff, within_iff, within_not] at qh11
      refine WC.exit ?_
      refine tkE ?_
      refine tkE ?_
      refine ibE ?_
      refine tkN ?_
      refine hK6 _ _ ?_
      clear hK6
      refine WC.seq (fun K16 hK16 => ?_)
      refine WC.region ?_
      refine WL.val rfl rfl rfl (Run.assign rfl rfl) ?_
      refine WL.nil ?_
      refine tkN ?_
      refine hK16 _ _ ?_
      clear hK16
      refine WC.ret ?_
      refine retV1 rfl (resV.tmp rfl) ?_
      refine ⟨congrArg Ending.returned ?_, hs8.nil⟩
      rfl
theorem c_laws_szCellS (A_a : Option Addr) (n_a c_a : Nat) (a : List CellD) (left : Int) (w : World) (f_a : SlF encCell w A_a n_a a) (h1 : 0 ≤ left) (h2 : left ≤ 1048576) (h3 : n_a ≤ 9223372036854775807) :
    Calls Try.prog 15 #[.slice A_a n_a c_a, i64 left] w fun e w' => e = .returned (.int .i64 (szR left n_a)) ∧ St w [] [] w' := by
  refine enter (vs := [.slice A_a n_a c_a, i64 left]) 12 Try.func15 rfl Try.ntmps15 rfl rfl ?_
  have hs1 := St.init w
  refine WC.seq (fun K2 hK2 => ?_)
  refine WC.region ?_
  refine WL.val rfl rfl rfl (Run.assign rfl rfl) ?_
  refine WL.nil ?_
  refine tkN ?_
  refine hK2 _ _ ?_
  clear hK2
  refine WC.seq (fun K3 hK3 => ?_)
  refine WC.region ?_
  refine WL.val rfl rfl rfl (Run.move rfl rfl) ?_
  refine WL.val rfl rfl rfl (Run.move rfl rfl) ?_
  refine WL.val rfl rfl rfl (Run.lenSl Try.runUnderlying31 rfl rfl) ?_
  refine WL.val rfl rfl rfl (Run.sub rfl rfl rfl ?_) ?_
  · constructor <;> omega
  refine WL.val rfl rfl rfl (Run.assign rfl rfl) ?_
  refine WL.nil ?_
  refine tkN ?_
  refine hK3 _ _ ?_
  clear hK3
  refine WC.seq (fun K4 hK4 => ?_)
  refine WC.seq (fun K5 hK5 => ?_)
  refine WC.region ?_
  refine WL.val rfl rfl rfl (Run.move rfl rfl) ?_
  refine WL.val rfl rfl rfl (Run.lss rfl rfl rfl) ?_
  refine WL.nil ?_
  refine tkN ?_
  refine hK5 _ _ ?_
  clear hK5
  refine WC.cond rfl (fun h6 => ?_) (fun h6 => ?_)
  · have qh6 := h6
    try simp only [decide_eq_true_eq, decide_eq_false_iff_not, Bool.not_eq_true', Bool.not_eq_false', Bool.and_eq_true, Bool.or_eq_false_iff, within_iff, within_not] at qh6
    refine WC.seq (fun K7 hK7 => ?_)
    refine WC.region ?_
    refine WL.val rfl rfl rfl (Run.assign rfl rfl) ?_
    refine WL.nil ?_
    refine tkN ?_
    refine hK7 _ _ ?_
    clear hK7
    refine WC.ret ?_
    refine tkR ?_
    clear hK4
    refine retV1 rfl (resV.tmp rfl) ?_
    refine ⟨congrArg Ending.returned ?_, hs1.nil⟩
    simp only [szR]; rw [if_neg (by omega)]
  · have qh6 := h6
    try simp only [decide_eq_true_eq, decide_eq_false_iff_not, Bool.not_eq_true', Bool.not_eq_false', Bool.and_eq_true, Bool.or_eq_false_iff, within_iff, within_not] at qh6
    refine WC.skip ?_
    refine tkN ?_
    refine hK4 _ _ ?_
    clear hK4
    refine WC.seq (fun K8 hK8 => ?_)
    refine WC.region ?_
    refine WL.val rfl rfl rfl (Run.move rfl rfl) ?_
    refine WL.val rfl rfl rfl (Run.assign rfl rfl) ?_
    refine WL.nil ?_
    refine tkN ?_
    refine hK8 _ _ ?_
    clear hK8
    refine WC.ret ?_
    refine retV1 rfl (resV.tmp rfl) ?_
    refine ⟨congrArg Ending.returned ?_, hs1.nil⟩
    simp only [szR]; rw [if_pos (by omega)]
theorem c_laws_eqIntS (A_a : Option Addr) (n_a c_a : Nat) (a : List Int) (A_b : Option Addr) (n_b c_b : Nat) (b : List Int) (w : World) (f_a : SlF encI w A_a n_a a) (f_b : SlF encI w A_b n_b b) (hn : n_a ≤ 1099511627776) (hab : a = b) :
    Calls Try.prog 114 #[.slice A_a n_a c_a, .slice A_b n_b c_b] w fun e w' => e = .returned (.bool true) ∧ St w [] [] w' := by
  subst hab
  obtain rfl : n_a = n_b := f_a.len.symm.trans f_b.len
  refine enter (vs := [.slice A_a n_a c_a, .slice A_b n_a c_b]) 26 Try.func114 rfl Try.ntmps114 rfl rfl ?_
  have hs1 := St.init w
  refine WC.seq (fun K2 hK2 => ?_)
  refine WC.region ?_
  refine WL.val rfl rfl rfl (Run.assign rfl rfl) ?_
  refine WL.nil ?_
  refine tkN ?_
  refine hK2 _ _ ?_
  clear hK2
  refine WC.seq (fun K3 hK3 => ?_)
  refine WC.seq (fun K4 hK4 => ?_)
  refine WC.region ?_
  refine WL.val rfl rfl rfl (Run.move rfl rfl) ?_
  refine WL.val rfl rfl rfl (Run.lenSl Try.runUnderlying51 rfl rfl) ?_
  refine WL.val rfl rfl rfl (Run.move rfl rfl) ?_
  refine WL.val rfl rfl rfl (Run.lenSl Try.runUnderlying51 rfl rfl) ?_
  refine WL.val rfl rfl rfl (Run.neq rfl rfl rfl) ?_
  refine WL.nil ?_
  refine tkN ?_
  refine hK4 _ _ ?_
  clear hK4
  refine WC.condF rfl (by simp) ?_
  refine WC.skip ?_
  refine tkN ?_
  refine hK3 _ _ ?_
  clear hK3
  refine WC.seq (fun K6 hK6 => ?_)
  refine WC.seq (fun K7 hK7 => ?_)
  refine WC.region ?_
  refine WL.val rfl rfl rfl (Run.assign rfl rfl) ?_
  refine WL.nil ?_
  refine tkN ?_
  refine hK7 _ _ ?_
  clear hK7
  refine WC.block ?_
  refine WC.loopS [(0, _), (1, _), (6, _), (7, _), (8, _), (9, _), (10, _)] ⟨rfl, rfl, rfl, rfl, rfl, rfl, rfl, trivial⟩ hs1 (fun k_ f w' => ∃ (i : Nat), k_ = n_a - i ∧ (i ≤ n_a) ∧ Sub [(5, .int .i64 i)] f) ((fun (i : Nat) => n_a - i) (0)) ?_ ?_
  · refine ⟨0, rfl, ?_, ⟨rfl, trivial⟩⟩
    · exact Nat.zero_le _
  · clear hs1
    rintro _ f w ⟨i, rfl, p0, hG⟩ hF hs8
    refine WC.sub _ (hG.app hF) ?_
    clear hG hF
    refine WC.seq (fun K9 hK9 => ?_)
    refine WC.seq (fun K10 hK10 => ?_)
    refine WC.region ?_
    refine WL.val rfl rfl rfl (Run.move rfl rfl) ?_
    refine WL.val rfl rfl rfl (Run.move rfl rfl) ?_
    refine WL.val rfl rfl rfl (Run.lenSl Try.runUnderlying51 rfl rfl) ?_
    refine WL.val rfl rfl rfl (Run.lss rfl rfl rfl) ?_
    refine WL.nil ?_
    refine tkN ?_
    refine hK10 _ _ ?_
    clear hK10
    refine WC.cond rfl (fun h11 => ?_) (fun h11 => ?_)
    · have qh11 := h11
      try simp only [decide_eq_true_eq, decide_eq_false_iff_not, Bool.not_eq_true', Bool.not_eq_false', Bool.and_eq_true, Bool.or_eq_false_iff, within_iff, within_not] at qh11
      refine WC.skip ?_
      refine tkN ?_
      refine hK9 _ _ ?_
      clear hK9
      refine WC.seq (fun K12 hK12 => ?_)
      refine WC.block ?_
      refine WC.seq (fun K13 hK13 => ?_)
      refine WC.regionQ (fun w' => St _ _ _ w') mixed (by kernel_rfl) hs8.drew ?_
      refine WQ.val rfl rfl rfl (fun w_ hs_ => (Run.move rfl rfl)) ?_
      refine WQ.val rfl rfl rfl (fun w_ hs_ => (Run.move rfl rfl)) ?_
      refine WQ.val rfl rfl rfl (fun w_ hs_ => (Run.idx Try.runUnderlying51 Try.sizeOf3 rfl rfl rfl ?_ ?_ ?_)) ?_
      · exact SlF.some_ (SlF.st0 f_a (hs_ : St _ _ _ _))
      · omega
      · omega
      refine WQ.val rfl rfl rfl (fun w_ hs_ => (Run.load Try.isAgg3 rfl rfl (SlF.one1 (SlF.st0 f_a (hs_ : St _ _ _ _)) ?_ rfl))) ?_
      · omega
      refine WQ.val rfl rfl rfl (fun w_ hs_ => (Run.move rfl rfl)) ?_
      refine WQ.val rfl rfl rfl (fun w_ hs_ => (Run.move rfl rfl)) ?_
      refine WQ.val rfl rfl rfl (fun w_ hs_ => (Run.idx Try.runUnderlying51 Try.sizeOf3 rfl rfl rfl ?_ ?_ ?_)) ?_
      · exact SlF.some_ (SlF.st0 f_b (hs_ : St _ _ _ _))
      · omega
      · omega
      refine WQ.val rfl rfl rfl (fun w_ hs_ => (Run.load Try.isAgg3 rfl rfl (SlF.one1 (SlF.st0 f_b (hs_ : St _ _ _ _)) ?_ rfl))) ?_
      · omega
      refine WQ.val rfl rfl rfl (fun w_ hs_ => (Run.neq rfl rfl rfl)) ?_
      refine WQ.nil (fun whs14 hs14 => ?_)
      replace hs14 : St _ _ _ _ := hs14
      refine tkN ?_
      refine hK13 _ _ ?_
      clear hK13
      refine WC.condF rfl (by simp) ?_
      refine WC.skip ?_
      refine ibN ?_
      refine tkN ?_
      refine hK12 _ _ ?_
      clear hK12
      refine WC.region ?_
      refine WL.val rfl rfl rfl (Run.move rfl rfl) ?_
      refine WL.val rfl rfl rfl (Run.add rfl rfl rfl ?_) ?_
      · constructor <;> omega
      refine WL.val rfl rfl rfl (Run.assign rfl rfl) ?_
      refine WL.nil ?_
      refine tkN ?_
      refine ⟨⟨rfl, rfl, rfl, rfl, rfl, rfl, rfl, trivial⟩, hs14, _, ?_, i + 1, rfl, ?_, ⟨rfl, trivial⟩⟩
      · omega
      · omega
    · have qh11 := h11
      try simp only [decide_eq_true_eq, decide_eq_false_iff_not, Bool.not_eq_true', Bool.not_eq_false', Bool.and_eq_true, Bool.or_eq_false_iff, within_iff, within_not] at qh11
      refine WC.exit ?_
      refine tkE ?_
      refine tkE ?_
      refine ibE ?_
      refine tkN ?_
      refine hK6 _ _ ?_
      clear hK6
      refine WC.seq (fun K16 hK16 => ?_)
      refine WC.region ?_
      refine WL.val rfl rfl rfl (Run.assign rfl rfl) ?_
      refine WL.nil ?_
      refine tkN ?_
      refine hK16 _ _ ?_
      clear hK16
      refine WC.ret ?_
      refine retV1 rfl (resV.tmp rfl) ?_
      refine ⟨congrArg Ending.returned ?_, hs8.nil⟩
      rfl
end Go.Proofs.Ytpiimkfonlijdaa
