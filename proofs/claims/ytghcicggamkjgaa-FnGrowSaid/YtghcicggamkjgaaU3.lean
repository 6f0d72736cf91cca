/- Walks of Go functions, printed by a program (wip/gen). -/
import Derived.Test.YtghcicggamkjgaaN15
import Derived.Test.YtghcicggamkjgaaU2
namespace Go.Proofs.Ytghcicggamkjgaa
open Go Go.RowKit
set_option linter.unusedVariables false
set_option linter.unusedSimpArgs false
theorem eq_62 {d : Nat} (x y : NodeD) (w : World) : (Op.equalIn (d + 2) 62 (.agg (encNode.enc x).toArray) (.agg (encNode.enc y).toArray)).run Try.prog w = .ok (decide (x = y)) w := by
  obtain ⟨R, h, e⟩ : ∃ R, (Op.equalIn (d + 2) 62 (.agg (encNode.enc x).toArray) (.agg (encNode.enc y).toArray)).run Try.prog w = .ok R w ∧ R = decide (x = y) := ⟨_, equalIn_struct Try.underlying62 rfl (by kernel_rfl) (eqFields_cons rfl (part_one Try.isAgg3 rfl) (part_one Try.isAgg3 rfl) (equalIn_int Try.underlying3) (eqFields_cons rfl (part_one Try.isAgg4 rfl) (part_one Try.isAgg4 rfl) (equalIn_bool' Try.underlying4) (eqFields_cons rfl (part_one Try.isAgg3 rfl) (part_one Try.isAgg3 rfl) (equalIn_int Try.underlying3) eqFields_nil))), by rw [Bool.eq_iff_iff]; simp [NodeD.iff']⟩
  rw [h, e]
theorem c_laws_sameTree (A_a : Option Addr) (n_a c_a : Nat) (a : List NodeD) (A_b : Option Addr) (n_b c_b : Nat) (b : List NodeD) (w : World) (f_a : SlF encNode w A_a n_a a) (f_b : SlF encNode w A_b n_b b) (hn : n_a ≤ 268435456) (hab : a = b) :
    Calls Try.prog 50 #[.slice A_a n_a c_a, .slice A_b n_b c_b] w fun e w' => e = .returned (.bool true) ∧ St w [] [] w' := by
  subst hab
  obtain rfl : n_a = n_b := f_a.len.symm.trans f_b.len
  refine enter (vs := [.slice A_a n_a c_a, .slice A_b n_a c_b]) 26 Try.func50 rfl Try.ntmps50 rfl rfl ?_
  have hs1 := St.init w
  refine WC.seq (fun K2 hK2 => ?_)
  refine WC.region ?_
  refine WL.val rfl rfl rfl (Run.assign rfl rfl) ?_
  refine WL.nil ?_
  refine tkN ?_
  refine hK2 _ _ ?_
  clear hK2
  refine WC.seq (fun K3 hK3 => ?_)
  refine WC.seq (fun K4 hK4 => ?_)
  refine WC.region ?_
  refine WL.val rfl rfl rfl (Run.move rfl rfl) ?_
  refine WL.val rfl rfl rfl (Run.lenSl Try.runUnderlying25 rfl rfl) ?_
  refine WL.val rfl rfl rfl (Run.move rfl rfl) ?_
  refine WL.val rfl rfl rfl (Run.lenSl Try.runUnderlying25 rfl rfl) ?_
  refine WL.val rfl rfl rfl (Run.neq rfl rfl rfl) ?_
  refine WL.nil ?_
  refine tkN ?_
  refine hK4 _ _ ?_
  clear hK4
  refine WC.condF rfl (by simp) ?_
  refine WC.skip ?_
  refine tkN ?_
  refine hK3 _ _ ?_
  clear hK3
  refine WC.seq (fun K6 hK6 => ?_)
  refine WC.seq (fun K7 hK7 => ?_)
  refine WC.region ?_
  refine WL.val rfl rfl rfl (Run.move rfl rfl) ?_
  refine WL.val rfl rfl rfl (Run.lenSl Try.runUnderlying25 rfl rfl) ?_
  refine WL.val rfl rfl rfl (Run.move rfl rfl) ?_
  refine WL.nil ?_
  refine tkN ?_
  refine hK7 _ _ ?_
  clear hK7
  refine WC.block ?_
  refine WC.loopS [(0, _), (1, _), (6, _), (7, _), (8, _), (9, _), (10, _), (11, _), (12, _)] ⟨rfl, rfl, rfl, rfl, rfl, rfl, rfl, rfl, rfl, trivial⟩ hs1 (fun k_ f w' => ∃ (i : Nat), k_ = n_a - i ∧ (i ≤ n_a) ∧ Sub [(13, .int .i64 i)] f) ((fun (i : Nat) => n_a - i) (0)) ?_ ?_
  · refine ⟨0, rfl, ?_, ⟨rfl, trivial⟩⟩
    · exact Nat.zero_le _
  · clear hs1
    rintro _ f w ⟨i, rfl, p0, hG⟩ hF hs8
    refine WC.sub _ (hG.app hF) ?_
    clear hG hF
    refine WC.seq (fun K9 hK9 => ?_)
    refine WC.region ?_
    refine WL.val rfl rfl rfl (Run.lss rfl rfl rfl) ?_
    refine WL.nil ?_
    refine tkN ?_
    refine hK9 _ _ ?_
    clear hK9
    refine WC.seq (fun K10 hK10 => ?_)
    refine WC.cond rfl (fun h11 => ?_) (fun h11 => ?_)
    · have qh11 := h11
      try simp only [decide_eq_true_eq, decide_eq_false_iff_not, Bool.not_eq_true', Bool.not_eq_false', Bool.and_eq_true, Bool.or_eq_false_iff, within_iff, within_not] at qh11
      refine WC.skip ?_
      refine tkN ?_
      refine hK10 _ _ ?_
      clear hK10
      refine WC.seq (fun K12 hK12 => ?_)
      refine WC.block ?_
      refine WC.seq (fun K13 hK13 => ?_)
      refine WC.region ?_
      refine WL.val rfl rfl rfl (Run.move rfl rfl) ?_
      refine WL.val rfl rfl rfl (Run.assign rfl rfl) ?_
      refine WL.nil ?_
      refine tkN ?_
      refine hK13 _ _ ?_
      clear hK13
      refine WC.seq (fun K14 hK14 => ?_)
      refine WC.regionQ (fun w' => St _ _ _ w') mixed (by kernel_rfl) hs8.drew ?_
      refine WQ.val rfl rfl rfl (fun w_ hs_ => (Run.move rfl rfl)) ?_
      refine WQ.val rfl rfl rfl (fun w_ hs_ => (Run.move rfl rfl)) ?_
      refine WQ.val rfl rfl rfl (fun w_ hs_ => (Run.idxN Try.runUnderlying25 Try.sizeOf62 rfl rfl rfl ?_ ?_ ?_)) ?_
      · exact SlF.some_ (SlF.st0 f_a (hs_ : St _ _ _ _))
      · omega
      · omega
      refine WQ.val rfl rfl rfl (fun w_ hs_ => (Run.loadA Try.isAgg62 Try.sizeOf62 rfl rfl (SlF.whole (SlF.st0 f_a (hs_ : St _ _ _ _)) ?_))) ?_
      · omega
      refine WQ.val rfl rfl rfl (fun w_ hs_ => (Run.move rfl rfl)) ?_
      refine WQ.val rfl rfl rfl (fun w_ hs_ => (Run.move rfl rfl)) ?_
      refine WQ.val rfl rfl rfl (fun w_ hs_ => (Run.idxN Try.runUnderlying25 Try.sizeOf62 rfl rfl rfl ?_ ?_ ?_)) ?_
      · exact SlF.some_ (SlF.st0 f_b (hs_ : St _ _ _ _))
      · omega
      · omega
      refine WQ.val rfl rfl rfl (fun w_ hs_ => (Run.loadA Try.isAgg62 Try.sizeOf62 rfl rfl (SlF.whole (SlF.st0 f_b (hs_ : St _ _ _ _)) ?_))) ?_
      · omega
      refine WQ.val rfl rfl rfl (fun w_ hs_ => (Run.neqA (eq_62 _ _) (by kernel_rfl) rfl rfl rfl)) ?_
      refine WQ.nil (fun whs15 hs15 => ?_)
      replace hs15 : St _ _ _ _ := hs15
      refine tkN ?_
      refine hK14 _ _ ?_
      clear hK14
      refine WC.condF rfl (by simp) ?_
      refine WC.skip ?_
      refine ibN ?_
      refine tkN ?_
      refine hK12 _ _ ?_
      clear hK12
      refine WC.region ?_
      refine WL.val rfl rfl rfl (Run.add rfl rfl rfl ?_) ?_
      · constructor <;> omega
      refine WL.val rfl rfl rfl (Run.move rfl rfl) ?_
      refine WL.nil ?_
      refine tkN ?_
      refine ⟨⟨rfl, rfl, rfl, rfl, rfl, rfl, rfl, rfl, rfl, trivial⟩, hs15, _, ?_, i + 1, rfl, ?_, ⟨rfl, trivial⟩⟩
      · omega
      · omega
    · have qh11 := h11
      try simp only [decide_eq_true_eq, decide_eq_false_iff_not, Bool.not_eq_true', Bool.not_eq_false', Bool.and_eq_true, Bool.or_eq_false_iff, within_iff, within_not] at qh11
      refine WC.exit ?_
      refine tkE ?_
      refine tkE ?_
      refine ibE ?_
      refine tkN ?_
      refine hK6 _ _ ?_
      clear hK6
      refine WC.seq (fun K17 hK17 => ?_)
      refine WC.region ?_
      refine WL.val rfl rfl rfl (Run.assign rfl rfl) ?_
      refine WL.nil ?_
      refine tkN ?_
      refine hK17 _ _ ?_
      clear hK17
      refine WC.ret ?_
      refine retV1 rfl (resV.tmp rfl) ?_
      refine ⟨congrArg Ending.returned ?_, hs8.nil⟩
      rfl
theorem c_laws_sameInts (A_a : Option Addr) (n_a c_a : Nat) (a : List Int) (A_b : Option Addr) (n_b c_b : Nat) (b : List Int) (w : World) (f_a : SlF encI w A_a n_a a) (f_b : SlF encI w A_b n_b b) (hn : n_a ≤ 268435456) (hab : a = b) :
    Calls Try.prog 52 #[.slice A_a n_a c_a, .slice A_b n_b c_b] w fun e w' => e = .returned (.bool true) ∧ St w [] [] w' := by
  subst hab
  obtain rfl : n_a = n_b := f_a.len.symm.trans f_b.len
  refine enter (vs := [.slice A_a n_a c_a, .slice A_b n_a c_b]) 26 Try.func52 rfl Try.ntmps52 rfl rfl ?_
  have hs1 := St.init w
  refine WC.seq (fun K2 hK2 => ?_)
  refine WC.region ?_
  refine WL.val rfl rfl rfl (Run.assign rfl rfl) ?_
  refine WL.nil ?_
  refine tkN ?_
  refine hK2 _ _ ?_
  clear hK2
  refine WC.seq (fun K3 hK3 => ?_)
  refine WC.seq (fun K4 hK4 => ?_)
  refine WC.region ?_
  refine WL.val rfl rfl rfl (Run.move rfl rfl) ?_
  refine WL.val rfl rfl rfl (Run.lenSl Try.runUnderlying31 rfl rfl) ?_
  refine WL.val rfl rfl rfl (Run.move rfl rfl) ?_
  refine WL.val rfl rfl rfl (Run.lenSl Try.runUnderlying31 rfl rfl) ?_
  refine WL.val rfl rfl rfl (Run.neq rfl rfl rfl) ?_
  refine WL.nil ?_
  refine tkN ?_
  refine hK4 _ _ ?_
  clear hK4
  refine WC.condF rfl (by simp) ?_
  refine WC.skip ?_
  refine tkN ?_
  refine hK3 _ _ ?_
  clear hK3
  refine WC.seq (fun K6 hK6 => ?_)
  refine WC.seq (fun K7 hK7 => ?_)
  refine WC.region ?_
  refine WL.val rfl rfl rfl (Run.move rfl rfl) ?_
  refine WL.val rfl rfl rfl (Run.lenSl Try.runUnderlying31 rfl rfl) ?_
  refine WL.val rfl rfl rfl (Run.move rfl rfl) ?_
  refine WL.nil ?_
  refine tkN ?_
  refine hK7 _ _ ?_
  clear hK7
  refine WC.block ?_
  refine WC.loopS [(0, _), (1, _), (6, _), (7, _), (8, _), (9, _), (10, _), (11, _), (12, _)] ⟨rfl, rfl, rfl, rfl, rfl, rfl, rfl, rfl, rfl, trivial⟩ hs1 (fun k_ f w' => ∃ (i : Nat), k_ = n_a - i ∧ (i ≤ n_a) ∧ Sub [(13, .int .i64 i)] f) ((fun (i : Nat) => n_a - i) (0)) ?_ ?_
  · refine ⟨0, rfl, ?_, ⟨rfl, trivial⟩⟩
    · exact Nat.zero_le _
  · clear hs1
    rintro _ f w ⟨i, rfl, p0, hG⟩ hF hs8
    refine WC.sub _ (hG.app hF) ?_
    clear hG hF
    refine WC.seq (fun K9 hK9 => ?_)
    refine WC.region ?_
    refine WL.val rfl rfl rfl (Run.lss rfl rfl rfl) ?_
    refine WL.nil ?_
    refine tkN ?_
    refine hK9 _ _ ?_
    clear hK9
    refine WC.seq (fun K10 hK10 => ?_)
    refine WC.cond rfl (fun h11 => ?_) (fun h11 => ?_)
    · have qh11 := h11
      try simp only [decide_eq_true_eq, decide_eq_false_iff_not, Bool.not_eq_true', Bool.not_eq_false', Bool.and_eq_true, Bool.or_eq_false_iff, within_iff, within_not] at qh11
      refine WC.skip ?_
      refine tkN ?_
      refine hK10 _ _ ?_
      clear hK10
      refine WC.seq (fun K12 hK12 => ?_)
      refine WC.block ?_
      refine WC.seq (fun K13 hK13 => ?_)
      refine WC.region ?_
      refine WL.val rfl rfl rfl (Run.move rfl rfl) ?_
      refine WL.val rfl rfl rfl (Run.assign rfl rfl) ?_
      refine WL.nil ?_
      refine tkN ?_
      refine hK13 _ _ ?_
      clear hK13
      refine WC.seq (fun K14 hK14 => ?_)
      refine WC.regionQ (fun w' => St _ _ _ w') mixed (by kernel_rfl) hs8.drew ?_
      refine WQ.val rfl rfl rfl (fun w_ hs_ => (Run.move rfl rfl)) ?_
      refine WQ.val rfl rfl rfl (fun w_ hs_ => (Run.move rfl rfl)) ?_
      refine WQ.val rfl rfl rfl (fun w_ hs_ => (Run.idxN Try.runUnderlying31 Try.sizeOf3 rfl rfl rfl ?_ ?_ ?_)) ?_
      · exact SlF.some_ (SlF.st0 f_a (hs_ : St _ _ _ _))
      · omega
      · omega
      refine WQ.val rfl rfl rfl (fun w_ hs_ => (Run.load Try.isAgg3 rfl rfl (SlF.one1 (SlF.st0 f_a (hs_ : St _ _ _ _)) ?_ rfl))) ?_
      · omega
      refine WQ.val rfl rfl rfl (fun w_ hs_ => (Run.move rfl rfl)) ?_
      refine WQ.val rfl rfl rfl (fun w_ hs_ => (Run.move rfl rfl)) ?_
      refine WQ.val rfl rfl rfl (fun w_ hs_ => (Run.idxN Try.runUnderlying31 Try.sizeOf3 rfl rfl rfl ?_ ?_ ?_)) ?_
      · exact SlF.some_ (SlF.st0 f_b (hs_ : St _ _ _ _))
      · omega
      · omega
      refine WQ.val rfl rfl rfl (fun w_ hs_ => (Run.load Try.isAgg3 rfl rfl (SlF.one1 (SlF.st0 f_b (hs_ : St _ _ _ _)) ?_ rfl))) ?_
      · omega
      refine WQ.val rfl rfl rfl (fun w_ hs_ => (Run.neq rfl rfl rfl)) ?_
      refine WQ.nil (fun whs15 hs15 => ?_)
      replace hs15 : St _ _ _ _ := hs15
      refine tkN ?_
      refine hK14 _ _ ?_
      clear hK14
      refine WC.condF rfl (by simp) ?_
      refine WC.skip ?_
      refine ibN ?_
      refine tkN ?_
      refine hK12 _ _ ?_
      clear hK12
      refine WC.region ?_
      refine WL.val rfl rfl rfl (Run.add rfl rfl rfl ?_) ?_
      · constructor <;> omega
      refine WL.val rfl rfl rfl (Run.move rfl rfl) ?_
      refine WL.nil ?_
      refine tkN ?_
      refine ⟨⟨rfl, rfl, rfl, rfl, rfl, rfl, rfl, rfl, rfl, trivial⟩, hs15, _, ?_, i + 1, rfl, ?_, ⟨rfl, trivial⟩⟩
      · omega
      · omega
    · have qh11 := h11
      try simp only [decide_eq_true_eq, decide_eq_false_iff_not, Bool.not_eq_true', Bool.not_eq_false', Bool.and_eq_true, Bool.or_eq_false_iff, within_iff, within_not] at qh11
      refine WC.exit ?_
      refine tkE ?_
      refine tkE ?_
      refine ibE ?_
      refine tkN ?_
      refine hK6 _ _ ?_
      clear hK6
      refine WC.seq (fun K17 hK17 => ?_)
      refine WC.region ?_
      refine WL.val rfl rfl rfl (Run.assign rfl rfl) ?_
      refine WL.nil ?_
      refine tkN ?_
      refine hK17 _ _ ?_
      clear hK17
      refine WC.ret ?_
      refine retV1 rfl (resV.tmp rfl) ?_
      refine ⟨congrArg Ending.returned ?_, hs8.nil⟩
      rfl
theorem c_spec_MakeNum (A_s : Option Addr) (n_s c_s : Nat) (s : List UInt8) (n : Int) (w : World) (f_s : SlF encB w A_s n_s s) (hn : n_s ≤ 1048576) :
    Calls Try.prog 51 #[.slice A_s n_s c_s, i64 n] w fun e w' => ∃ r, e = .returned (.int .i64 r) ∧ St w [] [] w' ∧ (0 ≤ r ∧ (0 < n → r < n)) := by
  have hl := f_s.len
  refine enter (vs := [.slice A_s n_s c_s, i64 n]) 19 Try.func51 rfl Try.ntmps51 rfl rfl ?_
  have hs1 := St.init w
  refine WC.seq (fun K2 hK2 => ?_)
  refine WC.region ?_
  refine WL.val rfl rfl rfl (Run.assign rfl rfl) ?_
  refine WL.nil ?_
  refine tkN ?_
  refine hK2 _ _ ?_
  clear hK2
  refine WC.seq (fun K3 hK3 => ?_)
  refine WC.region ?_
  refine WL.val rfl rfl rfl (Run.move rfl rfl) ?_
  refine WL.call rfl rfl rfl (Run.call Try.call72 rfl rfl rfl) (c_spec_l01New _ _ _ _ _ (SlF.st0 f_s hs1) ?_) ?_
  · omega
  rintro _ whs6 ⟨b4, h5, rfl, hs6⟩
  replace hs6 := hs1.callF hs6
  refine ⟨_, rfl, ?_⟩
  refine WL.val rfl rfl rfl (Run.assign rfl rfl) ?_
  refine WL.nil ?_
  refine tkN ?_
  refine hK3 _ _ ?_
  clear hK3
  refine WC.seq (fun K7 hK7 => ?_)
  refine WC.region ?_
  refine WL.val rfl rfl rfl (Run.move rfl rfl) ?_
  refine WL.val rfl rfl rfl (Run.move rfl rfl) ?_
  refine WL.val rfl rfl rfl (Run.nilCheck rfl rfl) ?_
  refine WL.val rfl rfl rfl (Run.field Try.runUnderlying86 rfl rfl rfl Try.sizeOf3 rfl) ?_
  refine WL.val rfl rfl rfl (Run.loadL hs6 0 Try.isAgg3 rfl rfl rfl rfl) ?_
  refine WL.val rfl rfl rfl (Run.addW rfl rfl rfl) ?_
  refine WL.val rfl rfl rfl (Run.nilCheck rfl rfl) ?_
  refine WL.val rfl rfl rfl (Run.field Try.runUnderlying86 rfl rfl rfl Try.sizeOf3 rfl) ?_
  refine WL.store hs6 0 Try.sizeOf3 rfl rfl rfl rfl rfl rfl rfl rfl rfl rfl (fun whs8 hs8 => ?_)
  refine WL.nil ?_
  refine tkN ?_
  refine hK7 _ _ ?_
  clear hK7
  refine WC.seq (fun K9 hK9 => ?_)
  refine WC.region ?_
  refine WL.val rfl rfl rfl (Run.move rfl rfl) ?_
  refine WL.val rfl rfl rfl (Run.move rfl rfl) ?_
  have hF10 : St _ _ ([(b4, _)] ++ _) _ := hs8
  refine WL.call rfl rfl rfl (Run.call Try.call73 rfl rfl rfl) (c_spec_l01Below _ _ _ _ _ _ _ _ _ (hF10.own _ List.mem_cons_self).1 (SlF.st0 f_s hs8) (St.sep hF10 f_s) ?_ ?_) ?_
  · omega
  · omega
  rintro _ whs16 ⟨r11, i12, h13, rfl, hs16, hr14, hi15⟩
  replace hs16 := St.lend hF10 hs16
  refine ⟨_, rfl, ?_⟩
  refine WL.val rfl rfl rfl (Run.assign rfl rfl) ?_
  refine WL.nil ?_
  refine tkN ?_
  refine hK9 _ _ ?_
  clear hK9
  refine WC.ret ?_
  refine retV1 rfl (resV.tmp rfl) ?_
  exact ⟨_, rfl, hs16.nil, hr14⟩
end Go.Proofs.Ytghcicggamkjgaa
