/- Walks of Go functions, printed by a program (wip/gen). -/
import Derived.Test.YtpiimkfonlijdaaE5
import Derived.Test.YtpiimkfonlijdaaG1
namespace Go.Proofs.Ytpiimkfonlijdaa
open Go Go.RowKit
set_option linter.unusedVariables false
set_option linter.unusedSimpArgs false
theorem info_5 : Try.prog.info? 5 = some Try.t5 := by kernel_rfl
theorem c_laws_szByteS (A : Option Addr) (n c : Nat) (left : Int) (w : World) (h1 : 0 ≤ left) (h2 : left ≤ 1048576) (h3 : n ≤ 9223372036854775807) :
    Calls Try.prog 44 #[.slice A n c, i64 left] w fun e w' => e = .returned (.int .i64 (szR left n)) ∧ St w [] [] w' := by
  refine enter (vs := [.slice A n c, i64 left]) 12 Try.func44 rfl Try.ntmps44 rfl rfl ?_
  have hs1 := St.init w
  refine WC.seq (fun K2 hK2 => ?_)
  refine WC.region ?_
  refine WL.val rfl rfl rfl (Run.assign rfl rfl) ?_
  refine WL.nil ?_
  refine tkN ?_
  refine hK2 _ _ ?_
  clear hK2
  refine WC.seq (fun K3 hK3 => ?_)
  refine WC.region ?_
  refine WL.val rfl rfl rfl (Run.move rfl rfl) ?_
  refine WL.val rfl rfl rfl (Run.move rfl rfl) ?_
  refine WL.val rfl rfl rfl (Run.lenSl Try.runUnderlying22 rfl rfl) ?_
  refine WL.val rfl rfl rfl (Run.sub rfl rfl rfl ?_) ?_
  · constructor <;> omega
  refine WL.val rfl rfl rfl (Run.assign rfl rfl) ?_
  refine WL.nil ?_
  refine tkN ?_
  refine hK3 _ _ ?_
  clear hK3
  refine WC.seq (fun K4 hK4 => ?_)
  refine WC.seq (fun K5 hK5 => ?_)
  refine WC.region ?_
  refine WL.val rfl rfl rfl (Run.move rfl rfl) ?_
  refine WL.val rfl rfl rfl (Run.lss rfl rfl rfl) ?_
  refine WL.nil ?_
  refine tkN ?_
  refine hK5 _ _ ?_
  clear hK5
  refine WC.cond rfl (fun h6 => ?_) (fun h6 => ?_)
  · have qh6 := h6
    try simp only [decide_eq_true_eq, decide_eq_false_iff_not, Bool.not_eq_true', Bool.not_eq_false', Bool.and_eq_true, Bool.or_eq_false_iff, within_iff, within_not] at qh6
    refine WC.seq (fun K7 hK7 => ?_)
    refine WC.region ?_
    refine WL.val rfl rfl rfl (Run.assign rfl rfl) ?_
    refine WL.nil ?_
    refine tkN ?_
    refine hK7 _ _ ?_
    clear hK7
    refine WC.ret ?_
    refine tkR ?_
    clear hK4
    refine retV1 rfl (resV.tmp rfl) ?_
    refine ⟨congrArg Ending.returned ?_, hs1.nil⟩
    simp only [szR]; rw [if_neg (by omega)]
  · have qh6 := h6
    try simp only [decide_eq_true_eq, decide_eq_false_iff_not, Bool.not_eq_true', Bool.not_eq_false', Bool.and_eq_true, Bool.or_eq_false_iff, within_iff, within_not] at qh6
    refine WC.skip ?_
    refine tkN ?_
    refine hK4 _ _ ?_
    clear hK4
    refine WC.seq (fun K8 hK8 => ?_)
    refine WC.region ?_
    refine WL.val rfl rfl rfl (Run.move rfl rfl) ?_
    refine WL.val rfl rfl rfl (Run.assign rfl rfl) ?_
    refine WL.nil ?_
    refine tkN ?_
    refine hK8 _ _ ?_
    clear hK8
    refine WC.ret ?_
    refine retV1 rfl (resV.tmp rfl) ?_
    refine ⟨congrArg Ending.returned ?_, hs1.nil⟩
    simp only [szR]; rw [if_pos (by omega)]
theorem c_laws_toByteS (A : Option Addr) (n c : Nat) (xs : List UInt8) (w : World) (hA : SlB w A n xs) (hn : n ≤ 1099511627776) :
    Calls Try.prog 28 #[.slice A n c] w fun e w' => ∃ b, e = .returned (.slice (some ⟨b, 0, none⟩) n n) ∧ St w [] [(b, .cells (bytesV xs).toArray 5 (0, 0))] w' := by
  refine enter (vs := [.slice A n c]) 22 Try.func28 rfl Try.ntmps28 rfl rfl ?_
  have hs1 := St.init w
  refine WC.seq (fun K2 hK2 => ?_)
  refine WC.region ?_
  refine WL.val rfl rfl rfl (Run.assign rfl rfl) ?_
  refine WL.nil ?_
  refine tkN ?_
  refine hK2 _ _ ?_
  clear hK2
  refine WC.seq (fun K3 hK3 => ?_)
  refine WC.region ?_
  refine WL.val rfl rfl rfl (Run.move rfl rfl) ?_
  refine WL.val rfl rfl rfl (Run.lenSl Try.runUnderlying22 rfl rfl) ?_
  refine WL.make hs1 Try.underlying22 info_5 rfl rfl rfl rfl rfl rfl rfl rfl rfl ?_ ?_ (fun b4 whs5 hs5 => ?_)
  · have e_ : Try.t5.bytes = 1 := rfl
    rw [e_]; omega
  · omega
  refine WL.val rfl rfl rfl (Run.assign rfl rfl) ?_
  refine WL.nil ?_
  refine tkN ?_
  refine hK3 _ _ ?_
  clear hK3
  refine WC.seq (fun K6 hK6 => ?_)
  refine WC.seq (fun K7 hK7 => ?_)
  refine WC.region ?_
  refine WL.val rfl rfl rfl (Run.assign rfl rfl) ?_
  refine WL.nil ?_
  refine tkN ?_
  refine hK7 _ _ ?_
  clear hK7
  refine WC.block ?_
  refine WC.loopH [(0, _), (2, _), (3, _), (5, _), (6, _), (7, _)] ⟨rfl, rfl, rfl, rfl, rfl, rfl, trivial⟩ (fun k f w' => ∃ (i : Nat), k = n - i ∧ i ≤ n ∧ St w [] [(b4, .cells (fillV (bytesV xs) (.int .u8 0) i).toArray 5 (0, 0))] w' ∧ Sub [(4, .int .i64 i)] f) ((fun (i : Nat) => n - i) (0)) ?_ ?_
  · refine ⟨0, rfl, ?_, ?_, ⟨rfl, trivial⟩⟩
    · exact Nat.zero_le _
    · exact hs5.eq (by rw [fillV_zero, bytesV_len, hA.len]; rfl)
  · clear hs5
    rintro _ f w ⟨i, rfl, p0, hs8, hG⟩ hF
    refine WC.sub _ (hG.app hF) ?_
    clear hG hF
    refine WC.seq (fun K9 hK9 => ?_)
    refine WC.seq (fun K10 hK10 => ?_)
    refine WC.region ?_
    refine WL.val rfl rfl rfl (Run.move rfl rfl) ?_
    refine WL.val rfl rfl rfl (Run.move rfl rfl) ?_
    refine WL.val rfl rfl rfl (Run.lenSl Try.runUnderlying22 rfl rfl) ?_
    refine WL.val rfl rfl rfl (Run.lss rfl rfl rfl) ?_
    refine WL.nil ?_
    refine tkN ?_
    refine hK10 _ _ ?_
    clear hK10
    refine WC.cond rfl (fun h11 => ?_) (fun h11 => ?_)
    · have qh11 := h11
      try simp only [decide_eq_true_eq, decide_eq_false_iff_not, Bool.not_eq_true', Bool.not_eq_false', Bool.and_eq_true, Bool.or_eq_false_iff, within_iff, within_not] at qh11
      refine WC.skip ?_
      refine tkN ?_
      refine hK9 _ _ ?_
      clear hK9
      refine WC.seq (fun K12 hK12 => ?_)
      refine WC.block ?_
      refine WC.region ?_
      refine WL.val rfl rfl rfl (Run.move rfl rfl) ?_
      refine WL.val rfl rfl rfl (Run.move rfl rfl) ?_
      refine WL.val rfl rfl rfl (Run.move rfl rfl) ?_
      refine WL.val rfl rfl rfl (Run.move rfl rfl) ?_
      refine WL.val rfl rfl rfl (Run.idx Try.runUnderlying22 Try.sizeOf5 rfl rfl rfl ?_ ?_ ?_) ?_
      · exact hA.some_
      · omega
      · omega
      refine WL.val rfl rfl rfl (Run.load Try.isAgg5 rfl rfl ((hA.st0 hs8).ld ?_)) ?_
      · omega
      refine WL.val rfl rfl rfl (Run.idxB Try.runUnderlying22 Try.sizeOf5 rfl rfl rfl ?_ ?_) ?_
      · omega
      · omega
      refine WL.storeI hs8 0 Try.sizeOf5 rfl rfl rfl rfl rfl rfl rfl ?_ ?_ (fun whs13 hs13 => ?_)
      · rw [fillV_len _ _ _ (by rw [bytesV_len, hA.len]; omega), bytesV_len, hA.len]; simp; omega
      · omega
      refine WL.nil ?_
      refine ibN ?_
      refine tkN ?_
      refine hK12 _ _ ?_
      clear hK12
      refine WC.region ?_
      refine WL.val rfl rfl rfl (Run.move rfl rfl) ?_
      refine WL.val rfl rfl rfl (Run.add rfl rfl rfl ?_) ?_
      · constructor <;> omega
      refine WL.val rfl rfl rfl (Run.assign rfl rfl) ?_
      refine WL.nil ?_
      refine tkN ?_
      refine ⟨⟨rfl, rfl, rfl, rfl, rfl, rfl, trivial⟩, _, ?_, i + 1, rfl, ?_, ?_, ⟨rfl, trivial⟩⟩
      · omega
      · omega
      · exact hs13.eq (by simp only [setL]; rw [fillV_setI (by simp) (by simpa using bytesV_get (by rw [hA.len]; omega))])
    · have qh11 := h11
      try simp only [decide_eq_true_eq, decide_eq_false_iff_not, Bool.not_eq_true', Bool.not_eq_false', Bool.and_eq_true, Bool.or_eq_false_iff, within_iff, within_not] at qh11
      refine WC.exit ?_
      refine tkE ?_
      refine tkE ?_
      refine ibE ?_
      refine tkN ?_
      refine hK6 _ _ ?_
      clear hK6
      refine WC.seq (fun K14 hK14 => ?_)
      refine WC.region ?_
      refine WL.val rfl rfl rfl (Run.move rfl rfl) ?_
      refine WL.val rfl rfl rfl (Run.assign rfl rfl) ?_
      refine WL.nil ?_
      refine tkN ?_
      refine hK14 _ _ ?_
      clear hK14
      refine WC.ret ?_
      refine retV1 rfl (resV.tmp rfl) ?_
      exact ⟨_, rfl, hs8.eq (by rw [show i = (bytesV xs).length from by rw [bytesV_len, hA.len]; omega, fillV_full])⟩
theorem c_laws_eqByteS (A A' : Option Addr) (n c c' : Nat) (xs : List UInt8) (w : World) (hA : SlB w A n xs) (hA' : SlB w A' n xs) (hn : n ≤ 1099511627776) :
    Calls Try.prog 19 #[.slice A n c, .slice A' n c'] w fun e w' => e = .returned (.bool true) ∧ St w [] [] w' := by
  refine enter (vs := [.slice A n c, .slice A' n c']) 26 Try.func19 rfl Try.ntmps19 rfl rfl ?_
  have hs1 := St.init w
  refine WC.seq (fun K2 hK2 => ?_)
  refine WC.region ?_
  refine WL.val rfl rfl rfl (Run.assign rfl rfl) ?_
  refine WL.nil ?_
  refine tkN ?_
  refine hK2 _ _ ?_
  clear hK2
  refine WC.seq (fun K3 hK3 => ?_)
  refine WC.seq (fun K4 hK4 => ?_)
  refine WC.region ?_
  refine WL.val rfl rfl rfl (Run.move rfl rfl) ?_
  refine WL.val rfl rfl rfl (Run.lenSl Try.runUnderlying22 rfl rfl) ?_
  refine WL.val rfl rfl rfl (Run.move rfl rfl) ?_
  refine WL.val rfl rfl rfl (Run.lenSl Try.runUnderlying22 rfl rfl) ?_
  refine WL.val rfl rfl rfl (Run.neq rfl rfl rfl) ?_
  refine WL.nil ?_
  refine tkN ?_
  refine hK4 _ _ ?_
  clear hK4
  refine WC.condF rfl (by simp) ?_
  refine WC.skip ?_
  refine tkN ?_
  refine hK3 _ _ ?_
  clear hK3
  refine WC.seq (fun K6 hK6 => ?_)
  refine WC.seq (fun K7 hK7 => ?_)
  refine WC.region ?_
  refine WL.val rfl rfl rfl (Run.assign rfl rfl) ?_
  refine WL.nil ?_
  refine tkN ?_
  refine hK7 _ _ ?_
  clear hK7
  refine WC.block ?_
  refine WC.loopS [(0, _), (1, _), (6, _), (7, _), (8, _), (9, _), (10, _)] ⟨rfl, rfl, rfl, rfl, rfl, rfl, rfl, trivial⟩ hs1 (fun k f w' => ∃ (i : Nat), k = n - i ∧ i ≤ n ∧ Sub [(5, .int .i64 i)] f) ((fun (i : Nat) => n - i) (0)) ?_ ?_
  · refine ⟨0, rfl, ?_, ⟨rfl, trivial⟩⟩
    · exact Nat.zero_le _
  · clear hs1
    rintro _ f w ⟨i, rfl, p0, hG⟩ hF hs8
    refine WC.sub _ (hG.app hF) ?_
    clear hG hF
    refine WC.seq (fun K9 hK9 => ?_)
    refine WC.seq (fun K10 hK10 => ?_)
    refine WC.region ?_
    refine WL.val rfl rfl rfl (Run.move rfl rfl) ?_
    refine WL.val rfl rfl rfl (Run.move rfl rfl) ?_
    refine WL.val rfl rfl rfl (Run.lenSl Try.runUnderlying22 rfl rfl) ?_
    refine WL.val rfl rfl rfl (Run.lss rfl rfl rfl) ?_
    refine WL.nil ?_
    refine tkN ?_
    refine hK10 _ _ ?_
    clear hK10
    refine WC.cond rfl (fun h11 => ?_) (fun h11 => ?_)
    · have qh11 := h11
      try simp only [decide_eq_true_eq, decide_eq_false_iff_not, Bool.not_eq_true', Bool.not_eq_false', Bool.and_eq_true, Bool.or_eq_false_iff, within_iff, within_not] at qh11
      refine WC.skip ?_
      refine tkN ?_
      refine hK9 _ _ ?_
      clear hK9
      refine WC.seq (fun K12 hK12 => ?_)
      refine WC.block ?_
      refine WC.seq (fun K13 hK13 => ?_)
      refine WC.regionQ (fun w' => St _ _ _ w') mixed (by kernel_rfl) hs8.drew ?_
      refine WQ.val rfl rfl rfl (fun w_ hs_ => (Run.move rfl rfl)) ?_
      refine WQ.val rfl rfl rfl (fun w_ hs_ => (Run.move rfl rfl)) ?_
      refine WQ.val rfl rfl rfl (fun w_ hs_ => (Run.idx Try.runUnderlying22 Try.sizeOf5 rfl rfl rfl ?_ ?_ ?_)) ?_
      · exact hA.some_
      · omega
      · omega
      refine WQ.val rfl rfl rfl (fun w_ hs_ => (Run.load Try.isAgg5 rfl rfl ((hA.st0 (hs_ : St _ _ _ _)).ld ?_))) ?_
      · omega
      refine WQ.val rfl rfl rfl (fun w_ hs_ => (Run.move rfl rfl)) ?_
      refine WQ.val rfl rfl rfl (fun w_ hs_ => (Run.move rfl rfl)) ?_
      refine WQ.val rfl rfl rfl (fun w_ hs_ => (Run.idx Try.runUnderlying22 Try.sizeOf5 rfl rfl rfl ?_ ?_ ?_)) ?_
      · exact hA'.some_
      · omega
      · omega
      refine WQ.val rfl rfl rfl (fun w_ hs_ => (Run.load Try.isAgg5 rfl rfl ((hA'.st0 (hs_ : St _ _ _ _)).ld ?_))) ?_
      · omega
      refine WQ.val rfl rfl rfl (fun w_ hs_ => (Run.neq rfl rfl rfl)) ?_
      refine WQ.nil (fun whs14 hs14 => ?_)
      replace hs14 : St _ _ _ _ := hs14
      refine tkN ?_
      refine hK13 _ _ ?_
      clear hK13
      refine WC.condF rfl (by simp) ?_
      refine WC.skip ?_
      refine ibN ?_
      refine tkN ?_
      refine hK12 _ _ ?_
      clear hK12
      refine WC.region ?_
      refine WL.val rfl rfl rfl (Run.move rfl rfl) ?_
      refine WL.val rfl rfl rfl (Run.add rfl rfl rfl ?_) ?_
      · constructor <;> omega
      refine WL.val rfl rfl rfl (Run.assign rfl rfl) ?_
      refine WL.nil ?_
      refine tkN ?_
      refine ⟨⟨rfl, rfl, rfl, rfl, rfl, rfl, rfl, trivial⟩, hs14, _, ?_, i + 1, rfl, ?_, ⟨rfl, trivial⟩⟩
      · omega
      · omega
    · have qh11 := h11
      try simp only [decide_eq_true_eq, decide_eq_false_iff_not, Bool.not_eq_true', Bool.not_eq_false', Bool.and_eq_true, Bool.or_eq_false_iff, within_iff, within_not] at qh11
      refine WC.exit ?_
      refine tkE ?_
      refine tkE ?_
      refine ibE ?_
      refine tkN ?_
      refine hK6 _ _ ?_
      clear hK6
      refine WC.seq (fun K16 hK16 => ?_)
      refine WC.region ?_
      refine WL.val rfl rfl rfl (Run.assign rfl rfl) ?_
      refine WL.nil ?_
      refine tkN ?_
      refine hK16 _ _ ?_
      clear hK16
      refine WC.ret ?_
      refine retV1 rfl (resV.tmp rfl) ?_
      refine ⟨congrArg Ending.returned ?_, hs8.nil⟩
      rfl
theorem c_laws_szOp (k a b c : Int) (nm tx dr : ByteArray) (A : Option Addr) (n cp : Nat) (left : Int) (w : World) (h1 : 0 ≤ left) (h2 : left ≤ 1048576) (h3 : nm.size ≤ 9223372036854775807) (h4 : tx.size ≤ 9223372036854775807) (h5 : dr.size ≤ 9223372036854775807) (h6 : n ≤ 9223372036854775807) :
    Calls Try.prog 10 #[.agg #[i64 k, i64 a, i64 b, i64 c, .string nm, .string tx, .string dr, .slice A n cp], i64 left] w fun e w' => e = .returned (.int .i64 (szR left (nm.size + tx.size + dr.size + n))) ∧ St w [] [] w' := by
  refine enter (vs := [.agg #[i64 k, i64 a, i64 b, i64 c, .string nm, .string tx, .string dr, .slice A n cp], i64 left]) 33 Try.func10 rfl Try.ntmps10 rfl rfl ?_
  have hs1 := St.init w
  refine WC.seq (fun K2 hK2 => ?_)
  refine WC.region ?_
  refine WL.box hs1 rfl rfl rfl rfl rfl rfl (fun b3 whs4 hs4 => ?_)
  refine WL.val rfl rfl rfl (Run.assign rfl rfl) ?_
  refine WL.nil ?_
  refine tkN ?_
  refine hK2 _ _ ?_
  clear hK2
  refine WC.seq (fun K5 hK5 => ?_)
  refine WC.region ?_
  refine WL.val rfl rfl rfl (Run.move rfl rfl) ?_
  refine WL.val rfl rfl rfl (Run.field Try.runUnderlying24 rfl rfl rfl Try.sizeOf9 rfl) ?_
  refine WL.val rfl rfl rfl (Run.loadL hs4 0 Try.isAgg9 rfl rfl rfl rfl) ?_
  refine WL.val rfl rfl rfl (Run.lenStr Try.runUnderlying9 rfl rfl) ?_
  refine WL.val rfl rfl rfl (Run.sub rfl rfl rfl ?_) ?_
  · constructor <;> omega
  refine WL.val rfl rfl rfl (Run.assign rfl rfl) ?_
  refine WL.nil ?_
  refine tkN ?_
  refine hK5 _ _ ?_
  clear hK5
  refine WC.seq (fun K6 hK6 => ?_)
  refine WC.seq (fun K7 hK7 => ?_)
  refine WC.region ?_
  refine WL.val rfl rfl rfl (Run.move rfl rfl) ?_
  refine WL.val rfl rfl rfl (Run.lss rfl rfl rfl) ?_
  refine WL.nil ?_
  refine tkN ?_
  refine hK7 _ _ ?_
  clear hK7
  refine WC.cond rfl (fun h8 => ?_) (fun h8 => ?_)
  · have qh8 := h8
    try simp only [decide_eq_true_eq, decide_eq_false_iff_not, Bool.not_eq_true', Bool.not_eq_false', Bool.and_eq_true, Bool.or_eq_false_iff, within_iff, within_not] at qh8
    refine WC.seq (fun K9 hK9 => ?_)
    refine WC.region ?_
    refine WL.val rfl rfl rfl (Run.assign rfl rfl) ?_
    refine WL.nil ?_
    refine tkN ?_
    refine hK9 _ _ ?_
    clear hK9
    refine WC.ret ?_
    refine tkR ?_
    clear hK6
    refine retV1 rfl (resV.tmp rfl) ?_
    refine ⟨congrArg Ending.returned ?_, hs4.nil⟩
    simp only [szR] at *; (repeat' split at *) <;> first | rfl | omega | (congr 1; omega)
  · have qh8 := h8
    try simp only [decide_eq_true_eq, decide_eq_false_iff_not, Bool.not_eq_true', Bool.not_eq_false', Bool.and_eq_true, Bool.or_eq_false_iff, within_iff, within_not] at qh8
    refine WC.skip ?_
    refine tkN ?_
    refine hK6 _ _ ?_
    clear hK6
    refine WC.seq (fun K10 hK10 => ?_)
    refine WC.region ?_
    refine WL.val rfl rfl rfl (Run.move rfl rfl) ?_
    refine WL.val rfl rfl rfl (Run.field Try.runUnderlying24 rfl rfl rfl Try.sizeOf9 rfl) ?_
    refine WL.val rfl rfl rfl (Run.loadL hs4 0 Try.isAgg9 rfl rfl rfl rfl) ?_
    refine WL.val rfl rfl rfl (Run.lenStr Try.runUnderlying9 rfl rfl) ?_
    refine WL.val rfl rfl rfl (Run.sub rfl rfl rfl ?_) ?_
    · constructor <;> omega
    refine WL.val rfl rfl rfl (Run.assign rfl rfl) ?_
    refine WL.nil ?_
    refine tkN ?_
    refine hK10 _ _ ?_
    clear hK10
    refine WC.seq (fun K11 hK11 => ?_)
    refine WC.seq (fun K12 hK12 => ?_)
    refine WC.region ?_
    refine WL.val rfl rfl rfl (Run.move rfl rfl) ?_
    refine WL.val rfl rfl rfl (Run.lss rfl rfl rfl) ?_
    refine WL.nil ?_
    refine tkN ?_
    refine hK12 _ _ ?_
    clear hK12
    refine WC.cond rfl (fun h13 => ?_) (fun h13 => ?_)
    · have qh13 := h13
      try simp only [decide_eq_true_eq, decide_eq_false_iff_not, Bool.not_eq_true', Bool.not_eq_false', Bool.and_eq_true, Bool.or_eq_false_iff, within_iff, within_not] at qh13
      refine WC.seq (fun K14 hK14 => ?_)
      refine WC.region ?_
      refine WL.val rfl rfl rfl (Run.assign rfl rfl) ?_
      refine WL.nil ?_
      refine tkN ?_
      refine hK14 _ _ ?_
      clear hK14
      refine WC.ret ?_
      refine tkR ?_
      clear hK11
      refine retV1 rfl (resV.tmp rfl) ?_
      refine ⟨congrArg Ending.returned ?_, hs4.nil⟩
      simp only [szR] at *; (repeat' split at *) <;> first | rfl | omega | (congr 1; omega)
    · have qh13 := h13
      try simp only [decide_eq_true_eq, decide_eq_false_iff_not, Bool.not_eq_true', Bool.not_eq_false', Bool.and_eq_true, Bool.or_eq_false_iff, within_iff, within_not] at qh13
      refine WC.skip ?_
      refine tkN ?_
      refine hK11 _ _ ?_
      clear hK11
      refine WC.seq (fun K15 hK15 => ?_)
      refine WC.region ?_
      refine WL.val rfl rfl rfl (Run.move rfl rfl) ?_
      refine WL.val rfl rfl rfl (Run.field Try.runUnderlying24 rfl rfl rfl Try.sizeOf9 rfl) ?_
      refine WL.val rfl rfl rfl (Run.loadL hs4 0 Try.isAgg9 rfl rfl rfl rfl) ?_
      refine WL.val rfl rfl rfl (Run.lenStr Try.runUnderlying9 rfl rfl) ?_
      refine WL.val rfl rfl rfl (Run.sub rfl rfl rfl ?_) ?_
      · constructor <;> omega
      refine WL.val rfl rfl rfl (Run.assign rfl rfl) ?_
      refine WL.nil ?_
      refine tkN ?_
      refine hK15 _ _ ?_
      clear hK15
      refine WC.seq (fun K16 hK16 => ?_)
      refine WC.seq (fun K17 hK17 => ?_)
      refine WC.region ?_
      refine WL.val rfl rfl rfl (Run.move rfl rfl) ?_
      refine WL.val rfl rfl rfl (Run.lss rfl rfl rfl) ?_
      refine WL.nil ?_
      refine tkN ?_
      refine hK17 _ _ ?_
      clear hK17
      refine WC.cond rfl (fun h18 => ?_) (fun h18 => ?_)
      · have qh18 := h18
        try simp only [decide_eq_true_eq, decide_eq_false_iff_not, Bool.not_eq_true', Bool.not_eq_false', Bool.and_eq_true, Bool.or_eq_false_iff, within_iff, within_not] at qh18
        refine WC.seq (fun K19 hK19 => ?_)
        refine WC.region ?_
        refine WL.val rfl rfl rfl (Run.assign rfl rfl) ?_
        refine WL.nil ?_
        refine tkN ?_
        refine hK19 _ _ ?_
        clear hK19
        refine WC.ret ?_
        refine tkR ?_
        clear hK16
        refine retV1 rfl (resV.tmp rfl) ?_
        refine ⟨congrArg Ending.returned ?_, hs4.nil⟩
        simp only [szR] at *; (repeat' split at *) <;> first | rfl | omega | (congr 1; omega)
      · have qh18 := h18
        try simp only [decide_eq_true_eq, decide_eq_false_iff_not, Bool.not_eq_true', Bool.not_eq_false', Bool.and_eq_true, Bool.or_eq_false_iff, within_iff, within_not] at qh18
        refine WC.skip ?_
        refine tkN ?_
        refine hK16 _ _ ?_
        clear hK16
        refine WC.seq (fun K20 hK20 => ?_)
        refine WC.region ?_
        refine WL.val rfl rfl rfl (Run.field Try.runUnderlying24 rfl rfl rfl Try.sizeOf22 rfl) ?_
        refine WL.val rfl rfl rfl (Run.loadL hs4 0 Try.isAgg22 rfl rfl rfl rfl) ?_
        refine WL.val rfl rfl rfl (Run.move rfl rfl) ?_
        refine WL.call rfl rfl rfl (Run.call Try.call44 rfl rfl rfl) (c_laws_szByteS _ _ _ _ _ ?_ ?_ ?_) ?_
        · first | assumption | omega
        · first | assumption | omega
        · first | assumption | omega
        rintro _ whs21 ⟨rfl, hs21⟩
        replace hs21 := hs4.call0 hs21
        refine ⟨_, rfl, ?_⟩
        refine WL.val rfl rfl rfl (Run.assign rfl rfl) ?_
        refine WL.nil ?_
        refine tkN ?_
        refine hK20 _ _ ?_
        clear hK20
        refine WC.seq (fun K22 hK22 => ?_)
        refine WC.seq (fun K23 hK23 => ?_)
        refine WC.region ?_
        refine WL.val rfl rfl rfl (Run.move rfl rfl) ?_
        refine WL.val rfl rfl rfl (Run.lss rfl rfl rfl) ?_
        refine WL.nil ?_
        refine tkN ?_
        refine hK23 _ _ ?_
        clear hK23
        refine WC.cond rfl (fun h24 => ?_) (fun h24 => ?_)
        · have qh24 := h24
          try simp only [decide_eq_true_eq, decide_eq_false_iff_not, Bool.not_eq_true', Bool.not_eq_false', Bool.and_eq_true, Bool.or_eq_false_iff, within_iff, within_not] at qh24
          refine WC.seq (fun K25 hK25 => ?_)
          refine WC.region ?_
          refine WL.val rfl rfl rfl (Run.assign rfl rfl) ?_
          refine WL.nil ?_
          refine tkN ?_
          refine hK25 _ _ ?_
          clear hK25
          refine WC.ret ?_
          refine tkR ?_
          clear hK22
          refine retV1 rfl (resV.tmp rfl) ?_
          refine ⟨congrArg Ending.returned ?_, hs21.nil⟩
          simp only [szR] at *; (repeat' split at *) <;> first | rfl | omega | (congr 1; omega)
        · have qh24 := h24
          try simp only [decide_eq_true_eq, decide_eq_false_iff_not, Bool.not_eq_true', Bool.not_eq_false', Bool.and_eq_true, Bool.or_eq_false_iff, within_iff, within_not] at qh24
          refine WC.skip ?_
          refine tkN ?_
          refine hK22 _ _ ?_
          clear hK22
          refine WC.seq (fun K26 hK26 => ?_)
          refine WC.region ?_
          refine WL.val rfl rfl rfl (Run.move rfl rfl) ?_
          refine WL.val rfl rfl rfl (Run.assign rfl rfl) ?_
          refine WL.nil ?_
          refine tkN ?_
          refine hK26 _ _ ?_
          clear hK26
          refine WC.ret ?_
          refine retV1 rfl (resV.tmp rfl) ?_
          refine ⟨congrArg Ending.returned ?_, hs21.nil⟩
          simp only [szR] at *; (repeat' split at *) <;> first | rfl | omega | (congr 1; omega)
end Go.Proofs.Ytpiimkfonlijdaa
