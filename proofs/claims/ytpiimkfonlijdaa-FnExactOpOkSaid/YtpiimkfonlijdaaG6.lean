/- Walks of Go functions, printed by a program (wip/gen). -/
import Derived.Test.YtpiimkfonlijdaaG4
import Derived.Test.YtpiimkfonlijdaaG5
namespace Go.Proofs.Ytpiimkfonlijdaa
open Go Go.RowKit
set_option linter.unusedVariables false
set_option linter.unusedSimpArgs false
set_option maxHeartbeats 4000000 in
theorem c_laws_FnExactOpOk (k a b c : Int) (nm tx dr : ByteArray) (A : Option Addr) (n cp : Nat) (xs : List UInt8) (w : World) (hA : SlB w A n xs) (h3 : nm.size ≤ 9223372036854775807) (h4 : tx.size ≤ 9223372036854775807) (h5 : dr.size ≤ 9223372036854775807) (h6 : n ≤ 9223372036854775807) :
    Calls Try.prog 3 #[.agg #[i64 k, i64 a, i64 b, i64 c, .string nm, .string tx, .string dr, .slice A n cp]] w fun e w' => e = .returned (.bool true) ∧ St w [] [] w' := by
  have hl := hA.len
  refine enter (vs := [.agg #[i64 k, i64 a, i64 b, i64 c, .string nm, .string tx, .string dr, .slice A n cp]]) 27 Try.func3 rfl Try.ntmps3 rfl rfl ?_
  have hs1 := St.init w
  refine WC.seq (fun K2 hK2 => ?_)
  refine WC.region ?_
  refine WL.box hs1 rfl rfl rfl rfl rfl rfl (fun b3 whs4 hs4 => ?_)
  refine WL.val rfl rfl rfl (Run.assign rfl rfl) ?_
  refine WL.nil ?_
  refine tkN ?_
  refine hK2 _ _ ?_
  clear hK2
  refine WC.seq (fun K5 hK5 => ?_)
  refine WC.region ?_
  refine WL.val rfl rfl rfl (Run.assign rfl rfl) ?_
  refine WL.nil ?_
  refine tkN ?_
  refine hK5 _ _ ?_
  clear hK5
  refine WC.seq (fun K6 hK6 => ?_)
  refine WC.region ?_
  refine WL.val rfl rfl rfl (Run.loadLA hs4 0 Try.isAgg24 Try.sizeOf24 rfl rfl rfl rfl rfl) ?_
  refine WL.val rfl rfl rfl (Run.move rfl rfl) ?_
  refine WL.call rfl rfl rfl (Run.call Try.call10 rfl rfl rfl) (c_laws_szOp _ _ _ _ _ _ _ _ _ _ _ _ ?_ ?_ ?_ ?_ ?_ ?_) ?_
  · first | assumption | omega
  · first | assumption | omega
  · first | assumption | omega
  · first | assumption | omega
  · first | assumption | omega
  · first | assumption | omega
  rintro _ whs7 ⟨rfl, hs7⟩
  replace hs7 := hs4.call0 hs7
  refine ⟨_, rfl, ?_⟩
  refine WL.val rfl rfl rfl (Run.assign rfl rfl) ?_
  refine WL.nil ?_
  refine tkN ?_
  refine hK6 _ _ ?_
  clear hK6
  refine WC.seq (fun K8 hK8 => ?_)
  refine WC.seq (fun K9 hK9 => ?_)
  refine WC.region ?_
  refine WL.val rfl rfl rfl (Run.move rfl rfl) ?_
  refine WL.val rfl rfl rfl (Run.lss rfl rfl rfl) ?_
  refine WL.nil ?_
  refine tkN ?_
  refine hK9 _ _ ?_
  clear hK9
  refine WC.cond rfl (fun h10 => ?_) (fun h10 => ?_)
  · have qh10 := h10
    try simp only [decide_eq_true_eq, decide_eq_false_iff_not, Bool.not_eq_true', Bool.not_eq_false', Bool.and_eq_true, Bool.or_eq_false_iff, within_iff, within_not] at qh10
    refine WC.seq (fun K11 hK11 => ?_)
    refine WC.region ?_
    refine WL.val rfl rfl rfl (Run.assign rfl rfl) ?_
    refine WL.nil ?_
    refine tkN ?_
    refine hK11 _ _ ?_
    clear hK11
    refine WC.ret ?_
    refine tkR ?_
    clear hK8
    refine retV1 rfl (resV.tmp rfl) ?_
    refine ⟨congrArg Ending.returned ?_, hs7.nil⟩
    rfl
  · have qh10 := h10
    try simp only [decide_eq_true_eq, decide_eq_false_iff_not, Bool.not_eq_true', Bool.not_eq_false', Bool.and_eq_true, Bool.or_eq_false_iff, within_iff, within_not] at qh10
    simp only [szR] at qh10
    have hb : nm.size + tx.size + dr.size + n ≤ 1048576 := by split at qh10 <;> omega
    refine WC.skip ?_
    refine tkN ?_
    refine hK8 _ _ ?_
    clear hK8
    refine WC.seq (fun K12 hK12 => ?_)
    refine WC.region ?_
    refine WL.val rfl rfl rfl (Run.loadLA hs7 0 Try.isAgg24 Try.sizeOf24 rfl rfl rfl rfl rfl) ?_
    refine WL.call rfl rfl rfl (Run.call Try.call12 rfl rfl rfl) (c_laws_toOp _ _ _ _ _ _ _ _ _ _ xs _ (hA.st0 hs7) (by omega)) ?_
    rintro _ whs13 ⟨b14, rfl, hs13⟩
    replace hs13 := hs7.callF hs13
    refine ⟨_, rfl, ?_⟩
    refine WL.call rfl rfl rfl (Run.call Try.call11 rfl rfl rfl) (c_spec_OpOk _ _ _ _ _ _ _ _ _ _ _ (by omega)) ?_
    rintro _ whs15 ⟨rfl, hs15⟩
    replace hs15 := hs13.call0 hs15
    refine ⟨_, rfl, ?_⟩
    refine WL.val rfl rfl rfl (Run.assign rfl rfl) ?_
    refine WL.nil ?_
    refine tkN ?_
    refine hK12 _ _ ?_
    clear hK12
    refine WC.seq (fun K16 hK16 => ?_)
    refine WC.region ?_
    refine WL.val rfl rfl rfl (Run.loadLA hs15 1 Try.isAgg24 Try.sizeOf24 rfl rfl rfl rfl rfl) ?_
    refine WL.call rfl rfl rfl (Run.call Try.call12 rfl rfl rfl) (c_laws_toOp _ _ _ _ _ _ _ _ _ _ xs _ (hA.st0 hs15) (by omega)) ?_
    rintro _ whs17 ⟨b18, rfl, hs17⟩
    replace hs17 := hs15.callF hs17
    refine ⟨_, rfl, ?_⟩
    refine WL.alloc hs17 Try.zeroValue27 rfl rfl rfl rfl rfl (fun b19 whs20 hs20 => ?_)
    refine WL.storeA hs20 0 Try.sizeOf27 rfl rfl rfl rfl rfl rfl rfl rfl rfl (Nat.le_of_ble_eq_true rfl) (.inl (Nat.le_of_ble_eq_true rfl)) (fun whs21 hs21 => ?_)
    refine WL.nil ?_
    refine tkN ?_
    refine hK16 _ _ ?_
    clear hK16
    refine WC.seq (fun K22 hK22 => ?_)
    refine WC.region ?_
    refine WL.val rfl rfl rfl (Run.loadLA hs21 0 Try.isAgg27 Try.sizeOf27 rfl rfl rfl rfl rfl) ?_
    refine WL.call rfl rfl rfl (Run.call Try.call13 rfl rfl rfl) (c_impl_OpOk _ _ _ _ _ _ _ _ _ _ _ (by omega)) ?_
    rintro _ whs23 ⟨rfl, hs23⟩
    replace hs23 := hs21.call0 hs23
    refine ⟨_, rfl, ?_⟩
    refine WL.val rfl rfl rfl (Run.assign rfl rfl) ?_
    refine WL.nil ?_
    refine tkN ?_
    refine hK22 _ _ ?_
    clear hK22
    refine WC.seq (fun K24 hK24 => ?_)
    refine WC.seq (fun K25 hK25 => ?_)
    refine WC.region ?_
    refine WL.val rfl rfl rfl (Run.move rfl rfl) ?_
    refine WL.val rfl rfl rfl (Run.move rfl rfl) ?_
    refine WL.val rfl rfl rfl (Run.neqB Try.runUnderlying4 rfl rfl rfl) ?_
    refine WL.nil ?_
    refine tkN ?_
    refine hK25 _ _ ?_
    clear hK25
    refine WC.condF rfl (by simp) ?_
    refine WC.skip ?_
    refine tkN ?_
    refine hK24 _ _ ?_
    clear hK24
    refine WC.seq (fun K27 hK27 => ?_)
    refine WC.seq (fun K28 hK28 => ?_)
    refine WC.regionH (fun w' => St _ _ _ w') mixed hs23.drew (fun whs29 hs29 => ?_)
    replace hs29 : St _ _ _ _ := hs29
    refine WH.take 0 rfl (by kernel_rfl) rfl rfl rfl hs29 (fun w_ hs_ => (Run.loadLA (hs_ : St _ _ _ _) 0 Try.isAgg27 Try.sizeOf27 rfl rfl rfl rfl rfl)) ?_
    refine WH.take 1 rfl (by kernel_rfl) rfl rfl rfl hs29 (fun w_ hs_ => (Run.loadLA (hs_ : St _ _ _ _) 3 Try.isAgg24 Try.sizeOf24 rfl rfl rfl rfl rfl)) ?_
    refine WH.all [2] (by kernel_rfl) rfl (WHs.cons (i := 2) rfl ?_ WHs.nil)
    refine WL.call rfl rfl rfl (Run.call Try.call12 rfl rfl rfl) (c_laws_toOp _ _ _ _ _ _ _ _ _ _ xs _ (hA.st0 hs29) (by omega)) ?_
    rintro _ whs30 ⟨b31, rfl, hs30⟩
    replace hs30 := hs29.callF hs30
    refine ⟨_, rfl, ?_⟩
    refine WL.nil ⟨(hs30.drop (by repeat (first | exact List.Sublist.refl _ | exact List.sublist_append_left _ _ | exact List.Sublist.trans (List.sublist_append_left _ _) (List.sublist_append_left _ _) | apply List.Sublist.cons))), ?_⟩
    refine WH.all [3] (by kernel_rfl) rfl (WHs.cons (i := 3) rfl ?_ WHs.nil)
    refine WL.call rfl rfl rfl (Run.call Try.call14 rfl rfl rfl) (c_laws_eqOp _ _ _ _ _ _ _ _ _ _ _ _ xs _ (SlB.ownN hA.len (hs30.own _ (nthL_mem (i := 2) rfl)).1) (SlB.ownN hA.len (hs30.own _ (nthL_mem (i := 0) rfl)).1) (by omega)) ?_
    rintro _ whs32 ⟨rfl, hs32⟩
    replace hs32 := hs30.call0 hs32
    refine ⟨_, rfl, ?_⟩
    refine WL.nil ⟨(hs32.drop (by repeat (first | exact List.Sublist.refl _ | exact List.sublist_append_left _ _ | exact List.Sublist.trans (List.sublist_append_left _ _) (List.sublist_append_left _ _) | apply List.Sublist.cons))), ?_⟩
    refine WH.take 4 rfl (by kernel_rfl) rfl rfl rfl (hs32.drop (by repeat (first | exact List.Sublist.refl _ | exact List.sublist_append_left _ _ | exact List.Sublist.trans (List.sublist_append_left _ _) (List.sublist_append_left _ _) | apply List.Sublist.cons))) (fun w_ hs_ => (Run.not rfl rfl)) ?_
    refine WH.done (by kernel_rfl) ?_
    refine tkN ?_
    refine hK28 _ _ ?_
    clear hK28
    refine WC.condF rfl (by simp) ?_
    refine WC.skip ?_
    refine tkN ?_
    refine hK27 _ _ ?_
    clear hK27
    refine WC.seq (fun K34 hK34 => ?_)
    refine WC.region ?_
    refine WL.val rfl rfl rfl (Run.assign rfl rfl) ?_
    refine WL.nil ?_
    refine tkN ?_
    refine hK34 _ _ ?_
    clear hK34
    refine WC.ret ?_
    refine retV1 rfl (resV.tmp rfl) ?_
    refine ⟨congrArg Ending.returned ?_, hs32.nil⟩
    rfl
end Go.Proofs.Ytpiimkfonlijdaa
