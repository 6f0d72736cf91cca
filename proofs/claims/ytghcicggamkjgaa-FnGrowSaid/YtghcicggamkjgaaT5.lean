/- Walks of Go functions, printed by a program (wip/gen). -/
import Derived.Test.YtghcicggamkjgaaT3
import Derived.Test.YtghcicggamkjgaaS1
namespace Go.Proofs.Ytghcicggamkjgaa
open Go Go.RowKit
set_option linter.unusedVariables false
set_option linter.unusedSimpArgs false
theorem c_impl_TreeOk (A_t : Option Addr) (n_t c_t : Nat) (t : List NodeD) (w : World) (f_t : SlF encNode w A_t n_t t) (hn : n_t ≤ 268435456) :
    Calls Try.prog 20 #[.slice A_t n_t c_t] w fun e w' => e = .returned (.bool (treeOk t)) ∧ St w [] [] w' := by
  have hl := f_t.len
  have hpl := panesL_len t
  have hsl := sortI_len (panesL t)
  refine enter (vs := [.slice A_t n_t c_t]) 25 Try.func20 rfl Try.ntmps20 rfl rfl ?_
  have hs1 := St.init w
  refine WC.seq (fun K2 hK2 => ?_)
  refine WC.region ?_
  refine WL.val rfl rfl rfl (Run.assign rfl rfl) ?_
  refine WL.nil ?_
  refine tkN ?_
  refine hK2 _ _ ?_
  clear hK2
  refine WC.seq (fun K3 hK3 => ?_)
  refine WC.seq (fun K4 hK4 => ?_)
  refine WC.region ?_
  refine WL.val rfl rfl rfl (Run.move rfl rfl) ?_
  refine WL.val rfl rfl rfl (Run.lenSl Try.runUnderlying25 rfl rfl) ?_
  refine WL.val rfl rfl rfl (Run.gtr rfl rfl rfl) ?_
  refine WL.val rfl rfl rfl (Run.move rfl rfl) ?_
  apply WL.meetOr 6 7 13 [(0, _), (2, _)] rfl hs1
  · intro g5 J6
    have qg5 := g5
    try simp only [decide_eq_true_eq, decide_eq_false_iff_not, Bool.not_eq_true', Bool.not_eq_false'] at qg5
    refine WL.val (wantF rfl g5) rfl rfl (Run.move rfl rfl) ?_
    refine WL.call (wantF rfl g5) rfl rfl (Run.call Try.call56 rfl rfl rfl) (c_impl_endOf _ _ _ _ _ _ (SlF.st0 f_t hs1) ?_) ?_
    · first | assumption | rfl | omega
    rintro _ whs7 ⟨rfl, hs7⟩
    replace hs7 := hs1.call0 hs7
    refine ⟨_, rfl, ?_⟩
    refine WL.val (wantF rfl g5) rfl rfl (Run.move rfl rfl) ?_
    refine WL.val (wantF rfl g5) rfl rfl (Run.lenSl Try.runUnderlying25 rfl rfl) ?_
    refine WL.val (wantF rfl g5) rfl rfl (Run.neq rfl rfl rfl) ?_
    refine WL.val rfl rfl rfl (Run.pickF rfl rfl g5 rfl) ?_
    exact WL.fin J6 hs7 rfl (orF g5) ⟨rfl, rfl, trivial⟩
  · intro g5 J6
    refine WL.skip (wantNF rfl g5) rfl rfl ?_
    refine WL.skip (wantNF rfl g5) rfl rfl ?_
    refine WL.skip (wantNF rfl g5) rfl rfl ?_
    refine WL.skip (wantNF rfl g5) rfl rfl ?_
    refine WL.skip (wantNF rfl g5) rfl rfl ?_
    refine WL.val rfl rfl rfl (Run.pickT rfl rfl g5 rfl) ?_
    exact WL.fin J6 hs1 rfl (orT g5) ⟨rfl, rfl, trivial⟩
  · intro whs8 hs8
    refine WL.nil ?_
    refine tkN ?_
    refine hK4 _ _ ?_
    clear hK4
    refine WC.cond rfl (fun h9 => ?_) (fun h9 => ?_)
    · have qh9 := h9
      try simp only [decide_eq_true_eq, decide_eq_false_iff_not, Bool.not_eq_true', Bool.not_eq_false', Bool.and_eq_true, Bool.or_eq_false_iff, within_iff, within_not] at qh9
      have hbad : treeOk t = false := by
        rw [← Bool.not_eq_true]; intro h_; simp only [treeOk, Bool.and_eq_true, decide_eq_true_eq] at h_; simp at qh9; omega
      refine WC.seq (fun K10 hK10 => ?_)
      refine WC.region ?_
      refine WL.val rfl rfl rfl (Run.assign rfl rfl) ?_
      refine WL.nil ?_
      refine tkN ?_
      refine hK10 _ _ ?_
      clear hK10
      refine WC.ret ?_
      refine tkR ?_
      clear hK3
      refine retV1 rfl (resV.tmp rfl) ?_
      exact ⟨congrArg Ending.returned (by rw [hbad]), hs8.nil⟩
    · have qh9 := h9
      try simp only [decide_eq_true_eq, decide_eq_false_iff_not, Bool.not_eq_true', Bool.not_eq_false', Bool.and_eq_true, Bool.or_eq_false_iff, within_iff, within_not] at qh9
      have hA : t.length ≤ 31 := by simp at qh9; omega
      have hB : endI t 0 = (t.length : Int) := by simp at qh9; omega
      refine WC.skip ?_
      refine tkN ?_
      refine hK3 _ _ ?_
      clear hK3
      refine WC.seq (fun K11 hK11 => ?_)
      refine WC.region ?_
      refine WL.val rfl rfl rfl (Run.move rfl rfl) ?_
      refine WL.call rfl rfl rfl (Run.call Try.call57 rfl rfl rfl) (c_impl_leaves _ _ _ _ _ (SlF.st0 f_t hs8) ?_) ?_
      · first | assumption | rfl | omega
      rintro _ whs12 ⟨A13, c14, L115, rfl, hs12, ho16⟩
      replace hs12 := hs8.callF hs12
      refine ⟨_, rfl, ?_⟩
      refine WL.val rfl rfl rfl (Run.assign rfl rfl) ?_
      refine WL.nil ?_
      refine tkN ?_
      refine hK11 _ _ ?_
      clear hK11
      refine WC.seq (fun K17 hK17 => ?_)
      refine WC.region ?_
      refine WL.val rfl rfl rfl (Run.move rfl rfl) ?_
      refine WL.call rfl rfl rfl (Run.call Try.call58 rfl rfl rfl) (c_slices_Sort _ _ _ _ ho16 (fun p_ hp_ => (hs12.own p_ (List.mem_append_left _ hp_)).1) ?_) ?_
      · omega
      rintro _ whs18 ⟨L119, rfl, hs18, ho20⟩
      replace hs18 := St.lend hs12 hs18
      refine ⟨_, rfl, ?_⟩
      refine WL.nil ?_
      refine tkN ?_
      refine hK17 _ _ ?_
      clear hK17
      refine WC.seq (fun K21 hK21 => ?_)
      refine WC.region ?_
      refine WL.val rfl rfl rfl (Run.move rfl rfl) ?_
      refine WL.call rfl rfl rfl (Run.call Try.call60 rfl rfl rfl) (c_slices_Clone_int_int _ _ _ _ _ (SlF.ofOwn ho20 (fun p_ hp_ => (hs18.own p_ (List.mem_append_left _ hp_)).1)) ?_) ?_
      · first | assumption | rfl | omega
      rintro _ whs22 ⟨A23, c24, L125, rfl, hs22, ho26⟩
      replace hs22 := hs18.callF hs22
      refine ⟨_, rfl, ?_⟩
      refine WL.call rfl rfl rfl (Run.call Try.call59 rfl rfl rfl) (c_slices_Compact_int_int _ _ _ _ ho26 (fun p_ hp_ => (hs22.own p_ (List.mem_append_left _ hp_)).1) ?_) ?_
      · first | assumption | rfl | omega
      rintro _ whs27 ⟨m28, A29, c30, rfl, hs27, hm31⟩
      replace hs27 := St.lend hs22 hs27
      refine ⟨_, rfl, ?_⟩
      rw [List.nil_append] at hs27
      refine WL.val rfl rfl rfl (Run.lenSl Try.runUnderlying31 rfl rfl) ?_
      refine WL.val rfl rfl rfl (Run.move rfl rfl) ?_
      refine WL.val rfl rfl rfl (Run.lenSl Try.runUnderlying31 rfl rfl) ?_
      refine WL.val rfl rfl rfl (Run.eql rfl rfl rfl) ?_
      refine WL.val rfl rfl rfl (Run.assign rfl rfl) ?_
      refine WL.nil ?_
      refine tkN ?_
      refine hK21 _ _ ?_
      clear hK21
      refine WC.ret ?_
      refine retV1 rfl (resV.tmp rfl) ?_
      refine ⟨congrArg Ending.returned (congrArg Value.bool ?_), hs27.nil⟩
      have hm_ := hm31
      rw [sortI_adj, sortI_len] at hm_
      rw [Bool.eq_iff_iff, decide_eq_true_eq]
      simp only [treeOk, hA, hB, decide_true, Bool.true_and, decide_eq_true_eq]
      rw [← hm_]
      try omega
theorem c_impl_Leaves (A_t : Option Addr) (n_t c_t : Nat) (t : List NodeD) (w : World) (f_t : SlF encNode w A_t n_t t) (hn : n_t ≤ 268435456) :
    Calls Try.prog 25 #[.slice A_t n_t c_t] w fun e w' => ∃ A c L1, e = .returned (.slice A (leavesL t).length c) ∧ St w [] L1 w' ∧ OwnF encI 3 (.slice A (leavesL t).length c) (leavesL t) L1 := by
  refine enter (vs := [.slice A_t n_t c_t]) 8 Try.func25 rfl Try.ntmps25 rfl rfl ?_
  have hs1 := St.init w
  refine WC.seq (fun K2 hK2 => ?_)
  refine WC.region ?_
  refine WL.val rfl rfl rfl (Run.assign rfl rfl) ?_
  refine WL.nil ?_
  refine tkN ?_
  refine hK2 _ _ ?_
  clear hK2
  refine WC.seq (fun K3 hK3 => ?_)
  refine WC.seq (fun K4 hK4 => ?_)
  refine WC.region ?_
  refine WL.val rfl rfl rfl (Run.move rfl rfl) ?_
  refine WL.call rfl rfl rfl (Run.call Try.call20 rfl rfl rfl) (c_impl_TreeOk _ _ _ _ _ (SlF.st0 f_t hs1) ?_) ?_
  · first | assumption | rfl | omega
  rintro _ whs5 ⟨rfl, hs5⟩
  replace hs5 := hs1.call0 hs5
  refine ⟨_, rfl, ?_⟩
  refine WL.val rfl rfl rfl (Run.not rfl rfl) ?_
  refine WL.nil ?_
  refine tkN ?_
  refine hK4 _ _ ?_
  clear hK4
  refine WC.cond rfl (fun h6 => ?_) (fun h6 => ?_)
  · have qh6 := h6
    try simp only [decide_eq_true_eq, decide_eq_false_iff_not, Bool.not_eq_true', Bool.not_eq_false', Bool.and_eq_true, Bool.or_eq_false_iff, within_iff, within_not] at qh6
    have hok : treeOk t = false := by simpa using qh6
    refine WC.seq (fun K7 hK7 => ?_)
    refine WC.region ?_
    refine WL.val rfl rfl rfl (Run.assign rfl rfl) ?_
    refine WL.nil ?_
    refine tkN ?_
    refine hK7 _ _ ?_
    clear hK7
    refine WC.ret ?_
    refine tkR ?_
    clear hK3
    refine retV1 rfl (resV.tmp rfl) ?_
    have hx_ := OwnF.eqOf (xs := leavesL t) (OwnF.nil encI 3) (by simp [leavesL, hok])
    rw [← hx_]
    exact ⟨_, _, _, rfl, hs5.nil, (OwnF.nil encI 3)⟩
  · have qh6 := h6
    try simp only [decide_eq_true_eq, decide_eq_false_iff_not, Bool.not_eq_true', Bool.not_eq_false', Bool.and_eq_true, Bool.or_eq_false_iff, within_iff, within_not] at qh6
    have hok : treeOk t = true := by simpa using qh6
    refine WC.skip ?_
    refine tkN ?_
    refine hK3 _ _ ?_
    clear hK3
    refine WC.seq (fun K8 hK8 => ?_)
    refine WC.region ?_
    refine WL.val rfl rfl rfl (Run.move rfl rfl) ?_
    refine WL.call rfl rfl rfl (Run.call Try.call57 rfl rfl rfl) (c_impl_leaves _ _ _ _ _ (SlF.st0 f_t hs5) ?_) ?_
    · first | assumption | rfl | omega
    rintro _ whs9 ⟨A10, c11, L112, rfl, hs9, ho13⟩
    replace hs9 := hs5.callF hs9
    refine ⟨_, rfl, ?_⟩
    refine WL.val rfl rfl rfl (Run.assign rfl rfl) ?_
    refine WL.nil ?_
    refine tkN ?_
    refine hK8 _ _ ?_
    clear hK8
    refine WC.ret ?_
    refine retV1 rfl (resV.tmp rfl) ?_
    have hx_ := OwnF.eqOf (xs := leavesL t) ho13 (by simp [leavesL, hok])
    rw [← hx_]
    first | exact ⟨_, _, _, rfl, (St.keep1 hs9), ho13⟩ | exact ⟨A10, c11, _, by rw [OwnF.len_ ho13], (St.keep1 hs9), by rw [OwnF.len_ ho13]; exact ho13⟩
theorem c_impl_After (A_t : Option Addr) (n_t c_t : Nat) (t : List NodeD) (p : Int) (w : World) (f_t : SlF encNode w A_t n_t t) (hn : n_t ≤ 268435456) :
    Calls Try.prog 23 #[.slice A_t n_t c_t, i64 p] w fun e w' => e = .returned (.int .i64 (afterL t p)) ∧ St w [] [] w' := by
  have hll := leavesL_len t
  have hfl := findI_lt (p := fun z => decide (p = z)) (xs := leavesL t)
  refine enter (vs := [.slice A_t n_t c_t, i64 p]) 22 Try.func23 rfl Try.ntmps23 rfl rfl ?_
  have hs1 := St.init w
  refine WC.seq (fun K2 hK2 => ?_)
  refine WC.region ?_
  refine WL.val rfl rfl rfl (Run.assign rfl rfl) ?_
  refine WL.nil ?_
  refine tkN ?_
  refine hK2 _ _ ?_
  clear hK2
  refine WC.seq (fun K3 hK3 => ?_)
  refine WC.region ?_
  refine WL.val rfl rfl rfl (Run.move rfl rfl) ?_
  refine WL.call rfl rfl rfl (Run.call Try.call25 rfl rfl rfl) (c_impl_Leaves _ _ _ _ _ (SlF.st0 f_t hs1) ?_) ?_
  · first | assumption | rfl | omega
  rintro _ whs4 ⟨A5, c6, L17, rfl, hs4, ho8⟩
  replace hs4 := hs1.callF hs4
  refine ⟨_, rfl, ?_⟩
  refine WL.val rfl rfl rfl (Run.assign rfl rfl) ?_
  refine WL.nil ?_
  refine tkN ?_
  refine hK3 _ _ ?_
  clear hK3
  refine WC.seq (fun K9 hK9 => ?_)
  refine WC.region ?_
  refine WL.val rfl rfl rfl (Run.move rfl rfl) ?_
  refine WL.val rfl rfl rfl (Run.move rfl rfl) ?_
  refine WL.call rfl rfl rfl (Run.call Try.call62 rfl rfl rfl) (c_slices_Index_int_int _ _ _ _ _ _ (SlF.ofOwn ho8 (fun p_ hp_ => (hs4.own p_ (List.mem_append_left _ hp_)).1)) ?_) ?_
  · first | assumption | rfl | omega
  rintro _ whs10 ⟨rfl, hs10⟩
  replace hs10 := hs4.call0 hs10
  refine ⟨_, rfl, ?_⟩
  refine WL.val rfl rfl rfl (Run.assign rfl rfl) ?_
  refine WL.nil ?_
  refine tkN ?_
  refine hK9 _ _ ?_
  clear hK9
  refine WC.seq (fun K11 hK11 => ?_)
  refine WC.seq (fun K12 hK12 => ?_)
  refine WC.region ?_
  refine WL.val rfl rfl rfl (Run.move rfl rfl) ?_
  refine WL.val rfl rfl rfl (Run.lss rfl rfl rfl) ?_
  refine WL.nil ?_
  refine tkN ?_
  refine hK12 _ _ ?_
  clear hK12
  refine WC.cond rfl (fun h13 => ?_) (fun h13 => ?_)
  · have qh13 := h13
    try simp only [decide_eq_true_eq, decide_eq_false_iff_not, Bool.not_eq_true', Bool.not_eq_false', Bool.and_eq_true, Bool.or_eq_false_iff, within_iff, within_not] at qh13
    refine WC.seq (fun K14 hK14 => ?_)
    refine WC.region ?_
    refine WL.val rfl rfl rfl (Run.assign rfl rfl) ?_
    refine WL.nil ?_
    refine tkN ?_
    refine hK14 _ _ ?_
    clear hK14
    refine WC.ret ?_
    refine tkR ?_
    clear hK11
    refine retV1 rfl (resV.tmp rfl) ?_
    refine ⟨congrArg Ending.returned ?_, hs10.nil⟩
    rw [afterL, if_pos qh13]
  · have qh13 := h13
    try simp only [decide_eq_true_eq, decide_eq_false_iff_not, Bool.not_eq_true', Bool.not_eq_false', Bool.and_eq_true, Bool.or_eq_false_iff, within_iff, within_not] at qh13
    have hm1 := Int.emod_nonneg (findI (fun z => decide (p = z)) (leavesL t) + 1) (b := ((leavesL t).length : Int)) (by omega)
    have hm2 := Int.emod_lt_of_pos (findI (fun z => decide (p = z)) (leavesL t) + 1) (b := ((leavesL t).length : Int)) (by omega)
    refine WC.skip ?_
    refine tkN ?_
    refine hK11 _ _ ?_
    clear hK11
    refine WC.seq (fun K15 hK15 => ?_)
    refine WC.region ?_
    refine WL.val rfl rfl rfl (Run.move rfl rfl) ?_
    refine WL.val rfl rfl rfl (Run.move rfl rfl) ?_
    refine WL.val rfl rfl rfl (Run.add rfl rfl rfl ?_) ?_
    · constructor <;> omega
    refine WL.val rfl rfl rfl (Run.move rfl rfl) ?_
    refine WL.val rfl rfl rfl (Run.lenSl Try.runUnderlying31 rfl rfl) ?_
    refine WL.val rfl rfl rfl (Run.rem rfl rfl rfl ?_ ?_) ?_
    · omega
    · omega
    refine WL.val rfl rfl rfl (Run.idx Try.runUnderlying31 Try.sizeOf3 rfl rfl rfl ?_ ?_ ?_) ?_
    · exact SlF.some_ (SlF.ofOwn ho8 (fun p_ hp_ => (hs10.own p_ (List.mem_append_left _ hp_)).1))
    · omega
    · omega
    refine WL.val rfl rfl rfl (Run.load Try.isAgg3 rfl rfl (SlF.one1 (SlF.ofOwn ho8 (fun p_ hp_ => (hs10.own p_ (List.mem_append_left _ hp_)).1)) ?_ rfl)) ?_
    · omega
    refine WL.val rfl rfl rfl (Run.assign rfl rfl) ?_
    refine WL.nil ?_
    refine tkN ?_
    refine hK15 _ _ ?_
    clear hK15
    refine WC.ret ?_
    refine retV1 rfl (resV.tmp rfl) ?_
    refine ⟨congrArg Ending.returned ?_, hs10.nil⟩
    rw [afterL, if_neg qh13]
end Go.Proofs.Ytghcicggamkjgaa
