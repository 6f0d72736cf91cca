/- Walks of Go functions, printed by a program (wip/gen). -/
import Derived.Test.YtghcicggamkjgaaT2
namespace Go.Proofs.Ytghcicggamkjgaa
open Go Go.RowKit
set_option linter.unusedVariables false
set_option linter.unusedSimpArgs false
theorem c_spec_Leaves (A_t : Option Addr) (n_t c_t : Nat) (t : List NodeD) (w : World) (f_t : SlF encNode w A_t n_t t) (hn : n_t ≤ 268435456) :
    Calls Try.prog 24 #[.slice A_t n_t c_t] w fun e w' => ∃ A c L1, e = .returned (.slice A (leavesL t).length c) ∧ St w [] L1 w' ∧ OwnF encI 3 (.slice A (leavesL t).length c) (leavesL t) L1 := by
  have hl := f_t.len
  refine enter (vs := [.slice A_t n_t c_t]) 27 Try.func24 rfl Try.ntmps24 rfl rfl ?_
  have hs1 := St.init w
  refine WC.seq (fun K2 hK2 => ?_)
  refine WC.region ?_
  refine WL.val rfl rfl rfl (Run.assign rfl rfl) ?_
  refine WL.nil ?_
  refine tkN ?_
  refine hK2 _ _ ?_
  clear hK2
  refine WC.seq (fun K3 hK3 => ?_)
  refine WC.region ?_
  refine WL.buildF (F := encI) hs1 ([]) Try.runUnderlying31 Try.sizeOf3 Try.zeroValue3 rfl rfl rfl rfl rfl rfl rfl rfl rfl rfl rfl rfl (fun A7 c8 L4 whs5 hs5 ho6 => ?_)
  refine WL.val rfl rfl rfl (Run.assign rfl rfl) ?_
  refine WL.nil ?_
  refine tkN ?_
  refine hK3 _ _ ?_
  clear hK3
  refine WC.seq (fun K9 hK9 => ?_)
  refine WC.seq (fun K10 hK10 => ?_)
  refine WC.region ?_
  refine WL.val rfl rfl rfl (Run.move rfl rfl) ?_
  refine WL.call rfl rfl rfl (Run.call Try.call18 rfl rfl rfl) (c_spec_TreeOk _ _ _ _ _ (SlF.st0 f_t hs5) ?_) ?_
  · first | assumption | rfl | omega
  rintro _ whs11 ⟨rfl, hs11⟩
  replace hs11 := hs5.call0 hs11
  refine ⟨_, rfl, ?_⟩
  refine WL.val rfl rfl rfl (Run.not rfl rfl) ?_
  refine WL.nil ?_
  refine tkN ?_
  refine hK10 _ _ ?_
  clear hK10
  refine WC.cond rfl (fun h12 => ?_) (fun h12 => ?_)
  · have qh12 := h12
    try simp only [decide_eq_true_eq, decide_eq_false_iff_not, Bool.not_eq_true', Bool.not_eq_false', Bool.and_eq_true, Bool.or_eq_false_iff, within_iff, within_not] at qh12
    have hok : treeOk t = false := by simpa using qh12
    refine WC.seq (fun K13 hK13 => ?_)
    refine WC.region ?_
    refine WL.val rfl rfl rfl (Run.move rfl rfl) ?_
    refine WL.val rfl rfl rfl (Run.assign rfl rfl) ?_
    refine WL.nil ?_
    refine tkN ?_
    refine hK13 _ _ ?_
    clear hK13
    refine WC.ret ?_
    refine tkR ?_
    clear hK9
    refine retV1 rfl (resV.tmp rfl) ?_
    have hx_ := OwnF.eqOf (xs := leavesL t) ho6 (by simp [leavesL, hok])
    rw [← hx_]
    first | exact ⟨_, _, _, rfl, (St.keep1 hs11), ho6⟩ | exact ⟨A7, c8, _, by rw [OwnF.len_ ho6], (St.keep1 hs11), by rw [OwnF.len_ ho6]; exact ho6⟩
  · have qh12 := h12
    try simp only [decide_eq_true_eq, decide_eq_false_iff_not, Bool.not_eq_true', Bool.not_eq_false', Bool.and_eq_true, Bool.or_eq_false_iff, within_iff, within_not] at qh12
    have hok : treeOk t = true := by simpa using qh12
    refine WC.skip ?_
    refine tkN ?_
    refine hK9 _ _ ?_
    clear hK9
    refine WC.seq (fun K14 hK14 => ?_)
    refine WC.seq (fun K15 hK15 => ?_)
    refine WC.region ?_
    refine WL.val rfl rfl rfl (Run.move rfl rfl) ?_
    refine WL.val rfl rfl rfl (Run.lenSl Try.runUnderlying25 rfl rfl) ?_
    refine WL.val rfl rfl rfl (Run.move rfl rfl) ?_
    refine WL.nil ?_
    refine tkN ?_
    refine hK15 _ _ ?_
    clear hK15
    refine WC.block ?_
    refine WC.loopO [(0, _), (2, _), (6, _), (7, _), (8, _), (9, _), (11, _), (12, _)] ⟨rfl, rfl, rfl, rfl, rfl, rfl, rfl, rfl, trivial⟩ hs11 (fun k_ f L_ => ∃ (zs : List Int) (i : Nat) (A16 : Option Addr) (c17 : Nat), k_ = n_t - i ∧ (i ≤ n_t) ∧ (zs = panesL (t.take i)) ∧ OwnF encI 3 (.slice A16 (zs.length) c17) (zs) L_ ∧ Sub [(3, .slice A16 (zs.length) c17), (13, .int .i64 i)] f) (((fun (zs : List Int) (i : Nat) => n_t - i) ([]) (0))) ?_ ?_
    · refine ⟨[], 0, _, _, rfl, ?_, ?_, ho6, ⟨rfl, rfl, trivial⟩⟩
      · exact Nat.zero_le _
      · simp [panesL]
    · clear hs11
      rintro _ f w L18 ⟨zs, i, A16, c17, rfl, p0, p1, ho19, hG⟩ hF hs20
      refine WC.sub _ (hG.app hF) ?_
      clear hG hF
      have hzl : zs.length ≤ n_t := by rw [p1]; have := panesL_len (t.take i); rw [List.length_take] at this; omega
      refine WC.seq (fun K21 hK21 => ?_)
      refine WC.region ?_
      refine WL.val rfl rfl rfl (Run.lss rfl rfl rfl) ?_
      refine WL.nil ?_
      refine tkN ?_
      refine hK21 _ _ ?_
      clear hK21
      refine WC.seq (fun K22 hK22 => ?_)
      refine WC.cond rfl (fun h23 => ?_) (fun h23 => ?_)
      · have qh23 := h23
        try simp only [decide_eq_true_eq, decide_eq_false_iff_not, Bool.not_eq_true', Bool.not_eq_false', Bool.and_eq_true, Bool.or_eq_false_iff, within_iff, within_not] at qh23
        refine WC.skip ?_
        refine tkN ?_
        refine hK22 _ _ ?_
        clear hK22
        refine WC.seq (fun K24 hK24 => ?_)
        refine WC.block ?_
        refine WC.seq (fun K25 hK25 => ?_)
        refine WC.region ?_
        refine WL.val rfl rfl rfl (Run.idxN Try.runUnderlying25 Try.sizeOf62 rfl rfl rfl ?_ ?_ ?_) ?_
        · exact SlF.some_ (SlF.st0 f_t hs20)
        · omega
        · omega
        refine WL.val rfl rfl rfl (Run.loadA Try.isAgg62 Try.sizeOf62 rfl rfl (SlF.whole (SlF.st0 f_t hs20) ?_)) ?_
        · omega
        refine WL.alloc hs20 Try.zeroValue62 rfl rfl rfl rfl rfl (fun b26 whs27 hs27 => ?_)
        refine WL.storeA hs27 0 Try.sizeOf62 rfl rfl rfl rfl rfl rfl rfl rfl rfl (Nat.le_of_ble_eq_true rfl) (.inl (Nat.le_of_ble_eq_true rfl)) (fun whs28 hs28 => ?_)
        refine WL.nil ?_
        refine tkN ?_
        refine hK25 _ _ ?_
        clear hK25
        refine WC.seq (fun K29 hK29 => ?_)
        refine WC.region ?_
        refine WL.val rfl rfl rfl (Run.field Try.runUnderlying62 rfl rfl rfl Try.sizeOf3 rfl) ?_
        refine WL.val rfl rfl rfl (Run.loadL hs28 0 Try.isAgg3 rfl rfl rfl rfl) ?_
        refine WL.val rfl rfl rfl (Run.gtr rfl rfl rfl) ?_
        refine WL.nil ?_
        refine tkN ?_
        refine hK29 _ _ ?_
        clear hK29
        refine WC.cond rfl (fun h30 => ?_) (fun h30 => ?_)
        · have qh30 := h30
          try simp only [decide_eq_true_eq, decide_eq_false_iff_not, Bool.not_eq_true', Bool.not_eq_false', Bool.and_eq_true, Bool.or_eq_false_iff, within_iff, within_not] at qh30
          have hp : (gat encNode t i).Pane ≠ 0 := by (try simp at qh30); omega
          refine WC.region ?_
          refine WL.val rfl rfl rfl (Run.move rfl rfl) ?_
          refine WL.val rfl rfl rfl (Run.field Try.runUnderlying62 rfl rfl rfl Try.sizeOf3 rfl) ?_
          refine WL.val rfl rfl rfl (Run.loadL hs28 0 Try.isAgg3 rfl rfl rfl rfl) ?_
          refine WL.buildSlice hs28 Try.runUnderlying31 Try.sizeOf3 Try.zeroValue3 rfl rfl rfl rfl rfl rfl rfl rfl rfl rfl (fun b31 whs32 hs32 => ?_)
          refine WL.appendG (St.perm hs32 (L' := L18 ++ _) (perm_front (A := [_, _]) (List.Perm.refl _))) ho19 (srcI1 Try.underlying31 (hs32.own _ (nthL_mem (i := 0) rfl)).1) Try.underlying31 info_3 rfl rfl rfl rfl rfl rfl rfl rfl rfl rfl ?_ (fun A36 c37 L33 whs34 hs34 ho35 => ?_)
          · simp; omega
          replace hs34 := St.back [_, _] hs34
          refine WL.val rfl rfl rfl (Run.assign rfl rfl) ?_
          refine WL.nil ?_
          refine ibN ?_
          refine tkN ?_
          refine hK24 _ _ ?_
          clear hK24
          refine WC.region ?_
          refine WL.val rfl rfl rfl (Run.add rfl rfl rfl ?_) ?_
          · constructor <;> omega
          refine WL.val rfl rfl rfl (Run.move rfl rfl) ?_
          refine WL.nil ?_
          refine tkN ?_
          replace hs34 := St.drop hs34 (List.sublist_append_right [_, _] _)
          refine ⟨⟨rfl, rfl, rfl, rfl, rfl, rfl, rfl, rfl, trivial⟩, _, hs34, _, ?_, _, i + 1, _, _, rfl, ?_, ?_, ho35, ⟨rfl, rfl, trivial⟩⟩
          · omega
          · omega
          · rw [panesL_take (by omega), p1]; first | (rw [if_pos hp]) | (rw [if_neg (by simpa using hp), List.append_nil])
        · have qh30 := h30
          try simp only [decide_eq_true_eq, decide_eq_false_iff_not, Bool.not_eq_true', Bool.not_eq_false', Bool.and_eq_true, Bool.or_eq_false_iff, within_iff, within_not] at qh30
          have hp : (gat encNode t i).Pane = 0 := by have := nodeOk_pane (treeOk_node hok (i := i) (by omega)); simp at qh30; omega
          refine WC.skip ?_
          refine ibN ?_
          refine tkN ?_
          refine hK24 _ _ ?_
          clear hK24
          refine WC.region ?_
          refine WL.val rfl rfl rfl (Run.add rfl rfl rfl ?_) ?_
          · constructor <;> omega
          refine WL.val rfl rfl rfl (Run.move rfl rfl) ?_
          refine WL.nil ?_
          refine tkN ?_
          replace hs28 := St.drop hs28 (List.sublist_append_right [_] _)
          refine ⟨⟨rfl, rfl, rfl, rfl, rfl, rfl, rfl, rfl, trivial⟩, _, hs28, _, ?_, _, i + 1, _, _, rfl, ?_, ?_, ho19, ⟨rfl, rfl, trivial⟩⟩
          · omega
          · omega
          · rw [panesL_take (by omega), p1]; first | (rw [if_pos hp]) | (rw [if_neg (by simpa using hp), List.append_nil])
      · have qh23 := h23
        try simp only [decide_eq_true_eq, decide_eq_false_iff_not, Bool.not_eq_true', Bool.not_eq_false', Bool.and_eq_true, Bool.or_eq_false_iff, within_iff, within_not] at qh23
        refine WC.exit ?_
        refine tkE ?_
        refine tkE ?_
        refine ibE ?_
        refine tkN ?_
        refine hK14 _ _ ?_
        clear hK14
        refine WC.seq (fun K38 hK38 => ?_)
        refine WC.region ?_
        refine WL.val rfl rfl rfl (Run.move rfl rfl) ?_
        refine WL.val rfl rfl rfl (Run.assign rfl rfl) ?_
        refine WL.nil ?_
        refine tkN ?_
        refine hK38 _ _ ?_
        clear hK38
        refine WC.ret ?_
        refine retV1 rfl (resV.tmp rfl) ?_
        have hx_ := OwnF.eqOf (xs := leavesL t) ho19 (by simp only [leavesL, hok, if_true]; rw [p1, List.take_of_length_le (by omega)])
        rw [← hx_]
        first | exact ⟨_, _, _, rfl, (St.keep1 hs20), ho19⟩ | exact ⟨A16, c17, _, by rw [OwnF.len_ ho19], (St.keep1 hs20), by rw [OwnF.len_ ho19]; exact ho19⟩
theorem c_spec_After (A_t : Option Addr) (n_t c_t : Nat) (t : List NodeD) (p : Int) (w : World) (f_t : SlF encNode w A_t n_t t) (hn : n_t ≤ 268435456) :
    Calls Try.prog 22 #[.slice A_t n_t c_t, i64 p] w fun e w' => e = .returned (.int .i64 (afterL t p)) ∧ St w [] [] w' := by
  have hll := leavesL_len t
  refine enter (vs := [.slice A_t n_t c_t, i64 p]) 29 Try.func22 rfl Try.ntmps22 rfl rfl ?_
  have hs1 := St.init w
  refine WC.seq (fun K2 hK2 => ?_)
  refine WC.region ?_
  refine WL.val rfl rfl rfl (Run.assign rfl rfl) ?_
  refine WL.nil ?_
  refine tkN ?_
  refine hK2 _ _ ?_
  clear hK2
  refine WC.seq (fun K3 hK3 => ?_)
  refine WC.region ?_
  refine WL.val rfl rfl rfl (Run.move rfl rfl) ?_
  refine WL.call rfl rfl rfl (Run.call Try.call24 rfl rfl rfl) (c_spec_Leaves _ _ _ _ _ (SlF.st0 f_t hs1) ?_) ?_
  · first | assumption | rfl | omega
  rintro _ whs4 ⟨A5, c6, L17, rfl, hs4, ho8⟩
  replace hs4 := hs1.callF hs4
  refine ⟨_, rfl, ?_⟩
  refine WL.val rfl rfl rfl (Run.assign rfl rfl) ?_
  refine WL.nil ?_
  refine tkN ?_
  refine hK3 _ _ ?_
  clear hK3
  refine WC.seq (fun K9 hK9 => ?_)
  refine WC.seq (fun K10 hK10 => ?_)
  refine WC.region ?_
  refine WL.val rfl rfl rfl (Run.move rfl rfl) ?_
  refine WL.val rfl rfl rfl (Run.lenSl Try.runUnderlying31 rfl rfl) ?_
  refine WL.val rfl rfl rfl (Run.move rfl rfl) ?_
  refine WL.nil ?_
  refine tkN ?_
  refine hK10 _ _ ?_
  clear hK10
  refine WC.block ?_
  refine WC.loopS [(0, _), (1, _), (5, _), (8, _), (9, _), (10, _), (11, _)] ⟨rfl, rfl, rfl, rfl, rfl, rfl, rfl, trivial⟩ hs4 (fun k_ f w' => ∃ (i : Nat), k_ = (leavesL t).length - i ∧ (i ≤ (leavesL t).length) ∧ (∀ j, j < i → (fun z => decide (p = z)) (iat (leavesL t) j) = false) ∧ Sub [(12, .int .i64 i)] f) ((fun (i : Nat) => (leavesL t).length - i) (0)) ?_ ?_
  · refine ⟨0, rfl, ?_, ?_, ⟨rfl, trivial⟩⟩
    · exact Nat.zero_le _
    · exact fun j hj => absurd hj (by omega)
  · clear hs4
    rintro _ f w ⟨i, rfl, p0, p1, hG⟩ hF hs11
    refine WC.sub _ (hG.app hF) ?_
    clear hG hF
    refine WC.seq (fun K12 hK12 => ?_)
    refine WC.region ?_
    refine WL.val rfl rfl rfl (Run.lss rfl rfl rfl) ?_
    refine WL.nil ?_
    refine tkN ?_
    refine hK12 _ _ ?_
    clear hK12
    refine WC.seq (fun K13 hK13 => ?_)
    refine WC.cond rfl (fun h14 => ?_) (fun h14 => ?_)
    · have qh14 := h14
      try simp only [decide_eq_true_eq, decide_eq_false_iff_not, Bool.not_eq_true', Bool.not_eq_false', Bool.and_eq_true, Bool.or_eq_false_iff, within_iff, within_not] at qh14
      refine WC.skip ?_
      refine tkN ?_
      refine hK13 _ _ ?_
      clear hK13
      refine WC.seq (fun K15 hK15 => ?_)
      refine WC.block ?_
      refine WC.seq (fun K16 hK16 => ?_)
      refine WC.region ?_
      refine WL.val rfl rfl rfl (Run.move rfl rfl) ?_
      refine WL.val rfl rfl rfl (Run.idxN Try.runUnderlying31 Try.sizeOf3 rfl rfl rfl ?_ ?_ ?_) ?_
      · exact SlF.some_ (SlF.ofOwn ho8 (fun p_ hp_ => (hs11.own p_ (List.mem_append_left _ hp_)).1))
      · omega
      · omega
      refine WL.val rfl rfl rfl (Run.load Try.isAgg3 rfl rfl (SlF.one1 (SlF.ofOwn ho8 (fun p_ hp_ => (hs11.own p_ (List.mem_append_left _ hp_)).1)) ?_ rfl)) ?_
      · omega
      refine WL.val rfl rfl rfl (Run.assign rfl rfl) ?_
      refine WL.val rfl rfl rfl (Run.assign rfl rfl) ?_
      refine WL.nil ?_
      refine tkN ?_
      refine hK16 _ _ ?_
      clear hK16
      refine WC.seq (fun K17 hK17 => ?_)
      refine WC.region ?_
      refine WL.val rfl rfl rfl (Run.move rfl rfl) ?_
      refine WL.val rfl rfl rfl (Run.move rfl rfl) ?_
      refine WL.val rfl rfl rfl (Run.eql rfl rfl rfl) ?_
      refine WL.nil ?_
      refine tkN ?_
      refine hK17 _ _ ?_
      clear hK17
      refine WC.cond rfl (fun h18 => ?_) (fun h18 => ?_)
      · have qh18 := h18
        try simp only [decide_eq_true_eq, decide_eq_false_iff_not, Bool.not_eq_true', Bool.not_eq_false', Bool.and_eq_true, Bool.or_eq_false_iff, within_iff, within_not] at qh18
        have hfi := findI_some (F := encI) (p := fun z => decide (p = z)) (xs := leavesL t) (i := i) (by omega) p1 (decide_eq_true (qh18).symm)
        have hm1 := Int.emod_nonneg ((i : Int) + 1) (b := ((leavesL t).length : Int)) (by omega)
        have hm2 := Int.emod_lt_of_pos ((i : Int) + 1) (b := ((leavesL t).length : Int)) (by omega)
        refine WC.seq (fun K19 hK19 => ?_)
        refine WC.region ?_
        refine WL.val rfl rfl rfl (Run.move rfl rfl) ?_
        refine WL.val rfl rfl rfl (Run.move rfl rfl) ?_
        refine WL.val rfl rfl rfl (Run.add rfl rfl rfl ?_) ?_
        · constructor <;> omega
        refine WL.val rfl rfl rfl (Run.move rfl rfl) ?_
        refine WL.val rfl rfl rfl (Run.lenSl Try.runUnderlying31 rfl rfl) ?_
        refine WL.val rfl rfl rfl (Run.rem rfl rfl rfl ?_ ?_) ?_
        · omega
        · omega
        refine WL.val rfl rfl rfl (Run.idx Try.runUnderlying31 Try.sizeOf3 rfl rfl rfl ?_ ?_ ?_) ?_
        · exact SlF.some_ (SlF.ofOwn ho8 (fun p_ hp_ => (hs11.own p_ (List.mem_append_left _ hp_)).1))
        · omega
        · omega
        refine WL.val rfl rfl rfl (Run.load Try.isAgg3 rfl rfl (SlF.one1 (SlF.ofOwn ho8 (fun p_ hp_ => (hs11.own p_ (List.mem_append_left _ hp_)).1)) ?_ rfl)) ?_
        · omega
        refine WL.val rfl rfl rfl (Run.assign rfl rfl) ?_
        refine WL.nil ?_
        refine tkN ?_
        refine hK19 _ _ ?_
        clear hK19
        refine WC.ret ?_
        refine ibR ?_
        refine tkR ?_
        refine tkR ?_
        refine ibR ?_
        refine tkR ?_
        clear hK15 hK9
        refine retV1 rfl (resV.tmp rfl) ?_
        refine ⟨congrArg Ending.returned ?_, hs11.nil⟩
        rw [afterL, hfi, if_neg (by omega)]
      · have qh18 := h18
        try simp only [decide_eq_true_eq, decide_eq_false_iff_not, Bool.not_eq_true', Bool.not_eq_false', Bool.and_eq_true, Bool.or_eq_false_iff, within_iff, within_not] at qh18
        refine WC.skip ?_
        refine ibN ?_
        refine tkN ?_
        refine hK15 _ _ ?_
        clear hK15
        refine WC.region ?_
        refine WL.val rfl rfl rfl (Run.add rfl rfl rfl ?_) ?_
        · constructor <;> omega
        refine WL.val rfl rfl rfl (Run.move rfl rfl) ?_
        refine WL.nil ?_
        refine tkN ?_
        refine ⟨⟨rfl, rfl, rfl, rfl, rfl, rfl, rfl, trivial⟩, hs11, _, ?_, i + 1, rfl, ?_, ?_, ⟨rfl, trivial⟩⟩
        · omega
        · omega
        · intro j hj; rcases Nat.lt_or_ge j i with h_ | h_
          · exact p1 j h_
          · obtain rfl : j = i := by omega
            exact decide_eq_false (fun e_ => qh18 e_.symm)
    · have qh14 := h14
      try simp only [decide_eq_true_eq, decide_eq_false_iff_not, Bool.not_eq_true', Bool.not_eq_false', Bool.and_eq_true, Bool.or_eq_false_iff, within_iff, within_not] at qh14
      refine WC.exit ?_
      refine tkE ?_
      refine tkE ?_
      refine ibE ?_
      refine tkN ?_
      refine hK9 _ _ ?_
      clear hK9
      refine WC.seq (fun K20 hK20 => ?_)
      refine WC.region ?_
      refine WL.val rfl rfl rfl (Run.assign rfl rfl) ?_
      refine WL.nil ?_
      refine tkN ?_
      refine hK20 _ _ ?_
      clear hK20
      refine WC.ret ?_
      refine retV1 rfl (resV.tmp rfl) ?_
      refine ⟨congrArg Ending.returned ?_, hs11.nil⟩
      rw [afterL, findI_none (F := encI) (fun j hj => p1 j (by omega))]; rfl
theorem c_impl_leafAt_1 (n_Pane : Int) (n_Down : Bool) (n_First : Int) (b_p : Nat) (p : Int) (w : World) (f_p : SlF encI w (some ⟨b_p, 0, none⟩) 1 [p]) :
    Calls Try.prog 88 #[.agg #[i64 n_Pane, .bool n_Down, i64 n_First], .pointer (some ⟨b_p, 0, none⟩)] w fun e w' => e = .returned (.bool (!decide (n_Pane = 0) && decide (n_Pane = p))) ∧ St w [] [] w' := by
  refine enter (vs := [.agg #[i64 n_Pane, .bool n_Down, i64 n_First], .pointer (some ⟨b_p, 0, none⟩)]) 12 Try.func88 rfl Try.ntmps88 rfl rfl ?_
  have hs1 := St.init w
  refine WC.seq (fun K2 hK2 => ?_)
  refine WC.region ?_
  refine WL.box hs1 rfl rfl rfl rfl rfl rfl (fun b3 whs4 hs4 => ?_)
  refine WL.val rfl rfl rfl (Run.assign rfl rfl) ?_
  refine WL.nil ?_
  refine tkN ?_
  refine hK2 _ _ ?_
  clear hK2
  refine WC.seq (fun K5 hK5 => ?_)
  refine WC.region ?_
  refine WL.val rfl rfl rfl (Run.loadLA hs4 0 Try.isAgg62 Try.sizeOf62 rfl rfl rfl rfl rfl) ?_
  refine WL.call rfl rfl rfl (Run.call Try.call84 rfl rfl rfl) (c_impl_Node_isLeaf _ _ _ _) ?_
  rintro _ whs6 ⟨rfl, hs6⟩
  replace hs6 := hs4.call0 hs6
  refine ⟨_, rfl, ?_⟩
  refine WL.val rfl rfl rfl (Run.move rfl rfl) ?_
  apply WL.meetAnd 5 6 11 [(0, _), (1, _), (2, _), (3, _)] rfl hs6
  · intro g7 J8
    have qg7 := g7
    try simp only [decide_eq_true_eq, decide_eq_false_iff_not, Bool.not_eq_true', Bool.not_eq_false'] at qg7
    refine WL.val (wantT rfl g7) rfl rfl (Run.field Try.runUnderlying62 rfl rfl rfl Try.sizeOf3 rfl) ?_
    refine WL.val (wantT rfl g7) rfl rfl (Run.loadL hs6 0 Try.isAgg3 rfl rfl rfl rfl) ?_
    refine WL.val (wantT rfl g7) rfl rfl (Run.load Try.isAgg3 rfl rfl (SlF.var (SlF.st0 f_p hs6) rfl)) ?_
    refine WL.val (wantT rfl g7) rfl rfl (Run.eql rfl rfl rfl) ?_
    refine WL.val rfl rfl rfl (Run.pickT rfl rfl g7 rfl) ?_
    exact WL.fin J8 hs6 rfl (andT g7) ⟨rfl, rfl, rfl, rfl, trivial⟩
  · intro g7 J8
    refine WL.skip (wantNT rfl g7) rfl rfl ?_
    refine WL.skip (wantNT rfl g7) rfl rfl ?_
    refine WL.skip (wantNT rfl g7) rfl rfl ?_
    refine WL.skip (wantNT rfl g7) rfl rfl ?_
    refine WL.val rfl rfl rfl (Run.pickF rfl rfl g7 rfl) ?_
    exact WL.fin J8 hs6 rfl (andF g7) ⟨rfl, rfl, rfl, rfl, trivial⟩
  · intro whs9 hs9
    refine WL.val rfl rfl rfl (Run.assign rfl rfl) ?_
    refine WL.nil ?_
    refine tkN ?_
    refine hK5 _ _ ?_
    clear hK5
    refine WC.ret ?_
    refine retV1 rfl (resV.tmp rfl) ?_
    refine ⟨congrArg Ending.returned ?_, hs9.nil⟩
    rfl
theorem c_slices_IndexFunc_impl_Node_impl_Node (A_s : Option Addr) (n_s c_s : Nat) (s : List NodeD) (b_p : Nat) (p : Int) (w : World) (f_s : SlF encNode w A_s n_s s) (f_p : SlF encI w (some ⟨b_p, 0, none⟩) 1 [p]) (hn : n_s ≤ 1099511627776) :
    Calls Try.prog 87 #[.slice A_s n_s c_s, .func (.func 88) #[] #[.pointer (some ⟨b_p, 0, none⟩)]] w fun e w' => e = .returned (.int .i64 (findI (fun n => !decide (n.Pane = 0) && decide (n.Pane = p)) s)) ∧ St w [] [] w' := by
  refine enter (vs := [.slice A_s n_s c_s, .func (.func 88) #[] #[.pointer (some ⟨b_p, 0, none⟩)]]) 19 Try.func87 rfl Try.ntmps87 rfl rfl ?_
  have hs1 := St.init w
  refine WC.seq (fun K2 hK2 => ?_)
  refine WC.region ?_
  refine WL.val rfl rfl rfl (Run.assign rfl rfl) ?_
  refine WL.nil ?_
  refine tkN ?_
  refine hK2 _ _ ?_
  clear hK2
  refine WC.seq (fun K3 hK3 => ?_)
  refine WC.seq (fun K4 hK4 => ?_)
  refine WC.region ?_
  refine WL.val rfl rfl rfl (Run.move rfl rfl) ?_
  refine WL.val rfl rfl rfl (Run.lenSl Try.runUnderlying25 rfl rfl) ?_
  refine WL.val rfl rfl rfl (Run.move rfl rfl) ?_
  refine WL.nil ?_
  refine tkN ?_
  refine hK4 _ _ ?_
  clear hK4
  refine WC.block ?_
  refine WC.loopS [(0, _), (1, _), (6, _), (7, _)] ⟨rfl, rfl, rfl, rfl, trivial⟩ hs1 (fun k_ f w' => ∃ (i : Nat), k_ = n_s - i ∧ (i ≤ n_s) ∧ (∀ j, j < i → (fun n => !decide (n.Pane = 0) && decide (n.Pane = p)) (gat encNode s j) = false) ∧ Sub [(8, .int .i64 i)] f) ((fun (i : Nat) => n_s - i) (0)) ?_ ?_
  · refine ⟨0, rfl, ?_, ?_, ⟨rfl, trivial⟩⟩
    · exact Nat.zero_le _
    · exact fun j hj => absurd hj (by omega)
  · clear hs1
    rintro _ f w ⟨i, rfl, p0, p1, hG⟩ hF hs5
    refine WC.sub _ (hG.app hF) ?_
    clear hG hF
    refine WC.seq (fun K6 hK6 => ?_)
    refine WC.region ?_
    refine WL.val rfl rfl rfl (Run.lss rfl rfl rfl) ?_
    refine WL.nil ?_
    refine tkN ?_
    refine hK6 _ _ ?_
    clear hK6
    refine WC.seq (fun K7 hK7 => ?_)
    refine WC.cond rfl (fun h8 => ?_) (fun h8 => ?_)
    · have qh8 := h8
      try simp only [decide_eq_true_eq, decide_eq_false_iff_not] at qh8
      refine WC.skip ?_
      refine tkN ?_
      refine hK7 _ _ ?_
      clear hK7
      refine WC.seq (fun K9 hK9 => ?_)
      refine WC.block ?_
      refine WC.seq (fun K10 hK10 => ?_)
      refine WC.region ?_
      refine WL.val rfl rfl rfl (Run.move rfl rfl) ?_
      refine WL.val rfl rfl rfl (Run.assign rfl rfl) ?_
      refine WL.nil ?_
      refine tkN ?_
      refine hK10 _ _ ?_
      clear hK10
      refine WC.seq (fun K11 hK11 => ?_)
      refine WC.region ?_
      refine WL.val rfl rfl rfl (Run.move rfl rfl) ?_
      refine WL.val rfl rfl rfl (Run.move rfl rfl) ?_
      refine WL.val rfl rfl rfl (Run.move rfl rfl) ?_
      refine WL.val rfl rfl rfl (Run.idxN Try.runUnderlying25 Try.sizeOf62 rfl rfl rfl ?_ ?_ ?_) ?_
      · exact SlF.some_ (SlF.st0 f_s hs5)
      · omega
      · omega
      refine WL.val rfl rfl rfl (Run.loadA Try.isAgg62 Try.sizeOf62 rfl rfl (SlF.whole (SlF.st0 f_s hs5) ?_)) ?_
      · omega
      refine WL.call rfl rfl rfl (Run.callC Try.call88 rfl rfl rfl) (c_impl_leafAt_1 _ _ _ _ _ _ (SlF.st0 f_p hs5)) ?_
      rintro _ whs12 ⟨rfl, hs12⟩
      replace hs12 := hs5.call0 hs12
      refine ⟨_, rfl, ?_⟩
      refine WL.nil ?_
      refine tkN ?_
      refine hK11 _ _ ?_
      clear hK11
      refine WC.cond rfl (fun h13 => ?_) (fun h13 => ?_)
      · have qh13 := h13
        try simp only [decide_eq_true_eq, decide_eq_false_iff_not] at qh13
        refine WC.seq (fun K14 hK14 => ?_)
        refine WC.region ?_
        refine WL.val rfl rfl rfl (Run.move rfl rfl) ?_
        refine WL.val rfl rfl rfl (Run.assign rfl rfl) ?_
        refine WL.nil ?_
        refine tkN ?_
        refine hK14 _ _ ?_
        clear hK14
        refine WC.ret ?_
        refine ibR ?_
        refine tkR ?_
        refine tkR ?_
        refine ibR ?_
        refine tkR ?_
        clear hK9 hK3
        refine retV1 rfl (resV.tmp rfl) ?_
        refine ⟨congrArg Ending.returned ?_, hs12.nil⟩
        rw [findI_some (F := encNode) (by rw [f_s.len]; omega) p1 h13]
      · have qh13 := h13
        try simp only [decide_eq_true_eq, decide_eq_false_iff_not] at qh13
        refine WC.skip ?_
        refine ibN ?_
        refine tkN ?_
        refine hK9 _ _ ?_
        clear hK9
        refine WC.region ?_
        refine WL.val rfl rfl rfl (Run.add rfl rfl rfl ?_) ?_
        · constructor <;> omega
        refine WL.val rfl rfl rfl (Run.move rfl rfl) ?_
        refine WL.nil ?_
        refine tkN ?_
        refine ⟨⟨rfl, rfl, rfl, rfl, trivial⟩, hs12, _, ?_, i + 1, rfl, ?_, ?_, ⟨rfl, trivial⟩⟩
        · omega
        · omega
        · intro j hj; rcases Nat.lt_or_ge j i with h_ | h_
          · exact p1 j h_
          · obtain rfl : j = i := by omega
            exact h13
    · have qh8 := h8
      try simp only [decide_eq_true_eq, decide_eq_false_iff_not] at qh8
      refine WC.exit ?_
      refine tkE ?_
      refine tkE ?_
      refine ibE ?_
      refine tkN ?_
      refine hK3 _ _ ?_
      clear hK3
      refine WC.seq (fun K15 hK15 => ?_)
      refine WC.region ?_
      refine WL.val rfl rfl rfl (Run.assign rfl rfl) ?_
      refine WL.nil ?_
      refine tkN ?_
      refine hK15 _ _ ?_
      clear hK15
      refine WC.ret ?_
      refine retV1 rfl (resV.tmp rfl) ?_
      refine ⟨congrArg Ending.returned ?_, hs5.nil⟩
      rw [findI_none (F := encNode) (fun j hj => p1 j (by rw [f_s.len] at hj; omega))]
theorem c_impl_leafAt (A_t : Option Addr) (n_t c_t : Nat) (t : List NodeD) (p : Int) (w : World) (f_t : SlF encNode w A_t n_t t) (hn : n_t ≤ 268435456) :
    Calls Try.prog 65 #[.slice A_t n_t c_t, i64 p] w fun e w' => e = .returned (.int .i64 (atL t p)) ∧ St w [] [] w' := by
  refine enter (vs := [.slice A_t n_t c_t, i64 p]) 8 Try.func65 rfl Try.ntmps65 rfl rfl ?_
  have hs1 := St.init w
  refine WC.seq (fun K2 hK2 => ?_)
  refine WC.region ?_
  refine WL.box hs1 rfl rfl rfl rfl rfl rfl (fun b3 whs4 hs4 => ?_)
  refine WL.val rfl rfl rfl (Run.assign rfl rfl) ?_
  refine WL.nil ?_
  refine tkN ?_
  refine hK2 _ _ ?_
  clear hK2
  refine WC.seq (fun K5 hK5 => ?_)
  refine WC.region ?_
  refine WL.val rfl rfl rfl (Run.move rfl rfl) ?_
  refine WL.val rfl rfl rfl (Run.makeFunc rfl rfl) ?_
  refine WL.call rfl rfl rfl (Run.call Try.call87 rfl rfl rfl) (c_slices_IndexFunc_impl_Node_impl_Node _ _ _ _ _ _ _ (SlF.st0 f_t hs4) (SlF.own1 (hs4.own _ (nthL_mem (i := 0) rfl)).1) ?_) ?_
  · first | assumption | rfl | omega
  rintro _ whs6 ⟨rfl, hs6⟩
  replace hs6 := hs4.call0 hs6
  refine ⟨_, rfl, ?_⟩
  refine WL.val rfl rfl rfl (Run.assign rfl rfl) ?_
  refine WL.nil ?_
  refine tkN ?_
  refine hK5 _ _ ?_
  clear hK5
  refine WC.ret ?_
  refine retV1 rfl (resV.tmp rfl) ?_
  refine ⟨congrArg Ending.returned ?_, hs6.nil⟩
  rfl
theorem c_spec_l13At (A_t : Option Addr) (n_t c_t : Nat) (t : List NodeD) (p : Int) (w : World) (f_t : SlF encNode w A_t n_t t) (hn : n_t ≤ 268435456) :
    Calls Try.prog 63 #[.slice A_t n_t c_t, i64 p] w fun e w' => e = .returned (.int .i64 (atS t p)) ∧ St w [] [] w' := by
  refine enter (vs := [.slice A_t n_t c_t, i64 p]) 24 Try.func63 rfl Try.ntmps63 rfl rfl ?_
  have hs1 := St.init w
  refine WC.seq (fun K2 hK2 => ?_)
  refine WC.region ?_
  refine WL.val rfl rfl rfl (Run.assign rfl rfl) ?_
  refine WL.nil ?_
  refine tkN ?_
  refine hK2 _ _ ?_
  clear hK2
  refine WC.seq (fun K3 hK3 => ?_)
  refine WC.seq (fun K4 hK4 => ?_)
  refine WC.region ?_
  refine WL.val rfl rfl rfl (Run.move rfl rfl) ?_
  refine WL.val rfl rfl rfl (Run.lenSl Try.runUnderlying25 rfl rfl) ?_
  refine WL.val rfl rfl rfl (Run.move rfl rfl) ?_
  refine WL.nil ?_
  refine tkN ?_
  refine hK4 _ _ ?_
  clear hK4
  refine WC.block ?_
  refine WC.loopS [(0, _), (1, _), (7, _), (8, _)] ⟨rfl, rfl, rfl, rfl, trivial⟩ hs1 (fun k_ f w' => ∃ (i : Nat), k_ = n_t - i ∧ (i ≤ n_t) ∧ (∀ j, j < i → (fun n : NodeD => decide (n.Pane = p) && decide (0 < p)) (gat encNode t j) = false) ∧ Sub [(9, .int .i64 i)] f) ((fun (i : Nat) => n_t - i) (0)) ?_ ?_
  · refine ⟨0, rfl, ?_, ?_, ⟨rfl, trivial⟩⟩
    · exact Nat.zero_le _
    · exact fun j hj => absurd hj (by omega)
  · clear hs1
    rintro _ f w ⟨i, rfl, p0, p1, hG⟩ hF hs5
    refine WC.sub _ (hG.app hF) ?_
    clear hG hF
    refine WC.seq (fun K6 hK6 => ?_)
    refine WC.region ?_
    refine WL.val rfl rfl rfl (Run.lss rfl rfl rfl) ?_
    refine WL.nil ?_
    refine tkN ?_
    refine hK6 _ _ ?_
    clear hK6
    refine WC.seq (fun K7 hK7 => ?_)
    refine WC.cond rfl (fun h8 => ?_) (fun h8 => ?_)
    · have qh8 := h8
      try simp only [decide_eq_true_eq, decide_eq_false_iff_not] at qh8
      refine WC.skip ?_
      refine tkN ?_
      refine hK7 _ _ ?_
      clear hK7
      refine WC.seq (fun K9 hK9 => ?_)
      refine WC.block ?_
      refine WC.seq (fun K10 hK10 => ?_)
      refine WC.region ?_
      refine WL.val rfl rfl rfl (Run.move rfl rfl) ?_
      refine WL.val rfl rfl rfl (Run.idxN Try.runUnderlying25 Try.sizeOf62 rfl rfl rfl ?_ ?_ ?_) ?_
      · exact SlF.some_ (SlF.st0 f_t hs5)
      · omega
      · omega
      refine WL.val rfl rfl rfl (Run.loadA Try.isAgg62 Try.sizeOf62 rfl rfl (SlF.whole (SlF.st0 f_t hs5) ?_)) ?_
      · omega
      refine WL.alloc hs5 Try.zeroValue62 rfl rfl rfl rfl rfl (fun b11 whs12 hs12 => ?_)
      refine WL.val rfl rfl rfl (Run.assign rfl rfl) ?_
      refine WL.storeA hs12 0 Try.sizeOf62 rfl rfl rfl rfl rfl rfl rfl rfl rfl (Nat.le_of_ble_eq_true rfl) (.inl (Nat.le_of_ble_eq_true rfl)) (fun whs13 hs13 => ?_)
      refine WL.nil ?_
      refine tkN ?_
      refine hK10 _ _ ?_
      clear hK10
      refine WC.seq (fun K14 hK14 => ?_)
      refine WC.region ?_
      refine WL.val rfl rfl rfl (Run.field Try.runUnderlying62 rfl rfl rfl Try.sizeOf3 rfl) ?_
      refine WL.val rfl rfl rfl (Run.loadL hs13 0 Try.isAgg3 rfl rfl rfl rfl) ?_
      refine WL.val rfl rfl rfl (Run.move rfl rfl) ?_
      refine WL.val rfl rfl rfl (Run.eql rfl rfl rfl) ?_
      refine WL.val rfl rfl rfl (Run.move rfl rfl) ?_
      apply WL.meetAnd 3 18 21 [(0, _), (1, _), (5, _), (6, _), (7, _), (8, _), (9, _), (10, _), (11, _), (12, _), (13, _)] rfl hs13
      · intro g15 J16
        have qg15 := g15
        try simp only [decide_eq_true_eq, decide_eq_false_iff_not, Bool.not_eq_true', Bool.not_eq_false'] at qg15
        refine WL.val (wantT rfl g15) rfl rfl (Run.move rfl rfl) ?_
        refine WL.val (wantT rfl g15) rfl rfl (Run.gtr rfl rfl rfl) ?_
        refine WL.val rfl rfl rfl (Run.pickT rfl rfl g15 rfl) ?_
        exact WL.fin J16 hs13 rfl (andT g15) ⟨rfl, rfl, rfl, rfl, rfl, rfl, rfl, rfl, rfl, rfl, rfl, trivial⟩
      · intro g15 J16
        refine WL.skip (wantNT rfl g15) rfl rfl ?_
        refine WL.skip (wantNT rfl g15) rfl rfl ?_
        refine WL.val rfl rfl rfl (Run.pickF rfl rfl g15 rfl) ?_
        exact WL.fin J16 hs13 rfl (andF g15) ⟨rfl, rfl, rfl, rfl, rfl, rfl, rfl, rfl, rfl, rfl, rfl, trivial⟩
      · intro whs17 hs17
        refine WL.nil ?_
        refine tkN ?_
        refine hK14 _ _ ?_
        clear hK14
        refine WC.cond rfl (fun h18 => ?_) (fun h18 => ?_)
        · have qh18 := h18
          try simp only [decide_eq_true_eq, decide_eq_false_iff_not] at qh18
          refine WC.seq (fun K19 hK19 => ?_)
          refine WC.region ?_
          refine WL.val rfl rfl rfl (Run.move rfl rfl) ?_
          refine WL.val rfl rfl rfl (Run.assign rfl rfl) ?_
          refine WL.nil ?_
          refine tkN ?_
          refine hK19 _ _ ?_
          clear hK19
          refine WC.ret ?_
          refine ibR ?_
          refine tkR ?_
          refine tkR ?_
          refine ibR ?_
          refine tkR ?_
          clear hK9 hK3
          refine retV1 rfl (resV.tmp rfl) ?_
          refine ⟨congrArg Ending.returned ?_, hs17.nil⟩
          rw [atS, findI_some (F := encNode) (i := i) (by rw [f_t.len]; omega) p1 h18]
        · have qh18 := h18
          try simp only [decide_eq_true_eq, decide_eq_false_iff_not] at qh18
          refine WC.skip ?_
          refine ibN ?_
          refine tkN ?_
          refine hK9 _ _ ?_
          clear hK9
          refine WC.region ?_
          refine WL.val rfl rfl rfl (Run.add rfl rfl rfl ?_) ?_
          · constructor <;> omega
          refine WL.val rfl rfl rfl (Run.move rfl rfl) ?_
          refine WL.nil ?_
          refine tkN ?_
          refine ⟨⟨rfl, rfl, rfl, rfl, trivial⟩, (hs17.drop (by repeat (first | exact List.Sublist.refl _ | exact List.sublist_append_left _ _ | exact List.Sublist.trans (List.sublist_append_left _ _) (List.sublist_append_left _ _) | apply List.Sublist.cons | refine List.Sublist.trans ?_ (List.sublist_append_right _ _)))), _, ?_, i + 1, rfl, ?_, ?_, ⟨rfl, trivial⟩⟩
          · omega
          · omega
          · intro j hj; rcases Nat.lt_or_ge j i with h_ | h_
            · exact p1 j h_
            · obtain rfl : j = i := by omega
              exact qh18
    · have qh8 := h8
      try simp only [decide_eq_true_eq, decide_eq_false_iff_not] at qh8
      refine WC.exit ?_
      refine tkE ?_
      refine tkE ?_
      refine ibE ?_
      refine tkN ?_
      refine hK3 _ _ ?_
      clear hK3
      refine WC.seq (fun K20 hK20 => ?_)
      refine WC.region ?_
      refine WL.val rfl rfl rfl (Run.assign rfl rfl) ?_
      refine WL.nil ?_
      refine tkN ?_
      refine hK20 _ _ ?_
      clear hK20
      refine WC.ret ?_
      refine retV1 rfl (resV.tmp rfl) ?_
      refine ⟨congrArg Ending.returned ?_, hs5.nil⟩
      rw [atS, findI_none (F := encNode) (fun j hj => p1 j (by rw [f_t.len] at hj; omega))]
theorem c_spec_Swap (A_t : Option Addr) (n_t c_t : Nat) (t : List NodeD) (a : Int) (b : Int) (w : World) (f_t : SlF encNode w A_t n_t t) (hn : n_t ≤ 268435456) :
    Calls Try.prog 30 #[.slice A_t n_t c_t, i64 a, i64 b] w fun e w' => ∃ A c L1, e = .returned (.tuple #[.slice A (swapL t a b).length c, .bool (swapOk t a b)]) ∧ St w [] L1 w' ∧ OwnF encNode 62 (.slice A (swapL t a b).length c) (swapL t a b) L1 := by
  refine enter (vs := [.slice A_t n_t c_t, i64 a, i64 b]) 41 Try.func30 rfl Try.ntmps30 rfl rfl ?_
  have hs1 := St.init w
  refine WC.seq (fun K2 hK2 => ?_)
  refine WC.region ?_
  refine WL.val rfl rfl rfl (Run.assign rfl rfl) ?_
  refine WL.val rfl rfl rfl (Run.assign rfl rfl) ?_
  refine WL.nil ?_
  refine tkN ?_
  refine hK2 _ _ ?_
  clear hK2
  refine WC.seq (fun K3 hK3 => ?_)
  refine WC.region ?_
  refine WL.val rfl rfl rfl (Run.move rfl rfl) ?_
  refine WL.val rfl rfl rfl (Run.move rfl rfl) ?_
  refine WL.call rfl rfl rfl (Run.call Try.call63 rfl rfl rfl) (c_spec_l13At _ _ _ _ _ _ (SlF.st0 f_t hs1) ?_) ?_
  · first | assumption | rfl | omega
  rintro _ whs4 ⟨rfl, hs4⟩
  replace hs4 := hs1.call0 hs4
  refine ⟨_, rfl, ?_⟩
  refine WL.val rfl rfl rfl (Run.assign rfl rfl) ?_
  refine WL.nil ?_
  refine tkN ?_
  refine hK3 _ _ ?_
  clear hK3
  refine WC.seq (fun K5 hK5 => ?_)
  refine WC.region ?_
  refine WL.val rfl rfl rfl (Run.move rfl rfl) ?_
  refine WL.val rfl rfl rfl (Run.move rfl rfl) ?_
  refine WL.call rfl rfl rfl (Run.call Try.call63 rfl rfl rfl) (c_spec_l13At _ _ _ _ _ _ (SlF.st0 f_t hs4) ?_) ?_
  · first | assumption | rfl | omega
  rintro _ whs6 ⟨rfl, hs6⟩
  replace hs6 := hs4.call0 hs6
  refine ⟨_, rfl, ?_⟩
  refine WL.val rfl rfl rfl (Run.assign rfl rfl) ?_
  refine WL.nil ?_
  refine tkN ?_
  refine hK5 _ _ ?_
  clear hK5
  refine WC.seq (fun K7 hK7 => ?_)
  refine WC.seq (fun K8 hK8 => ?_)
  refine WC.region ?_
  refine WL.val rfl rfl rfl (Run.move rfl rfl) ?_
  refine WL.call rfl rfl rfl (Run.call Try.call18 rfl rfl rfl) (c_spec_TreeOk _ _ _ _ _ (SlF.st0 f_t hs6) ?_) ?_
  · first | assumption | rfl | omega
  rintro _ whs9 ⟨rfl, hs9⟩
  replace hs9 := hs6.call0 hs9
  refine ⟨_, rfl, ?_⟩
  refine WL.val rfl rfl rfl (Run.not rfl rfl) ?_
  refine WL.val rfl rfl rfl (Run.move rfl rfl) ?_
  apply WL.meetOr 3 20 23 [(0, _), (1, _), (2, _), (6, _), (7, _), (8, _), (9, _), (11, _), (12, _), (13, _), (14, _), (15, _), (16, _)] rfl hs9
  · intro g10 J11
    have qg10 := g10
    try simp only [decide_eq_true_eq, decide_eq_false_iff_not, Bool.not_eq_true', Bool.not_eq_false'] at qg10
    refine WL.val (wantF rfl g10) rfl rfl (Run.move rfl rfl) ?_
    refine WL.val (wantF rfl g10) rfl rfl (Run.lss rfl rfl rfl) ?_
    refine WL.val rfl rfl rfl (Run.pickF rfl rfl g10 rfl) ?_
    exact WL.fin J11 hs9 rfl (orF g10) ⟨rfl, rfl, rfl, rfl, rfl, rfl, rfl, rfl, rfl, rfl, rfl, rfl, rfl, trivial⟩
  · intro g10 J11
    refine WL.skip (wantNF rfl g10) rfl rfl ?_
    refine WL.skip (wantNF rfl g10) rfl rfl ?_
    refine WL.val rfl rfl rfl (Run.pickT rfl rfl g10 rfl) ?_
    exact WL.fin J11 hs9 rfl (orT g10) ⟨rfl, rfl, rfl, rfl, rfl, rfl, rfl, rfl, rfl, rfl, rfl, rfl, rfl, trivial⟩
  · intro whs12 hs12
    refine WL.val rfl rfl rfl (Run.move rfl rfl) ?_
    apply WL.meetOr 3 24 27 [(0, _), (1, _), (2, _), (6, _), (7, _), (8, _), (9, _), (11, _), (12, _), (13, _), (14, _), (15, _), (16, _)] rfl hs12
    · intro g13 J14
      have qg13 := g13
      try simp only [decide_eq_true_eq, decide_eq_false_iff_not, Bool.not_eq_true', Bool.not_eq_false'] at qg13
      refine WL.val (wantF rfl g13) rfl rfl (Run.move rfl rfl) ?_
      refine WL.val (wantF rfl g13) rfl rfl (Run.lss rfl rfl rfl) ?_
      refine WL.val rfl rfl rfl (Run.pickF rfl rfl g13 rfl) ?_
      exact WL.fin J14 hs12 rfl (orF g13) ⟨rfl, rfl, rfl, rfl, rfl, rfl, rfl, rfl, rfl, rfl, rfl, rfl, rfl, trivial⟩
    · intro g13 J14
      refine WL.skip (wantNF rfl g13) rfl rfl ?_
      refine WL.skip (wantNF rfl g13) rfl rfl ?_
      refine WL.val rfl rfl rfl (Run.pickT rfl rfl g13 rfl) ?_
      exact WL.fin J14 hs12 rfl (orT g13) ⟨rfl, rfl, rfl, rfl, rfl, rfl, rfl, rfl, rfl, rfl, rfl, rfl, rfl, trivial⟩
    · intro whs15 hs15
      refine WL.nil ?_
      refine tkN ?_
      refine hK8 _ _ ?_
      clear hK8
      refine WC.cond rfl (fun h16 => ?_) (fun h16 => ?_)
      · have qh16 := h16
        try simp only [decide_eq_true_eq, decide_eq_false_iff_not, Bool.not_eq_true', Bool.not_eq_false', Bool.and_eq_true, Bool.or_eq_false_iff, within_iff, within_not] at qh16
        have hk : swapOk t a b = false := by
          cases hh : swapOk t a b with
          | false => rfl
          | true =>
            simp [swapOk] at hh
            simp [hh, atS_eq hh.1.1] at qh16
            omega
        refine WC.seq (fun K17 hK17 => ?_)
        refine WC.region ?_
        refine WL.val rfl rfl rfl (Run.assign rfl rfl) ?_
        refine WL.val rfl rfl rfl (Run.assign rfl rfl) ?_
        refine WL.nil ?_
        refine tkN ?_
        refine hK17 _ _ ?_
        clear hK17
        refine WC.ret ?_
        refine tkR ?_
        clear hK7
        refine retV2 rfl (resV.tmp rfl) (resV.tmp rfl) ?_
        rw [hk]
        have hx_ := OwnF.eqOf (xs := swapL t a b) (OwnF.nil encNode 62) (by simp [swapL, hk])
        rw [← hx_]
        exact ⟨_, _, _, rfl, hs15.nil, (OwnF.nil encNode 62)⟩
      · have qh16 := h16
        try simp only [decide_eq_true_eq, decide_eq_false_iff_not, Bool.not_eq_true', Bool.not_eq_false', Bool.and_eq_true, Bool.or_eq_false_iff, within_iff, within_not] at qh16
        have hto : treeOk t = true := by simp at qh16; exact (qh16).1.1
        have hea := atS_eq (p := a) hto
        have heb := atS_eq (p := b) hto
        rw [hea, heb] at qh16
        have hk : swapOk t a b = true := by simp at qh16; simp [swapOk, qh16]
        have hla := atL_lt t a
        have hlb := atL_lt t b
        have hk2 := hk
        simp [swapOk] at hk2
        have hl := f_t.len
        refine WC.skip ?_
        refine tkN ?_
        refine hK7 _ _ ?_
        clear hK7
        refine WC.seq (fun K18 hK18 => ?_)
        refine WC.region ?_
        refine WL.val rfl rfl rfl (Run.move rfl rfl) ?_
        refine WL.call rfl rfl rfl (Run.call Try.call64 rfl rfl rfl) (c_spec_l13Copy _ _ _ _ _ (SlF.st0 f_t hs15) ?_) ?_
        · first | assumption | rfl | omega
        rintro _ whs19 ⟨A20, c21, L122, rfl, hs19, ho23⟩
        replace hs19 := hs15.callF hs19
        refine ⟨_, rfl, ?_⟩
        refine WL.val rfl rfl rfl (Run.assign rfl rfl) ?_
        refine WL.nil ?_
        refine tkN ?_
        refine hK18 _ _ ?_
        clear hK18
        refine WC.seq (fun K24 hK24 => ?_)
        refine WC.region ?_
        refine WL.val rfl rfl rfl (Run.move rfl rfl) ?_
        refine WL.val rfl rfl rfl (Run.move rfl rfl) ?_
        refine WL.val rfl rfl rfl (Run.move rfl rfl) ?_
        refine WL.val rfl rfl rfl (Run.idxK ((atL t a).toNat) Try.runUnderlying25 Try.sizeOf62 rfl rfl rfl ?_ ?_ ?_) ?_
        · exact SlF.some_ (SlF.ofOwn ho23 (fun p_ hp_ => (hs19.own p_ (List.mem_append_left _ hp_)).1))
        · omega
        · omega
        refine WL.val rfl rfl rfl (Run.fieldO Try.runUnderlying62 rfl rfl rfl Try.sizeOf3 rfl) ?_
        refine WL.storeF (x' := ⟨b, (gat encNode t (atL t a).toNat).Down, (gat encNode t (atL t a).toNat).First⟩) hs19 ho23 Try.sizeOf3 rfl rfl rfl rfl rfl rfl rfl rfl rfl ?_ rfl (fun L25 whs26 hs26 ho27 _ => ?_)
        · omega
        refine WL.nil ?_
        refine tkN ?_
        refine hK24 _ _ ?_
        clear hK24
        refine WC.seq (fun K28 hK28 => ?_)
        refine WC.region ?_
        refine WL.val rfl rfl rfl (Run.move rfl rfl) ?_
        refine WL.val rfl rfl rfl (Run.move rfl rfl) ?_
        refine WL.val rfl rfl rfl (Run.move rfl rfl) ?_
        refine WL.val rfl rfl rfl (Run.idxK ((atL t b).toNat) Try.runUnderlying25 Try.sizeOf62 rfl rfl rfl ?_ ?_ ?_) ?_
        · exact SlF.some_ (SlF.ofOwn ho27 (fun p_ hp_ => (hs26.own p_ (List.mem_append_left _ hp_)).1))
        · omega
        · omega
        refine WL.val rfl rfl rfl (Run.fieldO Try.runUnderlying62 rfl rfl rfl Try.sizeOf3 rfl) ?_
        refine WL.storeF (x' := ⟨a, (gat encNode (setPane t (atL t a).toNat b) (atL t b).toNat).Down, (gat encNode (setPane t (atL t a).toNat b) (atL t b).toNat).First⟩) hs26 ho27 Try.sizeOf3 rfl rfl rfl rfl rfl rfl rfl rfl rfl ?_ rfl (fun L29 whs30 hs30 ho31 _ => ?_)
        · omega
        refine WL.nil ?_
        refine tkN ?_
        refine hK28 _ _ ?_
        clear hK28
        refine WC.seq (fun K32 hK32 => ?_)
        refine WC.region ?_
        refine WL.val rfl rfl rfl (Run.move rfl rfl) ?_
        refine WL.val rfl rfl rfl (Run.assign rfl rfl) ?_
        refine WL.val rfl rfl rfl (Run.assign rfl rfl) ?_
        refine WL.nil ?_
        refine tkN ?_
        refine hK32 _ _ ?_
        clear hK32
        refine WC.ret ?_
        refine retV2 rfl (resV.tmp rfl) (resV.tmp rfl) ?_
        rw [hk]
        have hx_ := OwnF.eqOf (xs := swapL t a b) ho31 (by simp only [swapL, hk, if_true]; rfl)
        rw [← hx_]
        first | exact ⟨_, _, _, rfl, (St.keep1 hs30), ho31⟩ | exact ⟨A20, c21, _, by rw [OwnF.len_ ho31], (St.keep1 hs30), by rw [OwnF.len_ ho31]; exact ho31⟩
end Go.Proofs.Ytghcicggamkjgaa
