/- Walks of Go functions, printed by a program (wip/gen). -/
import Derived.Test.YtghcicggamkjgaaP3
namespace Go.Proofs.Ytghcicggamkjgaa
open Go Go.RowKit
set_option linter.unusedVariables false
set_option linter.unusedSimpArgs false
theorem built_40 : Try.prog.built 40 [] = some (List.toArray [.int .i64 0, .int .i64 0, .int .i64 0, .int .i64 0, .int .i64 0]) := by kernel_rfl
theorem c_impl_PlaceOf_1 (r_Pane : Int) (r_X : Int) (r_Y : Int) (r_W : Int) (r_H : Int) (b_p : Nat) (p : Int) (w : World) (f_p : SlF encI w (some ⟨b_p, 0, none⟩) 1 [p]) :
    Calls Try.prog 71 #[.agg #[i64 r_Pane, i64 r_X, i64 r_Y, i64 r_W, i64 r_H], .pointer (some ⟨b_p, 0, none⟩)] w fun e w' => e = .returned (.bool (decide (r_Pane = p))) ∧ St w [] [] w' := by
  refine enter (vs := [.agg #[i64 r_Pane, i64 r_X, i64 r_Y, i64 r_W, i64 r_H], .pointer (some ⟨b_p, 0, none⟩)]) 8 Try.func71 rfl Try.ntmps71 rfl rfl ?_
  have hs1 := St.init w
  refine WC.seq (fun K2 hK2 => ?_)
  refine WC.region ?_
  refine WL.box hs1 rfl rfl rfl rfl rfl rfl (fun b3 whs4 hs4 => ?_)
  refine WL.val rfl rfl rfl (Run.assign rfl rfl) ?_
  refine WL.nil ?_
  refine tkN ?_
  refine hK2 _ _ ?_
  clear hK2
  refine WC.seq (fun K5 hK5 => ?_)
  refine WC.region ?_
  refine WL.val rfl rfl rfl (Run.field Try.runUnderlying40 rfl rfl rfl Try.sizeOf3 rfl) ?_
  refine WL.val rfl rfl rfl (Run.loadL hs4 0 Try.isAgg3 rfl rfl rfl rfl) ?_
  refine WL.val rfl rfl rfl (Run.load Try.isAgg3 rfl rfl (SlF.var (SlF.st0 f_p hs4) rfl)) ?_
  refine WL.val rfl rfl rfl (Run.eql rfl rfl rfl) ?_
  refine WL.val rfl rfl rfl (Run.assign rfl rfl) ?_
  refine WL.nil ?_
  refine tkN ?_
  refine hK5 _ _ ?_
  clear hK5
  refine WC.ret ?_
  refine retV1 rfl (resV.tmp rfl) ?_
  refine ⟨congrArg Ending.returned ?_, hs4.nil⟩
  rfl
theorem c_slices_IndexFunc_impl_Rect_impl_Rect_2 (A_s : Option Addr) (n_s c_s : Nat) (s : List RectD) (b_p : Nat) (p : Int) (w : World) (f_s : SlF encRect w A_s n_s s) (f_p : SlF encI w (some ⟨b_p, 0, none⟩) 1 [p]) (hn : n_s ≤ 1099511627776) :
    Calls Try.prog 70 #[.slice A_s n_s c_s, .func (.func 71) #[] #[.pointer (some ⟨b_p, 0, none⟩)]] w fun e w' => e = .returned (.int .i64 (findI (fun r : RectD => decide (r.Pane = p)) s)) ∧ St w [] [] w' := by
  refine enter (vs := [.slice A_s n_s c_s, .func (.func 71) #[] #[.pointer (some ⟨b_p, 0, none⟩)]]) 19 Try.func70 rfl Try.ntmps70 rfl rfl ?_
  have hs1 := St.init w
  refine WC.seq (fun K2 hK2 => ?_)
  refine WC.region ?_
  refine WL.val rfl rfl rfl (Run.assign rfl rfl) ?_
  refine WL.nil ?_
  refine tkN ?_
  refine hK2 _ _ ?_
  clear hK2
  refine WC.seq (fun K3 hK3 => ?_)
  refine WC.seq (fun K4 hK4 => ?_)
  refine WC.region ?_
  refine WL.val rfl rfl rfl (Run.move rfl rfl) ?_
  refine WL.val rfl rfl rfl (Run.lenSl Try.runUnderlying48 rfl rfl) ?_
  refine WL.val rfl rfl rfl (Run.move rfl rfl) ?_
  refine WL.nil ?_
  refine tkN ?_
  refine hK4 _ _ ?_
  clear hK4
  refine WC.block ?_
  refine WC.loopS [(0, _), (1, _), (6, _), (7, _)] ⟨rfl, rfl, rfl, rfl, trivial⟩ hs1 (fun k_ f w' => ∃ (i : Nat), k_ = n_s - i ∧ (i ≤ n_s) ∧ (∀ j, j < i → (fun r : RectD => decide (r.Pane = p)) (gat encRect s j) = false) ∧ Sub [(8, .int .i64 i)] f) ((fun (i : Nat) => n_s - i) (0)) ?_ ?_
  · refine ⟨0, rfl, ?_, ?_, ⟨rfl, trivial⟩⟩
    · exact Nat.zero_le _
    · exact fun j hj => absurd hj (by omega)
  · clear hs1
    rintro _ f w ⟨i, rfl, p0, p1, hG⟩ hF hs5
    refine WC.sub _ (hG.app hF) ?_
    clear hG hF
    refine WC.seq (fun K6 hK6 => ?_)
    refine WC.region ?_
    refine WL.val rfl rfl rfl (Run.lss rfl rfl rfl) ?_
    refine WL.nil ?_
    refine tkN ?_
    refine hK6 _ _ ?_
    clear hK6
    refine WC.seq (fun K7 hK7 => ?_)
    refine WC.cond rfl (fun h8 => ?_) (fun h8 => ?_)
    · have qh8 := h8
      try simp only [decide_eq_true_eq, decide_eq_false_iff_not] at qh8
      refine WC.skip ?_
      refine tkN ?_
      refine hK7 _ _ ?_
      clear hK7
      refine WC.seq (fun K9 hK9 => ?_)
      refine WC.block ?_
      refine WC.seq (fun K10 hK10 => ?_)
      refine WC.region ?_
      refine WL.val rfl rfl rfl (Run.move rfl rfl) ?_
      refine WL.val rfl rfl rfl (Run.assign rfl rfl) ?_
      refine WL.nil ?_
      refine tkN ?_
      refine hK10 _ _ ?_
      clear hK10
      refine WC.seq (fun K11 hK11 => ?_)
      refine WC.region ?_
      refine WL.val rfl rfl rfl (Run.move rfl rfl) ?_
      refine WL.val rfl rfl rfl (Run.move rfl rfl) ?_
      refine WL.val rfl rfl rfl (Run.move rfl rfl) ?_
      refine WL.val rfl rfl rfl (Run.idxN Try.runUnderlying48 Try.sizeOf40 rfl rfl rfl ?_ ?_ ?_) ?_
      · exact SlF.some_ (SlF.st0 f_s hs5)
      · omega
      · omega
      refine WL.val rfl rfl rfl (Run.loadA Try.isAgg40 Try.sizeOf40 rfl rfl (SlF.whole (SlF.st0 f_s hs5) ?_)) ?_
      · omega
      refine WL.call rfl rfl rfl (Run.callC Try.call71 rfl rfl rfl) (c_impl_PlaceOf_1 _ _ _ _ _ _ _ _ (SlF.st0 f_p hs5)) ?_
      rintro _ whs12 ⟨rfl, hs12⟩
      replace hs12 := hs5.call0 hs12
      refine ⟨_, rfl, ?_⟩
      refine WL.nil ?_
      refine tkN ?_
      refine hK11 _ _ ?_
      clear hK11
      refine WC.cond rfl (fun h13 => ?_) (fun h13 => ?_)
      · have qh13 := h13
        try simp only [decide_eq_true_eq, decide_eq_false_iff_not] at qh13
        refine WC.seq (fun K14 hK14 => ?_)
        refine WC.region ?_
        refine WL.val rfl rfl rfl (Run.move rfl rfl) ?_
        refine WL.val rfl rfl rfl (Run.assign rfl rfl) ?_
        refine WL.nil ?_
        refine tkN ?_
        refine hK14 _ _ ?_
        clear hK14
        refine WC.ret ?_
        refine ibR ?_
        refine tkR ?_
        refine tkR ?_
        refine ibR ?_
        refine tkR ?_
        clear hK9 hK3
        refine retV1 rfl (resV.tmp rfl) ?_
        refine ⟨congrArg Ending.returned ?_, hs12.nil⟩
        rw [findI_some (F := encRect) (by rw [f_s.len]; omega) p1 h13]
      · have qh13 := h13
        try simp only [decide_eq_true_eq, decide_eq_false_iff_not] at qh13
        refine WC.skip ?_
        refine ibN ?_
        refine tkN ?_
        refine hK9 _ _ ?_
        clear hK9
        refine WC.region ?_
        refine WL.val rfl rfl rfl (Run.add rfl rfl rfl ?_) ?_
        · constructor <;> omega
        refine WL.val rfl rfl rfl (Run.move rfl rfl) ?_
        refine WL.nil ?_
        refine tkN ?_
        refine ⟨⟨rfl, rfl, rfl, rfl, trivial⟩, hs12, _, ?_, i + 1, rfl, ?_, ?_, ⟨rfl, trivial⟩⟩
        · omega
        · omega
        · intro j hj; rcases Nat.lt_or_ge j i with h_ | h_
          · exact p1 j h_
          · obtain rfl : j = i := by omega
            exact h13
    · have qh8 := h8
      try simp only [decide_eq_true_eq, decide_eq_false_iff_not] at qh8
      refine WC.exit ?_
      refine tkE ?_
      refine tkE ?_
      refine ibE ?_
      refine tkN ?_
      refine hK3 _ _ ?_
      clear hK3
      refine WC.seq (fun K15 hK15 => ?_)
      refine WC.region ?_
      refine WL.val rfl rfl rfl (Run.assign rfl rfl) ?_
      refine WL.nil ?_
      refine tkN ?_
      refine hK15 _ _ ?_
      clear hK15
      refine WC.ret ?_
      refine retV1 rfl (resV.tmp rfl) ?_
      refine ⟨congrArg Ending.returned ?_, hs5.nil⟩
      rw [findI_none (F := encRect) (fun j hj => p1 j (by rw [f_s.len] at hj; omega))]
theorem c_impl_PlaceOf (A_t : Option Addr) (n_t c_t : Nat) (t : List NodeD) (w_ : Int) (h_ : Int) (p : Int) (w : World) (f_t : SlF encNode w A_t n_t t) (hn : n_t ≤ 268435456) :
    Calls Try.prog 36 #[.slice A_t n_t c_t, i64 w_, i64 h_, i64 p] w fun e w' => e = .returned (.tuple #[.agg (encRect.enc (placeR t w_ h_ p)).toArray, .bool (decide (0 ≤ placeAt t w_ h_ p))]) ∧ St w [] [] w' := by
  have hpl := placesL_len t w_ h_
  have hpa := placeAt_lt t w_ h_ p
  refine enter (vs := [.slice A_t n_t c_t, i64 w_, i64 h_, i64 p]) 30 Try.func36 rfl Try.ntmps36 rfl rfl ?_
  have hs1 := St.init w
  refine WC.seq (fun K2 hK2 => ?_)
  refine WC.region ?_
  refine WL.box hs1 rfl rfl rfl rfl rfl rfl (fun b3 whs4 hs4 => ?_)
  refine WL.alloc hs4 Try.zeroValue40 rfl rfl rfl rfl rfl (fun b5 whs6 hs6 => ?_)
  refine WL.val rfl rfl rfl (Run.assign rfl rfl) ?_
  refine WL.nil ?_
  refine tkN ?_
  refine hK2 _ _ ?_
  clear hK2
  refine WC.seq (fun K7 hK7 => ?_)
  refine WC.region ?_
  refine WL.val rfl rfl rfl (Run.move rfl rfl) ?_
  refine WL.val rfl rfl rfl (Run.move rfl rfl) ?_
  refine WL.val rfl rfl rfl (Run.move rfl rfl) ?_
  refine WL.call rfl rfl rfl (Run.call Try.call39 rfl rfl rfl) (c_impl_Places _ _ _ _ _ _ _ (SlF.st0 f_t hs6) ?_) ?_
  · first | assumption | rfl | omega
  rintro _ whs8 ⟨A9, c10, L111, rfl, hs8, ho12⟩
  replace hs8 := hs6.callF hs8
  refine ⟨_, rfl, ?_⟩
  replace hs8 := St.back [_, _] hs8
  refine WL.val rfl rfl rfl (Run.move rfl rfl) ?_
  refine WL.val rfl rfl rfl (Run.extract rfl rfl rfl) ?_
  refine WL.val rfl rfl rfl (Run.extract rfl rfl rfl) ?_
  refine WL.val rfl rfl rfl (Run.assign rfl rfl) ?_
  refine WL.val rfl rfl rfl (Run.assign rfl rfl) ?_
  refine WL.nil ?_
  refine tkN ?_
  refine hK7 _ _ ?_
  clear hK7
  refine WC.seq (fun K13 hK13 => ?_)
  refine WC.region ?_
  refine WL.val rfl rfl rfl (Run.move rfl rfl) ?_
  refine WL.val rfl rfl rfl (Run.makeFunc rfl rfl) ?_
  refine WL.call rfl rfl rfl (Run.call Try.call70 rfl rfl rfl) (c_slices_IndexFunc_impl_Rect_impl_Rect_2 _ _ _ _ _ _ _ (SlF.ofOwn ho12 (fun p_ hp_ => (hs8.own p_ (List.mem_append_right [_, _] (List.mem_append_left _ hp_))).1)) (SlF.own1 (hs8.own _ (nthL_mem (i := 1) rfl)).1) ?_) ?_
  · first | assumption | rfl | omega
  rintro _ whs14 ⟨rfl, hs14⟩
  replace hs14 := hs8.call0 hs14
  refine ⟨_, rfl, ?_⟩
  refine WL.val rfl rfl rfl (Run.assign rfl rfl) ?_
  refine WL.nil ?_
  refine tkN ?_
  refine hK13 _ _ ?_
  clear hK13
  refine WC.seq (fun K15 hK15 => ?_)
  refine WC.seq (fun K16 hK16 => ?_)
  refine WC.region ?_
  refine WL.val rfl rfl rfl (Run.move rfl rfl) ?_
  refine WL.val rfl rfl rfl (Run.lss rfl rfl rfl) ?_
  refine WL.nil ?_
  refine tkN ?_
  refine hK16 _ _ ?_
  clear hK16
  refine WC.cond rfl (fun h17 => ?_) (fun h17 => ?_)
  · have qh17 := h17
    try simp only [decide_eq_true_eq, decide_eq_false_iff_not, Bool.not_eq_true', Bool.not_eq_false', Bool.and_eq_true, Bool.or_eq_false_iff, within_iff, within_not] at qh17
    have hk : ¬ 0 ≤ placeAt t w_ h_ p := by show ¬ 0 ≤ findI _ _; omega
    refine WC.seq (fun K18 hK18 => ?_)
    refine WC.region ?_
    refine WL.val rfl rfl rfl (Run.build rfl rfl rfl rfl (built_40)) ?_
    refine WL.storeA hs14 0 Try.sizeOf40 rfl rfl rfl rfl rfl rfl rfl rfl rfl (Nat.le_of_ble_eq_true rfl) (.inl (Nat.le_of_ble_eq_true rfl)) (fun whs19 hs19 => ?_)
    refine WL.val rfl rfl rfl (Run.assign rfl rfl) ?_
    refine WL.nil ?_
    refine tkN ?_
    refine hK18 _ _ ?_
    clear hK18
    refine WC.ret ?_
    refine tkR ?_
    clear hK15
    refine retV2 rfl (resV.cell rfl (run_loadVarA Try.isAgg40 Try.sizeOf40 (cells_of_heap (hs19.own _ (nthL_mem (i := 0) rfl)).1 rfl rfl))) (resV.tmp rfl) ?_
    refine ⟨congrArg Ending.returned ?_, hs19.nil⟩
    rw [placeR, if_neg hk, decide_eq_false hk]; rfl
  · have qh17 := h17
    try simp only [decide_eq_true_eq, decide_eq_false_iff_not, Bool.not_eq_true', Bool.not_eq_false', Bool.and_eq_true, Bool.or_eq_false_iff, within_iff, within_not] at qh17
    have hk : 0 ≤ placeAt t w_ h_ p := by show 0 ≤ findI _ _; omega
    have hpe : findI (fun r : RectD => decide (r.Pane = p)) (placesL t w_ h_) = placeAt t w_ h_ p := rfl
    refine WC.skip ?_
    refine tkN ?_
    refine hK15 _ _ ?_
    clear hK15
    refine WC.seq (fun K20 hK20 => ?_)
    refine WC.region ?_
    refine WL.val rfl rfl rfl (Run.move rfl rfl) ?_
    refine WL.val rfl rfl rfl (Run.move rfl rfl) ?_
    refine WL.val rfl rfl rfl (Run.idxK ((placeAt t w_ h_ p).toNat) Try.runUnderlying48 Try.sizeOf40 rfl rfl rfl ?_ ?_ ?_) ?_
    · exact SlF.some_ (SlF.ofOwn ho12 (fun p_ hp_ => (hs14.own p_ (List.mem_append_right [_, _] (List.mem_append_left _ hp_))).1))
    · omega
    · omega
    refine WL.val rfl rfl rfl (Run.loadA Try.isAgg40 Try.sizeOf40 rfl rfl (SlF.whole (SlF.ofOwn ho12 (fun p_ hp_ => (hs14.own p_ (List.mem_append_right [_, _] (List.mem_append_left _ hp_))).1)) ?_)) ?_
    · omega
    refine WL.storeA hs14 0 Try.sizeOf40 rfl rfl rfl rfl rfl rfl rfl rfl rfl (Nat.le_of_ble_eq_true rfl) (.inl (Nat.le_of_ble_eq_true rfl)) (fun whs21 hs21 => ?_)
    refine WL.val rfl rfl rfl (Run.assign rfl rfl) ?_
    refine WL.nil ?_
    refine tkN ?_
    refine hK20 _ _ ?_
    clear hK20
    refine WC.ret ?_
    refine retV2 rfl (resV.cell rfl (run_loadVarA Try.isAgg40 Try.sizeOf40 (cells_of_heap (hs21.own _ (nthL_mem (i := 0) rfl)).1 rfl rfl))) (resV.tmp rfl) ?_
    refine ⟨congrArg Ending.returned ?_, hs21.nil⟩
    rw [placeR, if_pos hk, decide_eq_true hk]; rfl
theorem c_spec_PlaceOf (A_t : Option Addr) (n_t c_t : Nat) (t : List NodeD) (w_ : Int) (h_ : Int) (p : Int) (w : World) (f_t : SlF encNode w A_t n_t t) (hn : n_t ≤ 268435456) :
    Calls Try.prog 35 #[.slice A_t n_t c_t, i64 w_, i64 h_, i64 p] w fun e w' => e = .returned (.tuple #[.agg (encRect.enc (placeR t w_ h_ p)).toArray, .bool (decide (0 ≤ placeAt t w_ h_ p))]) ∧ St w [] [] w' := by
  have hpl := placesL_len t w_ h_
  refine enter (vs := [.slice A_t n_t c_t, i64 w_, i64 h_, i64 p]) 34 Try.func35 rfl Try.ntmps35 rfl rfl ?_
  have hs1 := St.init w
  refine WC.seq (fun K2 hK2 => ?_)
  refine WC.region ?_
  refine WL.alloc hs1 Try.zeroValue40 rfl rfl rfl rfl rfl (fun b3 whs4 hs4 => ?_)
  refine WL.val rfl rfl rfl (Run.assign rfl rfl) ?_
  refine WL.nil ?_
  refine tkN ?_
  refine hK2 _ _ ?_
  clear hK2
  refine WC.seq (fun K5 hK5 => ?_)
  refine WC.region ?_
  refine WL.val rfl rfl rfl (Run.move rfl rfl) ?_
  refine WL.val rfl rfl rfl (Run.move rfl rfl) ?_
  refine WL.val rfl rfl rfl (Run.move rfl rfl) ?_
  refine WL.call rfl rfl rfl (Run.call Try.call42 rfl rfl rfl) (c_spec_Places _ _ _ _ _ _ _ (SlF.st0 f_t hs4) ?_) ?_
  · first | assumption | rfl | omega
  rintro _ whs6 ⟨A7, c8, L19, rfl, hs6, ho10⟩
  replace hs6 := hs4.callF hs6
  refine ⟨_, rfl, ?_⟩
  replace hs6 := St.back [_] hs6
  refine WL.val rfl rfl rfl (Run.move rfl rfl) ?_
  refine WL.val rfl rfl rfl (Run.extract rfl rfl rfl) ?_
  refine WL.val rfl rfl rfl (Run.extract rfl rfl rfl) ?_
  refine WL.val rfl rfl rfl (Run.assign rfl rfl) ?_
  refine WL.val rfl rfl rfl (Run.assign rfl rfl) ?_
  refine WL.nil ?_
  refine tkN ?_
  refine hK5 _ _ ?_
  clear hK5
  refine WC.seq (fun K11 hK11 => ?_)
  refine WC.seq (fun K12 hK12 => ?_)
  refine WC.region ?_
  refine WL.val rfl rfl rfl (Run.move rfl rfl) ?_
  refine WL.val rfl rfl rfl (Run.lenSl Try.runUnderlying48 rfl rfl) ?_
  refine WL.val rfl rfl rfl (Run.move rfl rfl) ?_
  refine WL.nil ?_
  refine tkN ?_
  refine hK12 _ _ ?_
  clear hK12
  refine WC.block ?_
  refine WC.loopS [(0, _), (1, _), (2, _), (3, _), (8, _), (10, _), (14, _), (15, _), (16, _), (17, _), (18, _), (19, _), (20, _), (21, _), (22, _)] ⟨rfl, rfl, rfl, rfl, rfl, rfl, rfl, rfl, rfl, rfl, rfl, rfl, rfl, rfl, rfl, trivial⟩ hs6 (fun k_ f w' => ∃ (i : Nat), k_ = (placesL t w_ h_).length - i ∧ (i ≤ (placesL t w_ h_).length) ∧ (∀ j, j < i → (fun r : RectD => decide (r.Pane = p)) (gat encRect (placesL t w_ h_) j) = false) ∧ Sub [(23, .int .i64 i)] f) ((fun (i : Nat) => (placesL t w_ h_).length - i) (0)) ?_ ?_
  · refine ⟨0, rfl, ?_, ?_, ⟨rfl, trivial⟩⟩
    · exact Nat.zero_le _
    · exact fun j hj => absurd hj (by omega)
  · clear hs6
    rintro _ f w ⟨i, rfl, p0, p1, hG⟩ hF hs13
    refine WC.sub _ (hG.app hF) ?_
    clear hG hF
    refine WC.seq (fun K14 hK14 => ?_)
    refine WC.region ?_
    refine WL.val rfl rfl rfl (Run.lss rfl rfl rfl) ?_
    refine WL.nil ?_
    refine tkN ?_
    refine hK14 _ _ ?_
    clear hK14
    refine WC.seq (fun K15 hK15 => ?_)
    refine WC.cond rfl (fun h16 => ?_) (fun h16 => ?_)
    · have qh16 := h16
      try simp only [decide_eq_true_eq, decide_eq_false_iff_not, Bool.not_eq_true', Bool.not_eq_false', Bool.and_eq_true, Bool.or_eq_false_iff, within_iff, within_not] at qh16
      refine WC.skip ?_
      refine tkN ?_
      refine hK15 _ _ ?_
      clear hK15
      refine WC.seq (fun K17 hK17 => ?_)
      refine WC.block ?_
      refine WC.seq (fun K18 hK18 => ?_)
      refine WC.region ?_
      refine WL.val rfl rfl rfl (Run.idxN Try.runUnderlying48 Try.sizeOf40 rfl rfl rfl ?_ ?_ ?_) ?_
      · exact SlF.some_ (SlF.ofOwn ho10 (fun p_ hp_ => (hs13.own p_ (List.mem_append_right [_] (List.mem_append_left _ hp_))).1))
      · omega
      · omega
      refine WL.val rfl rfl rfl (Run.loadA Try.isAgg40 Try.sizeOf40 rfl rfl (SlF.whole (SlF.ofOwn ho10 (fun p_ hp_ => (hs13.own p_ (List.mem_append_right [_] (List.mem_append_left _ hp_))).1)) ?_)) ?_
      · omega
      refine WL.alloc hs13 Try.zeroValue40 rfl rfl rfl rfl rfl (fun b19 whs20 hs20 => ?_)
      refine WL.storeA hs20 0 Try.sizeOf40 rfl rfl rfl rfl rfl rfl rfl rfl rfl (Nat.le_of_ble_eq_true rfl) (.inl (Nat.le_of_ble_eq_true rfl)) (fun whs21 hs21 => ?_)
      refine WL.nil ?_
      refine tkN ?_
      refine hK18 _ _ ?_
      clear hK18
      refine WC.seq (fun K22 hK22 => ?_)
      refine WC.region ?_
      refine WL.val rfl rfl rfl (Run.field Try.runUnderlying40 rfl rfl rfl Try.sizeOf3 rfl) ?_
      refine WL.val rfl rfl rfl (Run.loadL hs21 0 Try.isAgg3 rfl rfl rfl rfl) ?_
      refine WL.val rfl rfl rfl (Run.move rfl rfl) ?_
      refine WL.val rfl rfl rfl (Run.eql rfl rfl rfl) ?_
      refine WL.nil ?_
      refine tkN ?_
      refine hK22 _ _ ?_
      clear hK22
      refine WC.cond rfl (fun h23 => ?_) (fun h23 => ?_)
      · have qh23 := h23
        try simp only [decide_eq_true_eq, decide_eq_false_iff_not, Bool.not_eq_true', Bool.not_eq_false', Bool.and_eq_true, Bool.or_eq_false_iff, within_iff, within_not] at qh23
        have hfi : placeAt t w_ h_ p = (i : Int) := findI_some (F := encRect) (by omega) p1 h23
        refine WC.seq (fun K24 hK24 => ?_)
        refine WC.region ?_
        refine WL.val rfl rfl rfl (Run.loadLA hs21 0 Try.isAgg40 Try.sizeOf40 rfl rfl rfl rfl rfl) ?_
        refine WL.storeA hs21 1 Try.sizeOf40 rfl rfl rfl rfl rfl rfl rfl rfl rfl (Nat.le_of_ble_eq_true rfl) (.inl (Nat.le_of_ble_eq_true rfl)) (fun whs25 hs25 => ?_)
        refine WL.val rfl rfl rfl (Run.assign rfl rfl) ?_
        refine WL.nil ?_
        refine tkN ?_
        refine hK24 _ _ ?_
        clear hK24
        refine WC.ret ?_
        refine ibR ?_
        refine tkR ?_
        refine tkR ?_
        refine ibR ?_
        refine tkR ?_
        clear hK17 hK11
        refine retV2 rfl (resV.cell rfl (run_loadVarA Try.isAgg40 Try.sizeOf40 (cells_of_heap (hs25.own _ (nthL_mem (i := 1) rfl)).1 rfl rfl))) (resV.tmp rfl) ?_
        refine ⟨congrArg Ending.returned ?_, hs25.nil⟩
        rw [placeR, hfi, if_pos (by omega), decide_eq_true (by omega)]; rfl
      · have qh23 := h23
        try simp only [decide_eq_true_eq, decide_eq_false_iff_not, Bool.not_eq_true', Bool.not_eq_false', Bool.and_eq_true, Bool.or_eq_false_iff, within_iff, within_not] at qh23
        refine WC.skip ?_
        refine ibN ?_
        refine tkN ?_
        refine hK17 _ _ ?_
        clear hK17
        refine WC.region ?_
        refine WL.val rfl rfl rfl (Run.add rfl rfl rfl ?_) ?_
        · constructor <;> omega
        refine WL.val rfl rfl rfl (Run.move rfl rfl) ?_
        refine WL.nil ?_
        refine tkN ?_
        refine ⟨⟨rfl, rfl, rfl, rfl, rfl, rfl, rfl, rfl, rfl, rfl, rfl, rfl, rfl, rfl, rfl, trivial⟩, (hs21.drop (by repeat (first | exact List.Sublist.refl _ | exact List.sublist_append_left _ _ | exact List.Sublist.trans (List.sublist_append_left _ _) (List.sublist_append_left _ _) | apply List.Sublist.cons | refine List.Sublist.trans ?_ (List.sublist_append_right _ _)))), _, ?_, i + 1, rfl, ?_, ?_, ⟨rfl, trivial⟩⟩
        · omega
        · omega
        · intro j hj; rcases Nat.lt_or_ge j i with h_0 | h_0
          · exact p1 j h_0
          · obtain rfl : j = i := by omega
            exact h23
    · have qh16 := h16
      try simp only [decide_eq_true_eq, decide_eq_false_iff_not, Bool.not_eq_true', Bool.not_eq_false', Bool.and_eq_true, Bool.or_eq_false_iff, within_iff, within_not] at qh16
      have hfi : placeAt t w_ h_ p = -1 := findI_none (F := encRect) (fun j hj => p1 j (by omega))
      refine WC.exit ?_
      refine tkE ?_
      refine tkE ?_
      refine ibE ?_
      refine tkN ?_
      refine hK11 _ _ ?_
      clear hK11
      refine WC.seq (fun K26 hK26 => ?_)
      refine WC.region ?_
      refine WL.val rfl rfl rfl (Run.build rfl rfl rfl rfl (built_40)) ?_
      refine WL.storeA hs13 0 Try.sizeOf40 rfl rfl rfl rfl rfl rfl rfl rfl rfl (Nat.le_of_ble_eq_true rfl) (.inl (Nat.le_of_ble_eq_true rfl)) (fun whs27 hs27 => ?_)
      refine WL.val rfl rfl rfl (Run.assign rfl rfl) ?_
      refine WL.nil ?_
      refine tkN ?_
      refine hK26 _ _ ?_
      clear hK26
      refine WC.ret ?_
      refine retV2 rfl (resV.cell rfl (run_loadVarA Try.isAgg40 Try.sizeOf40 (cells_of_heap (hs27.own _ (nthL_mem (i := 0) rfl)).1 rfl rfl))) (resV.tmp rfl) ?_
      refine ⟨congrArg Ending.returned ?_, hs27.nil⟩
      rw [placeR, hfi]; rfl
theorem c_impl_meet (a n b m : Int) (w : World) (hb : -1000 ≤ a ∧ a ≤ 1000 ∧ -1000 ≤ n ∧ n ≤ 1000 ∧ -1000 ≤ b ∧ b ≤ 1000 ∧ -1000 ≤ m ∧ m ≤ 1000) :
    Calls Try.prog 92 #[i64 a, i64 n, i64 b, i64 m] w fun e w' => e = .returned (.bool (meetB a n b m)) ∧ St w [] [] w' := by
  refine enter (vs := [i64 a, i64 n, i64 b, i64 m]) 21 Try.func92 rfl Try.ntmps92 rfl rfl ?_
  have hs1 := St.init w
  refine WC.seq (fun K2 hK2 => ?_)
  refine WC.region ?_
  refine WL.val rfl rfl rfl (Run.assign rfl rfl) ?_
  refine WL.nil ?_
  refine tkN ?_
  refine hK2 _ _ ?_
  clear hK2
  refine WC.seq (fun K3 hK3 => ?_)
  refine WC.region ?_
  refine WL.val rfl rfl rfl (Run.move rfl rfl) ?_
  refine WL.val rfl rfl rfl (Run.move rfl rfl) ?_
  refine WL.val rfl rfl rfl (Run.move rfl rfl) ?_
  refine WL.val rfl rfl rfl (Run.add rfl rfl rfl ?_) ?_
  · constructor <;> omega
  refine WL.val rfl rfl rfl (Run.lss rfl rfl rfl) ?_
  refine WL.val rfl rfl rfl (Run.move rfl rfl) ?_
  apply WL.meetAnd 6 14 20 [(0, _), (1, _), (2, _), (3, _), (8, _)] rfl hs1
  · intro g4 J5
    have qg4 := g4
    try simp only [decide_eq_true_eq, decide_eq_false_iff_not, Bool.not_eq_true', Bool.not_eq_false'] at qg4
    refine WL.val (wantT rfl g4) rfl rfl (Run.move rfl rfl) ?_
    refine WL.val (wantT rfl g4) rfl rfl (Run.move rfl rfl) ?_
    refine WL.val (wantT rfl g4) rfl rfl (Run.move rfl rfl) ?_
    refine WL.val (wantT rfl g4) rfl rfl (Run.add rfl rfl rfl ?_) ?_
    · constructor <;> omega
    refine WL.val (wantT rfl g4) rfl rfl (Run.lss rfl rfl rfl) ?_
    refine WL.val rfl rfl rfl (Run.pickT rfl rfl g4 rfl) ?_
    exact WL.fin J5 hs1 rfl (andT g4) ⟨rfl, rfl, rfl, rfl, rfl, trivial⟩
  · intro g4 J5
    refine WL.skip (wantNT rfl g4) rfl rfl ?_
    refine WL.skip (wantNT rfl g4) rfl rfl ?_
    refine WL.skip (wantNT rfl g4) rfl rfl ?_
    refine WL.skip (wantNT rfl g4) rfl rfl ?_
    refine WL.skip (wantNT rfl g4) rfl rfl ?_
    refine WL.val rfl rfl rfl (Run.pickF rfl rfl g4 rfl) ?_
    exact WL.fin J5 hs1 rfl (andF g4) ⟨rfl, rfl, rfl, rfl, rfl, trivial⟩
  · intro whs6 hs6
    refine WL.val rfl rfl rfl (Run.assign rfl rfl) ?_
    refine WL.nil ?_
    refine tkN ?_
    refine hK3 _ _ ?_
    clear hK3
    refine WC.ret ?_
    refine retV1 rfl (resV.tmp rfl) ?_
    refine ⟨congrArg Ending.returned ?_, hs6.nil⟩
    rfl
theorem c_spec_l13Meet (a n b m : Int) (w : World) (hb : -1000 ≤ a ∧ a ≤ 1000 ∧ -1000 ≤ n ∧ n ≤ 1000 ∧ -1000 ≤ b ∧ b ≤ 1000 ∧ -1000 ≤ m ∧ m ≤ 1000) :
    Calls Try.prog 77 #[i64 a, i64 n, i64 b, i64 m] w fun e w' => e = .returned (.bool (meetB a n b m)) ∧ St w [] [] w' := by
  refine enter (vs := [i64 a, i64 n, i64 b, i64 m]) 21 Try.func77 rfl Try.ntmps77 rfl rfl ?_
  have hs1 := St.init w
  refine WC.seq (fun K2 hK2 => ?_)
  refine WC.region ?_
  refine WL.val rfl rfl rfl (Run.assign rfl rfl) ?_
  refine WL.nil ?_
  refine tkN ?_
  refine hK2 _ _ ?_
  clear hK2
  refine WC.seq (fun K3 hK3 => ?_)
  refine WC.region ?_
  refine WL.val rfl rfl rfl (Run.move rfl rfl) ?_
  refine WL.val rfl rfl rfl (Run.move rfl rfl) ?_
  refine WL.val rfl rfl rfl (Run.move rfl rfl) ?_
  refine WL.val rfl rfl rfl (Run.add rfl rfl rfl ?_) ?_
  · constructor <;> omega
  refine WL.val rfl rfl rfl (Run.lss rfl rfl rfl) ?_
  refine WL.val rfl rfl rfl (Run.move rfl rfl) ?_
  apply WL.meetAnd 6 14 20 [(0, _), (1, _), (2, _), (3, _), (8, _)] rfl hs1
  · intro g4 J5
    have qg4 := g4
    try simp only [decide_eq_true_eq, decide_eq_false_iff_not, Bool.not_eq_true', Bool.not_eq_false'] at qg4
    refine WL.val (wantT rfl g4) rfl rfl (Run.move rfl rfl) ?_
    refine WL.val (wantT rfl g4) rfl rfl (Run.move rfl rfl) ?_
    refine WL.val (wantT rfl g4) rfl rfl (Run.move rfl rfl) ?_
    refine WL.val (wantT rfl g4) rfl rfl (Run.add rfl rfl rfl ?_) ?_
    · constructor <;> omega
    refine WL.val (wantT rfl g4) rfl rfl (Run.lss rfl rfl rfl) ?_
    refine WL.val rfl rfl rfl (Run.pickT rfl rfl g4 rfl) ?_
    exact WL.fin J5 hs1 rfl (andT g4) ⟨rfl, rfl, rfl, rfl, rfl, trivial⟩
  · intro g4 J5
    refine WL.skip (wantNT rfl g4) rfl rfl ?_
    refine WL.skip (wantNT rfl g4) rfl rfl ?_
    refine WL.skip (wantNT rfl g4) rfl rfl ?_
    refine WL.skip (wantNT rfl g4) rfl rfl ?_
    refine WL.skip (wantNT rfl g4) rfl rfl ?_
    refine WL.val rfl rfl rfl (Run.pickF rfl rfl g4 rfl) ?_
    exact WL.fin J5 hs1 rfl (andF g4) ⟨rfl, rfl, rfl, rfl, rfl, trivial⟩
  · intro whs6 hs6
    refine WL.val rfl rfl rfl (Run.assign rfl rfl) ?_
    refine WL.nil ?_
    refine tkN ?_
    refine hK3 _ _ ?_
    clear hK3
    refine WC.ret ?_
    refine retV1 rfl (resV.tmp rfl) ?_
    refine ⟨congrArg Ending.returned ?_, hs6.nil⟩
    rfl
set_option maxHeartbeats 2000000 in
theorem c_impl_isBeside (r_Pane : Int) (r_X : Int) (r_Y : Int) (r_W : Int) (r_H : Int) (own_Pane : Int) (own_X : Int) (own_Y : Int) (own_W : Int) (own_H : Int) (side : Int) (w : World) (br : 0 ≤ r_X ∧ r_X ≤ 1000 ∧ 0 ≤ r_Y ∧ r_Y ≤ 1000 ∧ 0 ≤ r_W ∧ r_W ≤ 1000 ∧ 0 ≤ r_H ∧ r_H ≤ 1000) (bown : 0 ≤ own_X ∧ own_X ≤ 1000 ∧ 0 ≤ own_Y ∧ own_Y ≤ 1000 ∧ 0 ≤ own_W ∧ own_W ≤ 1000 ∧ 0 ≤ own_H ∧ own_H ≤ 1000) :
    Calls Try.prog 78 #[.agg #[i64 r_Pane, i64 r_X, i64 r_Y, i64 r_W, i64 r_H], .agg #[i64 own_Pane, i64 own_X, i64 own_Y, i64 own_W, i64 own_H], i64 side] w fun e w' => e = .returned (.bool (besideB ⟨r_Pane, r_X, r_Y, r_W, r_H⟩ ⟨own_Pane, own_X, own_Y, own_W, own_H⟩ side)) ∧ St w [] [] w' := by
  refine enter (vs := [.agg #[i64 r_Pane, i64 r_X, i64 r_Y, i64 r_W, i64 r_H], .agg #[i64 own_Pane, i64 own_X, i64 own_Y, i64 own_W, i64 own_H], i64 side]) 96 Try.func78 rfl Try.ntmps78 rfl rfl ?_
  have hs1 := St.init w
  refine WC.seq (fun K2 hK2 => ?_)
  refine WC.region ?_
  refine WL.box hs1 rfl rfl rfl rfl rfl rfl (fun b3 whs4 hs4 => ?_)
  refine WL.box hs4 rfl rfl rfl rfl rfl rfl (fun b5 whs6 hs6 => ?_)
  refine WL.val rfl rfl rfl (Run.assign rfl rfl) ?_
  refine WL.nil ?_
  refine tkN ?_
  refine hK2 _ _ ?_
  clear hK2
  refine WC.seq (fun K7 hK7 => ?_)
  refine WC.seq (fun K8 hK8 => ?_)
  refine WC.region ?_
  refine WL.val rfl rfl rfl (Run.move rfl rfl) ?_
  refine WL.nil ?_
  refine tkN ?_
  refine hK8 _ _ ?_
  clear hK8
  refine WC.block ?_
  refine WC.seq (fun K9 hK9 => ?_)
  refine WC.region ?_
  refine WL.val rfl rfl rfl (Run.eql rfl rfl rfl) ?_
  refine WL.val rfl rfl rfl (Run.assign rfl rfl) ?_
  refine WL.nil ?_
  refine tkN ?_
  refine hK9 _ _ ?_
  clear hK9
  refine WC.cond rfl (fun h10 => ?_) (fun h10 => ?_)
  · have qh10 := h10
    try simp only [decide_eq_true_eq, decide_eq_false_iff_not, Bool.not_eq_true', Bool.not_eq_false', Bool.and_eq_true, Bool.or_eq_false_iff, within_iff, within_not] at qh10
    refine WC.seq (fun K11 hK11 => ?_)
    refine WC.region ?_
    refine WL.val rfl rfl rfl (Run.field Try.runUnderlying40 rfl rfl rfl Try.sizeOf3 rfl) ?_
    refine WL.val rfl rfl rfl (Run.loadL hs6 1 Try.isAgg3 rfl rfl rfl rfl) ?_
    refine WL.val rfl rfl rfl (Run.field Try.runUnderlying40 rfl rfl rfl Try.sizeOf3 rfl) ?_
    refine WL.val rfl rfl rfl (Run.loadL hs6 1 Try.isAgg3 rfl rfl rfl rfl) ?_
    refine WL.val rfl rfl rfl (Run.add rfl rfl rfl ?_) ?_
    · constructor <;> omega
    refine WL.val rfl rfl rfl (Run.add rfl rfl rfl ?_) ?_
    · constructor <;> omega
    refine WL.val rfl rfl rfl (Run.field Try.runUnderlying40 rfl rfl rfl Try.sizeOf3 rfl) ?_
    refine WL.val rfl rfl rfl (Run.loadL hs6 0 Try.isAgg3 rfl rfl rfl rfl) ?_
    refine WL.val rfl rfl rfl (Run.eql rfl rfl rfl) ?_
    refine WL.val rfl rfl rfl (Run.move rfl rfl) ?_
    apply WL.meetAnd 10 19 29 [(0, _), (1, _), (2, _), (3, _), (4, _), (6, _), (7, _), (8, _), (9, _)] rfl hs6
    · intro g12 J13
      have qg12 := g12
      try simp only [decide_eq_true_eq, decide_eq_false_iff_not, Bool.not_eq_true', Bool.not_eq_false'] at qg12
      refine WL.val (wantT rfl g12) rfl rfl (Run.field Try.runUnderlying40 rfl rfl rfl Try.sizeOf3 rfl) ?_
      refine WL.val (wantT rfl g12) rfl rfl (Run.loadL hs6 1 Try.isAgg3 rfl rfl rfl rfl) ?_
      refine WL.val (wantT rfl g12) rfl rfl (Run.field Try.runUnderlying40 rfl rfl rfl Try.sizeOf3 rfl) ?_
      refine WL.val (wantT rfl g12) rfl rfl (Run.loadL hs6 1 Try.isAgg3 rfl rfl rfl rfl) ?_
      refine WL.val (wantT rfl g12) rfl rfl (Run.field Try.runUnderlying40 rfl rfl rfl Try.sizeOf3 rfl) ?_
      refine WL.val (wantT rfl g12) rfl rfl (Run.loadL hs6 0 Try.isAgg3 rfl rfl rfl rfl) ?_
      refine WL.val (wantT rfl g12) rfl rfl (Run.field Try.runUnderlying40 rfl rfl rfl Try.sizeOf3 rfl) ?_
      refine WL.val (wantT rfl g12) rfl rfl (Run.loadL hs6 0 Try.isAgg3 rfl rfl rfl rfl) ?_
      refine WL.call (wantT rfl g12) rfl rfl (Run.call Try.call92 rfl rfl rfl) (c_impl_meet _ _ _ _ _ ?_) ?_
      · first | assumption | rfl | omega
      rintro _ whs14 ⟨rfl, hs14⟩
      replace hs14 := hs6.call0 hs14
      refine ⟨_, rfl, ?_⟩
      refine WL.val rfl rfl rfl (Run.pickT rfl rfl g12 rfl) ?_
      exact WL.fin J13 hs14 rfl (andT g12) ⟨rfl, rfl, rfl, rfl, rfl, rfl, rfl, rfl, rfl, trivial⟩
    · intro g12 J13
      refine WL.skip (wantNT rfl g12) rfl rfl ?_
      refine WL.skip (wantNT rfl g12) rfl rfl ?_
      refine WL.skip (wantNT rfl g12) rfl rfl ?_
      refine WL.skip (wantNT rfl g12) rfl rfl ?_
      refine WL.skip (wantNT rfl g12) rfl rfl ?_
      refine WL.skip (wantNT rfl g12) rfl rfl ?_
      refine WL.skip (wantNT rfl g12) rfl rfl ?_
      refine WL.skip (wantNT rfl g12) rfl rfl ?_
      refine WL.skip (wantNT rfl g12) rfl rfl ?_
      refine WL.val rfl rfl rfl (Run.pickF rfl rfl g12 rfl) ?_
      exact WL.fin J13 hs6 rfl (andF g12) ⟨rfl, rfl, rfl, rfl, rfl, rfl, rfl, rfl, rfl, trivial⟩
    · intro whs15 hs15
      refine WL.val rfl rfl rfl (Run.assign rfl rfl) ?_
      refine WL.nil ?_
      refine tkN ?_
      refine hK11 _ _ ?_
      clear hK11
      refine WC.ret ?_
      refine ibR ?_
      refine tkR ?_
      clear hK7
      refine retV1 rfl (resV.tmp rfl) ?_
      refine ⟨congrArg Ending.returned ?_, hs15.nil⟩
      simp_all [besideB]
  · have qh10 := h10
    try simp only [decide_eq_true_eq, decide_eq_false_iff_not, Bool.not_eq_true', Bool.not_eq_false', Bool.and_eq_true, Bool.or_eq_false_iff, within_iff, within_not] at qh10
    refine WC.seq (fun K16 hK16 => ?_)
    refine WC.region ?_
    refine WL.val rfl rfl rfl (Run.eql rfl rfl rfl) ?_
    refine WL.val rfl rfl rfl (Run.assign rfl rfl) ?_
    refine WL.nil ?_
    refine tkN ?_
    refine hK16 _ _ ?_
    clear hK16
    refine WC.cond rfl (fun h17 => ?_) (fun h17 => ?_)
    · have qh17 := h17
      try simp only [decide_eq_true_eq, decide_eq_false_iff_not, Bool.not_eq_true', Bool.not_eq_false', Bool.and_eq_true, Bool.or_eq_false_iff, within_iff, within_not] at qh17
      refine WC.seq (fun K18 hK18 => ?_)
      refine WC.region ?_
      refine WL.val rfl rfl rfl (Run.field Try.runUnderlying40 rfl rfl rfl Try.sizeOf3 rfl) ?_
      refine WL.val rfl rfl rfl (Run.loadL hs6 0 Try.isAgg3 rfl rfl rfl rfl) ?_
      refine WL.val rfl rfl rfl (Run.field Try.runUnderlying40 rfl rfl rfl Try.sizeOf3 rfl) ?_
      refine WL.val rfl rfl rfl (Run.loadL hs6 0 Try.isAgg3 rfl rfl rfl rfl) ?_
      refine WL.val rfl rfl rfl (Run.add rfl rfl rfl ?_) ?_
      · constructor <;> omega
      refine WL.val rfl rfl rfl (Run.add rfl rfl rfl ?_) ?_
      · constructor <;> omega
      refine WL.val rfl rfl rfl (Run.field Try.runUnderlying40 rfl rfl rfl Try.sizeOf3 rfl) ?_
      refine WL.val rfl rfl rfl (Run.loadL hs6 1 Try.isAgg3 rfl rfl rfl rfl) ?_
      refine WL.val rfl rfl rfl (Run.eql rfl rfl rfl) ?_
      refine WL.val rfl rfl rfl (Run.move rfl rfl) ?_
      apply WL.meetAnd 10 41 51 [(0, _), (1, _), (2, _), (3, _), (4, _), (6, _), (7, _), (8, _), (9, _), (30, _), (31, _)] rfl hs6
      · intro g19 J20
        have qg19 := g19
        try simp only [decide_eq_true_eq, decide_eq_false_iff_not, Bool.not_eq_true', Bool.not_eq_false'] at qg19
        refine WL.val (wantT rfl g19) rfl rfl (Run.field Try.runUnderlying40 rfl rfl rfl Try.sizeOf3 rfl) ?_
        refine WL.val (wantT rfl g19) rfl rfl (Run.loadL hs6 1 Try.isAgg3 rfl rfl rfl rfl) ?_
        refine WL.val (wantT rfl g19) rfl rfl (Run.field Try.runUnderlying40 rfl rfl rfl Try.sizeOf3 rfl) ?_
        refine WL.val (wantT rfl g19) rfl rfl (Run.loadL hs6 1 Try.isAgg3 rfl rfl rfl rfl) ?_
        refine WL.val (wantT rfl g19) rfl rfl (Run.field Try.runUnderlying40 rfl rfl rfl Try.sizeOf3 rfl) ?_
        refine WL.val (wantT rfl g19) rfl rfl (Run.loadL hs6 0 Try.isAgg3 rfl rfl rfl rfl) ?_
        refine WL.val (wantT rfl g19) rfl rfl (Run.field Try.runUnderlying40 rfl rfl rfl Try.sizeOf3 rfl) ?_
        refine WL.val (wantT rfl g19) rfl rfl (Run.loadL hs6 0 Try.isAgg3 rfl rfl rfl rfl) ?_
        refine WL.call (wantT rfl g19) rfl rfl (Run.call Try.call92 rfl rfl rfl) (c_impl_meet _ _ _ _ _ ?_) ?_
        · first | assumption | rfl | omega
        rintro _ whs21 ⟨rfl, hs21⟩
        replace hs21 := hs6.call0 hs21
        refine ⟨_, rfl, ?_⟩
        refine WL.val rfl rfl rfl (Run.pickT rfl rfl g19 rfl) ?_
        exact WL.fin J20 hs21 rfl (andT g19) ⟨rfl, rfl, rfl, rfl, rfl, rfl, rfl, rfl, rfl, rfl, rfl, trivial⟩
      · intro g19 J20
        refine WL.skip (wantNT rfl g19) rfl rfl ?_
        refine WL.skip (wantNT rfl g19) rfl rfl ?_
        refine WL.skip (wantNT rfl g19) rfl rfl ?_
        refine WL.skip (wantNT rfl g19) rfl rfl ?_
        refine WL.skip (wantNT rfl g19) rfl rfl ?_
        refine WL.skip (wantNT rfl g19) rfl rfl ?_
        refine WL.skip (wantNT rfl g19) rfl rfl ?_
        refine WL.skip (wantNT rfl g19) rfl rfl ?_
        refine WL.skip (wantNT rfl g19) rfl rfl ?_
        refine WL.val rfl rfl rfl (Run.pickF rfl rfl g19 rfl) ?_
        exact WL.fin J20 hs6 rfl (andF g19) ⟨rfl, rfl, rfl, rfl, rfl, rfl, rfl, rfl, rfl, rfl, rfl, trivial⟩
      · intro whs22 hs22
        refine WL.val rfl rfl rfl (Run.assign rfl rfl) ?_
        refine WL.nil ?_
        refine tkN ?_
        refine hK18 _ _ ?_
        clear hK18
        refine WC.ret ?_
        refine ibR ?_
        refine tkR ?_
        clear hK7
        refine retV1 rfl (resV.tmp rfl) ?_
        refine ⟨congrArg Ending.returned ?_, hs22.nil⟩
        simp_all [besideB]
    · have qh17 := h17
      try simp only [decide_eq_true_eq, decide_eq_false_iff_not, Bool.not_eq_true', Bool.not_eq_false', Bool.and_eq_true, Bool.or_eq_false_iff, within_iff, within_not] at qh17
      refine WC.seq (fun K23 hK23 => ?_)
      refine WC.region ?_
      refine WL.val rfl rfl rfl (Run.eql rfl rfl rfl) ?_
      refine WL.val rfl rfl rfl (Run.assign rfl rfl) ?_
      refine WL.nil ?_
      refine tkN ?_
      refine hK23 _ _ ?_
      clear hK23
      refine WC.cond rfl (fun h24 => ?_) (fun h24 => ?_)
      · have qh24 := h24
        try simp only [decide_eq_true_eq, decide_eq_false_iff_not, Bool.not_eq_true', Bool.not_eq_false', Bool.and_eq_true, Bool.or_eq_false_iff, within_iff, within_not] at qh24
        refine WC.seq (fun K25 hK25 => ?_)
        refine WC.region ?_
        refine WL.val rfl rfl rfl (Run.field Try.runUnderlying40 rfl rfl rfl Try.sizeOf3 rfl) ?_
        refine WL.val rfl rfl rfl (Run.loadL hs6 1 Try.isAgg3 rfl rfl rfl rfl) ?_
        refine WL.val rfl rfl rfl (Run.field Try.runUnderlying40 rfl rfl rfl Try.sizeOf3 rfl) ?_
        refine WL.val rfl rfl rfl (Run.loadL hs6 1 Try.isAgg3 rfl rfl rfl rfl) ?_
        refine WL.val rfl rfl rfl (Run.add rfl rfl rfl ?_) ?_
        · constructor <;> omega
        refine WL.val rfl rfl rfl (Run.add rfl rfl rfl ?_) ?_
        · constructor <;> omega
        refine WL.val rfl rfl rfl (Run.field Try.runUnderlying40 rfl rfl rfl Try.sizeOf3 rfl) ?_
        refine WL.val rfl rfl rfl (Run.loadL hs6 0 Try.isAgg3 rfl rfl rfl rfl) ?_
        refine WL.val rfl rfl rfl (Run.eql rfl rfl rfl) ?_
        refine WL.val rfl rfl rfl (Run.move rfl rfl) ?_
        apply WL.meetAnd 10 63 73 [(0, _), (1, _), (2, _), (3, _), (4, _), (6, _), (7, _), (8, _), (9, _), (30, _), (31, _), (52, _), (53, _)] rfl hs6
        · intro g26 J27
          have qg26 := g26
          try simp only [decide_eq_true_eq, decide_eq_false_iff_not, Bool.not_eq_true', Bool.not_eq_false'] at qg26
          refine WL.val (wantT rfl g26) rfl rfl (Run.field Try.runUnderlying40 rfl rfl rfl Try.sizeOf3 rfl) ?_
          refine WL.val (wantT rfl g26) rfl rfl (Run.loadL hs6 1 Try.isAgg3 rfl rfl rfl rfl) ?_
          refine WL.val (wantT rfl g26) rfl rfl (Run.field Try.runUnderlying40 rfl rfl rfl Try.sizeOf3 rfl) ?_
          refine WL.val (wantT rfl g26) rfl rfl (Run.loadL hs6 1 Try.isAgg3 rfl rfl rfl rfl) ?_
          refine WL.val (wantT rfl g26) rfl rfl (Run.field Try.runUnderlying40 rfl rfl rfl Try.sizeOf3 rfl) ?_
          refine WL.val (wantT rfl g26) rfl rfl (Run.loadL hs6 0 Try.isAgg3 rfl rfl rfl rfl) ?_
          refine WL.val (wantT rfl g26) rfl rfl (Run.field Try.runUnderlying40 rfl rfl rfl Try.sizeOf3 rfl) ?_
          refine WL.val (wantT rfl g26) rfl rfl (Run.loadL hs6 0 Try.isAgg3 rfl rfl rfl rfl) ?_
          refine WL.call (wantT rfl g26) rfl rfl (Run.call Try.call92 rfl rfl rfl) (c_impl_meet _ _ _ _ _ ?_) ?_
          · first | assumption | rfl | omega
          rintro _ whs28 ⟨rfl, hs28⟩
          replace hs28 := hs6.call0 hs28
          refine ⟨_, rfl, ?_⟩
          refine WL.val rfl rfl rfl (Run.pickT rfl rfl g26 rfl) ?_
          exact WL.fin J27 hs28 rfl (andT g26) ⟨rfl, rfl, rfl, rfl, rfl, rfl, rfl, rfl, rfl, rfl, rfl, rfl, rfl, trivial⟩
        · intro g26 J27
          refine WL.skip (wantNT rfl g26) rfl rfl ?_
          refine WL.skip (wantNT rfl g26) rfl rfl ?_
          refine WL.skip (wantNT rfl g26) rfl rfl ?_
          refine WL.skip (wantNT rfl g26) rfl rfl ?_
          refine WL.skip (wantNT rfl g26) rfl rfl ?_
          refine WL.skip (wantNT rfl g26) rfl rfl ?_
          refine WL.skip (wantNT rfl g26) rfl rfl ?_
          refine WL.skip (wantNT rfl g26) rfl rfl ?_
          refine WL.skip (wantNT rfl g26) rfl rfl ?_
          refine WL.val rfl rfl rfl (Run.pickF rfl rfl g26 rfl) ?_
          exact WL.fin J27 hs6 rfl (andF g26) ⟨rfl, rfl, rfl, rfl, rfl, rfl, rfl, rfl, rfl, rfl, rfl, rfl, rfl, trivial⟩
        · intro whs29 hs29
          refine WL.val rfl rfl rfl (Run.assign rfl rfl) ?_
          refine WL.nil ?_
          refine tkN ?_
          refine hK25 _ _ ?_
          clear hK25
          refine WC.ret ?_
          refine ibR ?_
          refine tkR ?_
          clear hK7
          refine retV1 rfl (resV.tmp rfl) ?_
          refine ⟨congrArg Ending.returned ?_, hs29.nil⟩
          simp_all [besideB]
      · have qh24 := h24
        try simp only [decide_eq_true_eq, decide_eq_false_iff_not, Bool.not_eq_true', Bool.not_eq_false', Bool.and_eq_true, Bool.or_eq_false_iff, within_iff, within_not] at qh24
        refine WC.seq (fun K30 hK30 => ?_)
        refine WC.region ?_
        refine WL.val rfl rfl rfl (Run.eql rfl rfl rfl) ?_
        refine WL.val rfl rfl rfl (Run.assign rfl rfl) ?_
        refine WL.nil ?_
        refine tkN ?_
        refine hK30 _ _ ?_
        clear hK30
        refine WC.cond rfl (fun h31 => ?_) (fun h31 => ?_)
        · have qh31 := h31
          try simp only [decide_eq_true_eq, decide_eq_false_iff_not, Bool.not_eq_true', Bool.not_eq_false', Bool.and_eq_true, Bool.or_eq_false_iff, within_iff, within_not] at qh31
          refine WC.seq (fun K32 hK32 => ?_)
          refine WC.region ?_
          refine WL.val rfl rfl rfl (Run.field Try.runUnderlying40 rfl rfl rfl Try.sizeOf3 rfl) ?_
          refine WL.val rfl rfl rfl (Run.loadL hs6 0 Try.isAgg3 rfl rfl rfl rfl) ?_
          refine WL.val rfl rfl rfl (Run.field Try.runUnderlying40 rfl rfl rfl Try.sizeOf3 rfl) ?_
          refine WL.val rfl rfl rfl (Run.loadL hs6 0 Try.isAgg3 rfl rfl rfl rfl) ?_
          refine WL.val rfl rfl rfl (Run.add rfl rfl rfl ?_) ?_
          · constructor <;> omega
          refine WL.val rfl rfl rfl (Run.add rfl rfl rfl ?_) ?_
          · constructor <;> omega
          refine WL.val rfl rfl rfl (Run.field Try.runUnderlying40 rfl rfl rfl Try.sizeOf3 rfl) ?_
          refine WL.val rfl rfl rfl (Run.loadL hs6 1 Try.isAgg3 rfl rfl rfl rfl) ?_
          refine WL.val rfl rfl rfl (Run.eql rfl rfl rfl) ?_
          refine WL.val rfl rfl rfl (Run.move rfl rfl) ?_
          apply WL.meetAnd 10 85 95 [(0, _), (1, _), (2, _), (3, _), (4, _), (6, _), (7, _), (8, _), (9, _), (30, _), (31, _), (52, _), (53, _), (74, _), (75, _)] rfl hs6
          · intro g33 J34
            have qg33 := g33
            try simp only [decide_eq_true_eq, decide_eq_false_iff_not, Bool.not_eq_true', Bool.not_eq_false'] at qg33
            refine WL.val (wantT rfl g33) rfl rfl (Run.field Try.runUnderlying40 rfl rfl rfl Try.sizeOf3 rfl) ?_
            refine WL.val (wantT rfl g33) rfl rfl (Run.loadL hs6 1 Try.isAgg3 rfl rfl rfl rfl) ?_
            refine WL.val (wantT rfl g33) rfl rfl (Run.field Try.runUnderlying40 rfl rfl rfl Try.sizeOf3 rfl) ?_
            refine WL.val (wantT rfl g33) rfl rfl (Run.loadL hs6 1 Try.isAgg3 rfl rfl rfl rfl) ?_
            refine WL.val (wantT rfl g33) rfl rfl (Run.field Try.runUnderlying40 rfl rfl rfl Try.sizeOf3 rfl) ?_
            refine WL.val (wantT rfl g33) rfl rfl (Run.loadL hs6 0 Try.isAgg3 rfl rfl rfl rfl) ?_
            refine WL.val (wantT rfl g33) rfl rfl (Run.field Try.runUnderlying40 rfl rfl rfl Try.sizeOf3 rfl) ?_
            refine WL.val (wantT rfl g33) rfl rfl (Run.loadL hs6 0 Try.isAgg3 rfl rfl rfl rfl) ?_
            refine WL.call (wantT rfl g33) rfl rfl (Run.call Try.call92 rfl rfl rfl) (c_impl_meet _ _ _ _ _ ?_) ?_
            · first | assumption | rfl | omega
            rintro _ whs35 ⟨rfl, hs35⟩
            replace hs35 := hs6.call0 hs35
            refine ⟨_, rfl, ?_⟩
            refine WL.val rfl rfl rfl (Run.pickT rfl rfl g33 rfl) ?_
            exact WL.fin J34 hs35 rfl (andT g33) ⟨rfl, rfl, rfl, rfl, rfl, rfl, rfl, rfl, rfl, rfl, rfl, rfl, rfl, rfl, rfl, trivial⟩
          · intro g33 J34
            refine WL.skip (wantNT rfl g33) rfl rfl ?_
            refine WL.skip (wantNT rfl g33) rfl rfl ?_
            refine WL.skip (wantNT rfl g33) rfl rfl ?_
            refine WL.skip (wantNT rfl g33) rfl rfl ?_
            refine WL.skip (wantNT rfl g33) rfl rfl ?_
            refine WL.skip (wantNT rfl g33) rfl rfl ?_
            refine WL.skip (wantNT rfl g33) rfl rfl ?_
            refine WL.skip (wantNT rfl g33) rfl rfl ?_
            refine WL.skip (wantNT rfl g33) rfl rfl ?_
            refine WL.val rfl rfl rfl (Run.pickF rfl rfl g33 rfl) ?_
            exact WL.fin J34 hs6 rfl (andF g33) ⟨rfl, rfl, rfl, rfl, rfl, rfl, rfl, rfl, rfl, rfl, rfl, rfl, rfl, rfl, rfl, trivial⟩
          · intro whs36 hs36
            refine WL.val rfl rfl rfl (Run.assign rfl rfl) ?_
            refine WL.nil ?_
            refine tkN ?_
            refine hK32 _ _ ?_
            clear hK32
            refine WC.ret ?_
            refine ibR ?_
            refine tkR ?_
            clear hK7
            refine retV1 rfl (resV.tmp rfl) ?_
            refine ⟨congrArg Ending.returned ?_, hs36.nil⟩
            simp_all [besideB]
        · have qh31 := h31
          try simp only [decide_eq_true_eq, decide_eq_false_iff_not, Bool.not_eq_true', Bool.not_eq_false', Bool.and_eq_true, Bool.or_eq_false_iff, within_iff, within_not] at qh31
          refine WC.skip ?_
          refine ibN ?_
          refine tkN ?_
          refine hK7 _ _ ?_
          clear hK7
          refine WC.seq (fun K37 hK37 => ?_)
          refine WC.region ?_
          refine WL.val rfl rfl rfl (Run.assign rfl rfl) ?_
          refine WL.nil ?_
          refine tkN ?_
          refine hK37 _ _ ?_
          clear hK37
          refine WC.ret ?_
          refine retV1 rfl (resV.tmp rfl) ?_
          refine ⟨congrArg Ending.returned ?_, hs6.nil⟩
          simp_all [besideB]
end Go.Proofs.Ytghcicggamkjgaa
