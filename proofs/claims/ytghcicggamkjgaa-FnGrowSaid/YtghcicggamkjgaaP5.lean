/- Walks of Go functions, printed by a program (wip/gen). -/
import Derived.Test.YtghcicggamkjgaaP4
namespace Go.Proofs.Ytghcicggamkjgaa
open Go Go.RowKit
set_option linter.unusedVariables false
set_option linter.unusedSimpArgs false
set_option maxHeartbeats 4000000 in
theorem c_impl_Beside (A_t : Option Addr) (n_t c_t : Nat) (t : List NodeD) (p : Int) (side : Int) (w_ : Int) (h_ : Int) (w : World) (f_t : SlF encNode w A_t n_t t) (hn : n_t ≤ 268435456) :
    Calls Try.prog 41 #[.slice A_t n_t c_t, i64 p, i64 side, i64 w_, i64 h_] w fun e w' => e = .returned (.int .i64 (besideL t p side w_ h_)) ∧ St w [] [] w' := by
  have hpl := placesL_len t w_ h_
  have hbo := placeR_bound (t := t) (w := w_) (h := h_) (p := p)
  refine enter (vs := [.slice A_t n_t c_t, i64 p, i64 side, i64 w_, i64 h_]) 47 Try.func41 rfl Try.ntmps41 rfl rfl ?_
  have hs1 := St.init w
  refine WC.seq (fun K2 hK2 => ?_)
  refine WC.region ?_
  refine WL.val rfl rfl rfl (Run.assign rfl rfl) ?_
  refine WL.nil ?_
  refine tkN ?_
  refine hK2 _ _ ?_
  clear hK2
  refine WC.seq (fun K3 hK3 => ?_)
  refine WC.region ?_
  refine WL.val rfl rfl rfl (Run.move rfl rfl) ?_
  refine WL.val rfl rfl rfl (Run.move rfl rfl) ?_
  refine WL.val rfl rfl rfl (Run.move rfl rfl) ?_
  refine WL.val rfl rfl rfl (Run.move rfl rfl) ?_
  refine WL.call rfl rfl rfl (Run.call Try.call36 rfl rfl rfl) (c_impl_PlaceOf _ _ _ _ _ _ _ _ (SlF.st0 f_t hs1) ?_) ?_
  · first | assumption | rfl | omega
  rintro _ whs4 ⟨rfl, hs4⟩
  replace hs4 := hs1.call0 hs4
  refine ⟨_, rfl, ?_⟩
  refine WL.val rfl rfl rfl (Run.move rfl rfl) ?_
  refine WL.val rfl rfl rfl (Run.extract rfl rfl rfl) ?_
  refine WL.val rfl rfl rfl (Run.extract rfl rfl rfl) ?_
  refine WL.alloc hs4 Try.zeroValue40 rfl rfl rfl rfl rfl (fun b5 whs6 hs6 => ?_)
  refine WL.storeA hs6 0 Try.sizeOf40 rfl rfl rfl rfl rfl rfl rfl rfl rfl (Nat.le_of_ble_eq_true rfl) (.inl (Nat.le_of_ble_eq_true rfl)) (fun whs7 hs7 => ?_)
  refine WL.val rfl rfl rfl (Run.assign rfl rfl) ?_
  refine WL.nil ?_
  refine tkN ?_
  refine hK3 _ _ ?_
  clear hK3
  refine WC.seq (fun K8 hK8 => ?_)
  refine WC.seq (fun K9 hK9 => ?_)
  refine WC.region ?_
  refine WL.val rfl rfl rfl (Run.move rfl rfl) ?_
  refine WL.val rfl rfl rfl (Run.not rfl rfl) ?_
  refine WL.nil ?_
  refine tkN ?_
  refine hK9 _ _ ?_
  clear hK9
  refine WC.cond rfl (fun h10 => ?_) (fun h10 => ?_)
  · have qh10 := h10
    try simp only [decide_eq_true_eq, decide_eq_false_iff_not, Bool.not_eq_true', Bool.not_eq_false', Bool.and_eq_true, Bool.or_eq_false_iff, within_iff, within_not] at qh10
    have hk : ¬ 0 ≤ placeAt t w_ h_ p := by simpa using h10
    refine WC.seq (fun K11 hK11 => ?_)
    refine WC.region ?_
    refine WL.val rfl rfl rfl (Run.assign rfl rfl) ?_
    refine WL.nil ?_
    refine tkN ?_
    refine hK11 _ _ ?_
    clear hK11
    refine WC.ret ?_
    refine tkR ?_
    clear hK8
    refine retV1 rfl (resV.tmp rfl) ?_
    refine ⟨congrArg Ending.returned ?_, hs7.nil⟩
    rw [besideL, if_neg hk]
  · have qh10 := h10
    try simp only [decide_eq_true_eq, decide_eq_false_iff_not, Bool.not_eq_true', Bool.not_eq_false', Bool.and_eq_true, Bool.or_eq_false_iff, within_iff, within_not] at qh10
    have hk : 0 ≤ placeAt t w_ h_ p := by simpa using h10
    refine WC.skip ?_
    refine tkN ?_
    refine hK8 _ _ ?_
    clear hK8
    refine WC.seq (fun K12 hK12 => ?_)
    refine WC.region ?_
    refine WL.val rfl rfl rfl (Run.move rfl rfl) ?_
    refine WL.val rfl rfl rfl (Run.move rfl rfl) ?_
    refine WL.val rfl rfl rfl (Run.move rfl rfl) ?_
    refine WL.call rfl rfl rfl (Run.call Try.call39 rfl rfl rfl) (c_impl_Places _ _ _ _ _ _ _ (SlF.st0 f_t hs7) ?_) ?_
    · first | assumption | rfl | omega
    rintro _ whs13 ⟨A14, c15, L116, rfl, hs13, ho17⟩
    replace hs13 := hs7.callF hs13
    refine ⟨_, rfl, ?_⟩
    replace hs13 := St.back [_] hs13
    refine WL.val rfl rfl rfl (Run.move rfl rfl) ?_
    refine WL.val rfl rfl rfl (Run.extract rfl rfl rfl) ?_
    refine WL.val rfl rfl rfl (Run.extract rfl rfl rfl) ?_
    refine WL.val rfl rfl rfl (Run.assign rfl rfl) ?_
    refine WL.val rfl rfl rfl (Run.assign rfl rfl) ?_
    refine WL.nil ?_
    refine tkN ?_
    refine hK12 _ _ ?_
    clear hK12
    refine WC.seq (fun K18 hK18 => ?_)
    refine WC.seq (fun K19 hK19 => ?_)
    refine WC.region ?_
    refine WL.val rfl rfl rfl (Run.move rfl rfl) ?_
    refine WL.val rfl rfl rfl (Run.lenSl Try.runUnderlying48 rfl rfl) ?_
    refine WL.val rfl rfl rfl (Run.move rfl rfl) ?_
    refine WL.nil ?_
    refine tkN ?_
    refine hK19 _ _ ?_
    clear hK19
    refine WC.block ?_
    refine WC.loopS [(0, _), (1, _), (2, _), (3, _), (4, _), (11, _), (12, _), (13, _), (17, _), (18, _), (19, _), (20, _), (21, _), (22, _), (23, _), (24, _), (25, _), (26, _), (27, _), (28, _), (29, _), (30, _), (31, _), (32, _), (33, _), (34, _), (35, _)] ⟨rfl, rfl, rfl, rfl, rfl, rfl, rfl, rfl, rfl, rfl, rfl, rfl, rfl, rfl, rfl, rfl, rfl, rfl, rfl, rfl, rfl, rfl, rfl, rfl, rfl, rfl, rfl, trivial⟩ hs13 (fun k_ f w' => ∃ (i : Nat), k_ = (placesL t w_ h_).length - i ∧ (i ≤ (placesL t w_ h_).length) ∧ (∀ j, j < i → (fun r : RectD => besideB r (placeR t w_ h_ p) side) (gat encRect (placesL t w_ h_) j) = false) ∧ Sub [(36, .int .i64 i)] f) ((fun (i : Nat) => (placesL t w_ h_).length - i) (0)) ?_ ?_
    · refine ⟨0, rfl, ?_, ?_, ⟨rfl, trivial⟩⟩
      · exact Nat.zero_le _
      · exact fun j hj => absurd hj (by omega)
    · clear hs13
      rintro _ f w ⟨i, rfl, p0, p1, hG⟩ hF hs20
      refine WC.sub _ (hG.app hF) ?_
      clear hG hF
      refine WC.seq (fun K21 hK21 => ?_)
      refine WC.region ?_
      refine WL.val rfl rfl rfl (Run.lss rfl rfl rfl) ?_
      refine WL.nil ?_
      refine tkN ?_
      refine hK21 _ _ ?_
      clear hK21
      refine WC.seq (fun K22 hK22 => ?_)
      refine WC.cond rfl (fun h23 => ?_) (fun h23 => ?_)
      · have qh23 := h23
        try simp only [decide_eq_true_eq, decide_eq_false_iff_not, Bool.not_eq_true', Bool.not_eq_false', Bool.and_eq_true, Bool.or_eq_false_iff, within_iff, within_not] at qh23
        have hbr := placesL_bound (t := t) (w := w_) (h := h_) (k := i) (by omega)
        refine WC.skip ?_
        refine tkN ?_
        refine hK22 _ _ ?_
        clear hK22
        refine WC.seq (fun K24 hK24 => ?_)
        refine WC.block ?_
        refine WC.seq (fun K25 hK25 => ?_)
        refine WC.region ?_
        refine WL.val rfl rfl rfl (Run.idxN Try.runUnderlying48 Try.sizeOf40 rfl rfl rfl ?_ ?_ ?_) ?_
        · exact SlF.some_ (SlF.ofOwn ho17 (fun p_ hp_ => (hs20.own p_ (List.mem_append_right [_] (List.mem_append_left _ hp_))).1))
        · omega
        · omega
        refine WL.val rfl rfl rfl (Run.loadA Try.isAgg40 Try.sizeOf40 rfl rfl (SlF.whole (SlF.ofOwn ho17 (fun p_ hp_ => (hs20.own p_ (List.mem_append_right [_] (List.mem_append_left _ hp_))).1)) ?_)) ?_
        · omega
        refine WL.alloc hs20 Try.zeroValue40 rfl rfl rfl rfl rfl (fun b26 whs27 hs27 => ?_)
        refine WL.storeA hs27 0 Try.sizeOf40 rfl rfl rfl rfl rfl rfl rfl rfl rfl (Nat.le_of_ble_eq_true rfl) (.inl (Nat.le_of_ble_eq_true rfl)) (fun whs28 hs28 => ?_)
        refine WL.nil ?_
        refine tkN ?_
        refine hK25 _ _ ?_
        clear hK25
        refine WC.seq (fun K29 hK29 => ?_)
        refine WC.region ?_
        refine WL.val rfl rfl rfl (Run.loadLA hs28 0 Try.isAgg40 Try.sizeOf40 rfl rfl rfl rfl rfl) ?_
        refine WL.val rfl rfl rfl (Run.loadLA hs28 1 Try.isAgg40 Try.sizeOf40 rfl rfl rfl rfl rfl) ?_
        refine WL.val rfl rfl rfl (Run.move rfl rfl) ?_
        refine WL.call rfl rfl rfl (Run.call Try.call78 rfl rfl rfl) (c_impl_isBeside _ _ _ _ _ _ _ _ _ _ _ _ ?_ ?_) ?_
        · refine ⟨?_, ?_, ?_, ?_, ?_, ?_, ?_, ?_⟩ <;> omega
        · refine ⟨?_, ?_, ?_, ?_, ?_, ?_, ?_, ?_⟩ <;> omega
        rintro _ whs30 ⟨rfl, hs30⟩
        replace hs30 := hs28.call0 hs30
        refine ⟨_, rfl, ?_⟩
        refine WL.nil ?_
        refine tkN ?_
        refine hK29 _ _ ?_
        clear hK29
        refine WC.cond rfl (fun h31 => ?_) (fun h31 => ?_)
        · have qh31 := h31
          try simp only [decide_eq_true_eq, decide_eq_false_iff_not, Bool.not_eq_true', Bool.not_eq_false', Bool.and_eq_true, Bool.or_eq_false_iff, within_iff, within_not] at qh31
          have hfi : besideAt t p side w_ h_ = (i : Int) := findI_some (F := encRect) (by omega) p1 h31
          refine WC.seq (fun K32 hK32 => ?_)
          refine WC.region ?_
          refine WL.val rfl rfl rfl (Run.field Try.runUnderlying40 rfl rfl rfl Try.sizeOf3 rfl) ?_
          refine WL.val rfl rfl rfl (Run.loadL hs30 0 Try.isAgg3 rfl rfl rfl rfl) ?_
          refine WL.val rfl rfl rfl (Run.assign rfl rfl) ?_
          refine WL.nil ?_
          refine tkN ?_
          refine hK32 _ _ ?_
          clear hK32
          refine WC.ret ?_
          refine ibR ?_
          refine tkR ?_
          refine tkR ?_
          refine ibR ?_
          refine tkR ?_
          clear hK24 hK18
          refine retV1 rfl (resV.tmp rfl) ?_
          refine ⟨congrArg Ending.returned ?_, hs30.nil⟩
          rw [besideL, if_pos hk, hfi, if_pos (by omega)]; rfl
        · have qh31 := h31
          try simp only [decide_eq_true_eq, decide_eq_false_iff_not, Bool.not_eq_true', Bool.not_eq_false', Bool.and_eq_true, Bool.or_eq_false_iff, within_iff, within_not] at qh31
          refine WC.skip ?_
          refine ibN ?_
          refine tkN ?_
          refine hK24 _ _ ?_
          clear hK24
          refine WC.region ?_
          refine WL.val rfl rfl rfl (Run.add rfl rfl rfl ?_) ?_
          · constructor <;> omega
          refine WL.val rfl rfl rfl (Run.move rfl rfl) ?_
          refine WL.nil ?_
          refine tkN ?_
          refine ⟨⟨rfl, rfl, rfl, rfl, rfl, rfl, rfl, rfl, rfl, rfl, rfl, rfl, rfl, rfl, rfl, rfl, rfl, rfl, rfl, rfl, rfl, rfl, rfl, rfl, rfl, rfl, rfl, trivial⟩, (hs30.drop (by repeat (first | exact List.Sublist.refl _ | exact List.sublist_append_left _ _ | exact List.Sublist.trans (List.sublist_append_left _ _) (List.sublist_append_left _ _) | apply List.Sublist.cons | refine List.Sublist.trans ?_ (List.sublist_append_right _ _)))), _, ?_, i + 1, rfl, ?_, ?_, ⟨rfl, trivial⟩⟩
          · omega
          · omega
          · intro j hj; rcases Nat.lt_or_ge j i with h_0 | h_0
            · exact p1 j h_0
            · obtain rfl : j = i := by omega
              exact h31
      · have qh23 := h23
        try simp only [decide_eq_true_eq, decide_eq_false_iff_not, Bool.not_eq_true', Bool.not_eq_false', Bool.and_eq_true, Bool.or_eq_false_iff, within_iff, within_not] at qh23
        have hfi : besideAt t p side w_ h_ = -1 := findI_none (F := encRect) (fun j hj => p1 j (by omega))
        refine WC.exit ?_
        refine tkE ?_
        refine tkE ?_
        refine ibE ?_
        refine tkN ?_
        refine hK18 _ _ ?_
        clear hK18
        refine WC.seq (fun K33 hK33 => ?_)
        refine WC.region ?_
        refine WL.val rfl rfl rfl (Run.assign rfl rfl) ?_
        refine WL.nil ?_
        refine tkN ?_
        refine hK33 _ _ ?_
        clear hK33
        refine WC.ret ?_
        refine retV1 rfl (resV.tmp rfl) ?_
        refine ⟨congrArg Ending.returned ?_, hs20.nil⟩
        rw [besideL, if_pos hk, hfi, if_neg (by omega)]
set_option maxHeartbeats 4000000 in
theorem c_spec_Beside (A_t : Option Addr) (n_t c_t : Nat) (t : List NodeD) (p : Int) (side : Int) (w_ : Int) (h_ : Int) (w : World) (f_t : SlF encNode w A_t n_t t) (hn : n_t ≤ 268435456) :
    Calls Try.prog 40 #[.slice A_t n_t c_t, i64 p, i64 side, i64 w_, i64 h_] w fun e w' => e = .returned (.int .i64 (besideL t p side w_ h_)) ∧ St w [] [] w' := by
  have hpl := placesL_len t w_ h_
  have hbo := placeR_bound (t := t) (w := w_) (h := h_) (p := p)
  refine enter (vs := [.slice A_t n_t c_t, i64 p, i64 side, i64 w_, i64 h_]) 134 Try.func40 rfl Try.ntmps40 rfl rfl ?_
  have hs1 := St.init w
  refine WC.seq (fun K2 hK2 => ?_)
  refine WC.region ?_
  refine WL.val rfl rfl rfl (Run.assign rfl rfl) ?_
  refine WL.nil ?_
  refine tkN ?_
  refine hK2 _ _ ?_
  clear hK2
  refine WC.seq (fun K3 hK3 => ?_)
  refine WC.region ?_
  refine WL.val rfl rfl rfl (Run.move rfl rfl) ?_
  refine WL.val rfl rfl rfl (Run.move rfl rfl) ?_
  refine WL.val rfl rfl rfl (Run.move rfl rfl) ?_
  refine WL.val rfl rfl rfl (Run.move rfl rfl) ?_
  refine WL.call rfl rfl rfl (Run.call Try.call35 rfl rfl rfl) (c_spec_PlaceOf _ _ _ _ _ _ _ _ (SlF.st0 f_t hs1) ?_) ?_
  · first | assumption | rfl | omega
  rintro _ whs4 ⟨rfl, hs4⟩
  replace hs4 := hs1.call0 hs4
  refine ⟨_, rfl, ?_⟩
  refine WL.val rfl rfl rfl (Run.move rfl rfl) ?_
  refine WL.val rfl rfl rfl (Run.extract rfl rfl rfl) ?_
  refine WL.val rfl rfl rfl (Run.extract rfl rfl rfl) ?_
  refine WL.alloc hs4 Try.zeroValue40 rfl rfl rfl rfl rfl (fun b5 whs6 hs6 => ?_)
  refine WL.storeA hs6 0 Try.sizeOf40 rfl rfl rfl rfl rfl rfl rfl rfl rfl (Nat.le_of_ble_eq_true rfl) (.inl (Nat.le_of_ble_eq_true rfl)) (fun whs7 hs7 => ?_)
  refine WL.val rfl rfl rfl (Run.assign rfl rfl) ?_
  refine WL.nil ?_
  refine tkN ?_
  refine hK3 _ _ ?_
  clear hK3
  refine WC.seq (fun K8 hK8 => ?_)
  refine WC.region ?_
  refine WL.val rfl rfl rfl (Run.move rfl rfl) ?_
  refine WL.val rfl rfl rfl (Run.move rfl rfl) ?_
  refine WL.val rfl rfl rfl (Run.move rfl rfl) ?_
  refine WL.call rfl rfl rfl (Run.call Try.call42 rfl rfl rfl) (c_spec_Places _ _ _ _ _ _ _ (SlF.st0 f_t hs7) ?_) ?_
  · first | assumption | rfl | omega
  rintro _ whs9 ⟨A10, c11, L112, rfl, hs9, ho13⟩
  replace hs9 := hs7.callF hs9
  refine ⟨_, rfl, ?_⟩
  replace hs9 := St.back [_] hs9
  refine WL.val rfl rfl rfl (Run.move rfl rfl) ?_
  refine WL.val rfl rfl rfl (Run.extract rfl rfl rfl) ?_
  refine WL.val rfl rfl rfl (Run.extract rfl rfl rfl) ?_
  refine WL.val rfl rfl rfl (Run.assign rfl rfl) ?_
  refine WL.val rfl rfl rfl (Run.assign rfl rfl) ?_
  refine WL.nil ?_
  refine tkN ?_
  refine hK8 _ _ ?_
  clear hK8
  refine WC.seq (fun K14 hK14 => ?_)
  refine WC.seq (fun K15 hK15 => ?_)
  refine WC.region ?_
  refine WL.val rfl rfl rfl (Run.move rfl rfl) ?_
  refine WL.val rfl rfl rfl (Run.lenSl Try.runUnderlying48 rfl rfl) ?_
  refine WL.val rfl rfl rfl (Run.move rfl rfl) ?_
  refine WL.nil ?_
  refine tkN ?_
  refine hK15 _ _ ?_
  clear hK15
  refine WC.block ?_
  refine WC.loopS [(0, _), (1, _), (2, _), (3, _), (4, _), (11, _), (12, _), (13, _), (19, _), (20, _), (21, _), (22, _), (23, _), (24, _), (25, _), (26, _), (27, _), (28, _), (29, _), (30, _), (31, _), (32, _), (33, _), (34, _), (35, _)] ⟨rfl, rfl, rfl, rfl, rfl, rfl, rfl, rfl, rfl, rfl, rfl, rfl, rfl, rfl, rfl, rfl, rfl, rfl, rfl, rfl, rfl, rfl, rfl, rfl, rfl, trivial⟩ hs9 (fun k_ f w' => ∃ (i : Nat), k_ = (placesL t w_ h_).length - i ∧ (i ≤ (placesL t w_ h_).length) ∧ (0 ≤ placeAt t w_ h_ p → ∀ j, j < i → (fun r : RectD => besideB r (placeR t w_ h_ p) side) (gat encRect (placesL t w_ h_) j) = false) ∧ Sub [(36, .int .i64 i)] f) ((fun (i : Nat) => (placesL t w_ h_).length - i) (0)) ?_ ?_
  · refine ⟨0, rfl, ?_, ?_, ⟨rfl, trivial⟩⟩
    · exact Nat.zero_le _
    · exact fun _ j hj => absurd hj (by omega)
  · clear hs9
    rintro _ f w ⟨i, rfl, p0, p1, hG⟩ hF hs16
    refine WC.sub _ (hG.app hF) ?_
    clear hG hF
    refine WC.seq (fun K17 hK17 => ?_)
    refine WC.region ?_
    refine WL.val rfl rfl rfl (Run.lss rfl rfl rfl) ?_
    refine WL.nil ?_
    refine tkN ?_
    refine hK17 _ _ ?_
    clear hK17
    refine WC.seq (fun K18 hK18 => ?_)
    refine WC.cond rfl (fun h19 => ?_) (fun h19 => ?_)
    · have qh19 := h19
      try simp only [decide_eq_true_eq, decide_eq_false_iff_not, Bool.not_eq_true', Bool.not_eq_false', Bool.and_eq_true, Bool.or_eq_false_iff, within_iff, within_not] at qh19
      have hbr := placesL_bound (t := t) (w := w_) (h := h_) (k := i) (by omega)
      refine WC.skip ?_
      refine tkN ?_
      refine hK18 _ _ ?_
      clear hK18
      refine WC.seq (fun K20 hK20 => ?_)
      refine WC.block ?_
      refine WC.seq (fun K21 hK21 => ?_)
      refine WC.region ?_
      refine WL.val rfl rfl rfl (Run.idxN Try.runUnderlying48 Try.sizeOf40 rfl rfl rfl ?_ ?_ ?_) ?_
      · exact SlF.some_ (SlF.ofOwn ho13 (fun p_ hp_ => (hs16.own p_ (List.mem_append_right [_] (List.mem_append_left _ hp_))).1))
      · omega
      · omega
      refine WL.val rfl rfl rfl (Run.loadA Try.isAgg40 Try.sizeOf40 rfl rfl (SlF.whole (SlF.ofOwn ho13 (fun p_ hp_ => (hs16.own p_ (List.mem_append_right [_] (List.mem_append_left _ hp_))).1)) ?_)) ?_
      · omega
      refine WL.alloc hs16 Try.zeroValue40 rfl rfl rfl rfl rfl (fun b22 whs23 hs23 => ?_)
      refine WL.storeA hs23 0 Try.sizeOf40 rfl rfl rfl rfl rfl rfl rfl rfl rfl (Nat.le_of_ble_eq_true rfl) (.inl (Nat.le_of_ble_eq_true rfl)) (fun whs24 hs24 => ?_)
      refine WL.nil ?_
      refine tkN ?_
      refine hK21 _ _ ?_
      clear hK21
      refine WC.seq (fun K25 hK25 => ?_)
      refine WC.region ?_
      refine WL.val rfl rfl rfl (Run.field Try.runUnderlying40 rfl rfl rfl Try.sizeOf3 rfl) ?_
      refine WL.val rfl rfl rfl (Run.loadL hs24 1 Try.isAgg3 rfl rfl rfl rfl) ?_
      refine WL.val rfl rfl rfl (Run.field Try.runUnderlying40 rfl rfl rfl Try.sizeOf3 rfl) ?_
      refine WL.val rfl rfl rfl (Run.loadL hs24 1 Try.isAgg3 rfl rfl rfl rfl) ?_
      refine WL.val rfl rfl rfl (Run.field Try.runUnderlying40 rfl rfl rfl Try.sizeOf3 rfl) ?_
      refine WL.val rfl rfl rfl (Run.loadL hs24 0 Try.isAgg3 rfl rfl rfl rfl) ?_
      refine WL.val rfl rfl rfl (Run.field Try.runUnderlying40 rfl rfl rfl Try.sizeOf3 rfl) ?_
      refine WL.val rfl rfl rfl (Run.loadL hs24 0 Try.isAgg3 rfl rfl rfl rfl) ?_
      refine WL.call rfl rfl rfl (Run.call Try.call77 rfl rfl rfl) (c_spec_l13Meet _ _ _ _ _ ?_) ?_
      · first | assumption | rfl | omega
      rintro _ whs26 ⟨rfl, hs26⟩
      replace hs26 := hs24.call0 hs26
      refine ⟨_, rfl, ?_⟩
      refine WL.val rfl rfl rfl (Run.assign rfl rfl) ?_
      refine WL.nil ?_
      refine tkN ?_
      refine hK25 _ _ ?_
      clear hK25
      refine WC.seq (fun K27 hK27 => ?_)
      refine WC.region ?_
      refine WL.val rfl rfl rfl (Run.field Try.runUnderlying40 rfl rfl rfl Try.sizeOf3 rfl) ?_
      refine WL.val rfl rfl rfl (Run.loadL hs26 1 Try.isAgg3 rfl rfl rfl rfl) ?_
      refine WL.val rfl rfl rfl (Run.field Try.runUnderlying40 rfl rfl rfl Try.sizeOf3 rfl) ?_
      refine WL.val rfl rfl rfl (Run.loadL hs26 1 Try.isAgg3 rfl rfl rfl rfl) ?_
      refine WL.val rfl rfl rfl (Run.field Try.runUnderlying40 rfl rfl rfl Try.sizeOf3 rfl) ?_
      refine WL.val rfl rfl rfl (Run.loadL hs26 0 Try.isAgg3 rfl rfl rfl rfl) ?_
      refine WL.val rfl rfl rfl (Run.field Try.runUnderlying40 rfl rfl rfl Try.sizeOf3 rfl) ?_
      refine WL.val rfl rfl rfl (Run.loadL hs26 0 Try.isAgg3 rfl rfl rfl rfl) ?_
      refine WL.call rfl rfl rfl (Run.call Try.call77 rfl rfl rfl) (c_spec_l13Meet _ _ _ _ _ ?_) ?_
      · first | assumption | rfl | omega
      rintro _ whs28 ⟨rfl, hs28⟩
      replace hs28 := hs26.call0 hs28
      refine ⟨_, rfl, ?_⟩
      refine WL.val rfl rfl rfl (Run.assign rfl rfl) ?_
      refine WL.nil ?_
      refine tkN ?_
      refine hK27 _ _ ?_
      clear hK27
      refine WC.seq (fun K29 hK29 => ?_)
      refine WC.region ?_
      refine WL.val rfl rfl rfl (Run.move rfl rfl) ?_
      refine WL.val rfl rfl rfl (Run.move rfl rfl) ?_
      apply WL.meetAnd 71 59 130 [(0, _), (1, _), (2, _), (3, _), (4, _), (11, _), (12, _), (13, _), (16, _), (17, _), (18, _), (19, _), (20, _), (21, _), (22, _), (23, _), (24, _), (25, _), (26, _), (27, _), (28, _), (29, _), (30, _), (31, _), (32, _), (33, _), (34, _), (35, _), (36, _), (37, _), (38, _), (39, _), (40, _), (41, _), (42, _), (43, _), (44, _), (45, _), (46, _), (47, _), (48, _), (49, _), (50, _), (51, _), (52, _), (53, _), (54, _), (55, _), (56, _), (57, _)] rfl hs28
      · intro g30 J31
        have qg30 := g30
        try simp only [decide_eq_true_eq, decide_eq_false_iff_not, Bool.not_eq_true', Bool.not_eq_false'] at qg30
        refine WL.val (wantT rfl g30) rfl rfl (Run.move rfl rfl) ?_
        refine WL.val (wantT rfl g30) rfl rfl (Run.eql rfl rfl rfl) ?_
        refine WL.val (wantT rfl g30) rfl rfl (Run.move rfl rfl) ?_
        apply WL.meetAnd 10 62 72 [(0, _), (1, _), (2, _), (3, _), (4, _), (11, _), (12, _), (13, _), (16, _), (17, _), (18, _), (19, _), (20, _), (21, _), (22, _), (23, _), (24, _), (25, _), (26, _), (27, _), (28, _), (29, _), (30, _), (31, _), (32, _), (33, _), (34, _), (35, _), (36, _), (37, _), (38, _), (39, _), (40, _), (41, _), (42, _), (43, _), (44, _), (45, _), (46, _), (47, _), (48, _), (49, _), (50, _), (51, _), (52, _), (53, _), (54, _), (55, _), (56, _), (57, _), (59, _)] rfl hs28
        · intro g32 J33
          have qg32 := g32
          try simp only [decide_eq_true_eq, decide_eq_false_iff_not, Bool.not_eq_true', Bool.not_eq_false'] at qg32
          refine WL.val (wantT rfl g32) rfl rfl (Run.field Try.runUnderlying40 rfl rfl rfl Try.sizeOf3 rfl) ?_
          refine WL.val (wantT rfl g32) rfl rfl (Run.loadL hs28 0 Try.isAgg3 rfl rfl rfl rfl) ?_
          refine WL.val (wantT rfl g32) rfl rfl (Run.field Try.runUnderlying40 rfl rfl rfl Try.sizeOf3 rfl) ?_
          refine WL.val (wantT rfl g32) rfl rfl (Run.loadL hs28 0 Try.isAgg3 rfl rfl rfl rfl) ?_
          refine WL.val (wantT rfl g32) rfl rfl (Run.add rfl rfl rfl ?_) ?_
          · constructor <;> omega
          refine WL.val (wantT rfl g32) rfl rfl (Run.add rfl rfl rfl ?_) ?_
          · constructor <;> omega
          refine WL.val (wantT rfl g32) rfl rfl (Run.field Try.runUnderlying40 rfl rfl rfl Try.sizeOf3 rfl) ?_
          refine WL.val (wantT rfl g32) rfl rfl (Run.loadL hs28 1 Try.isAgg3 rfl rfl rfl rfl) ?_
          refine WL.val (wantT rfl g32) rfl rfl (Run.eql rfl rfl rfl) ?_
          refine WL.val (wantT rfl g30) rfl rfl (Run.pickT rfl rfl g32 rfl) ?_
          exact WL.fin J33 hs28 rfl (andT g32) ⟨rfl, rfl, rfl, rfl, rfl, rfl, rfl, rfl, rfl, rfl, rfl, rfl, rfl, rfl, rfl, rfl, rfl, rfl, rfl, rfl, rfl, rfl, rfl, rfl, rfl, rfl, rfl, rfl, rfl, rfl, rfl, rfl, rfl, rfl, rfl, rfl, rfl, rfl, rfl, rfl, rfl, rfl, rfl, rfl, rfl, rfl, rfl, rfl, rfl, rfl, rfl, trivial⟩
        · intro g32 J33
          refine WL.skip (wantNT rfl g32) rfl rfl ?_
          refine WL.skip (wantNT rfl g32) rfl rfl ?_
          refine WL.skip (wantNT rfl g32) rfl rfl ?_
          refine WL.skip (wantNT rfl g32) rfl rfl ?_
          refine WL.skip (wantNT rfl g32) rfl rfl ?_
          refine WL.skip (wantNT rfl g32) rfl rfl ?_
          refine WL.skip (wantNT rfl g32) rfl rfl ?_
          refine WL.skip (wantNT rfl g32) rfl rfl ?_
          refine WL.skip (wantNT rfl g32) rfl rfl ?_
          refine WL.val (wantT rfl g30) rfl rfl (Run.pickF rfl rfl g32 rfl) ?_
          exact WL.fin J33 hs28 rfl (andF g32) ⟨rfl, rfl, rfl, rfl, rfl, rfl, rfl, rfl, rfl, rfl, rfl, rfl, rfl, rfl, rfl, rfl, rfl, rfl, rfl, rfl, rfl, rfl, rfl, rfl, rfl, rfl, rfl, rfl, rfl, rfl, rfl, rfl, rfl, rfl, rfl, rfl, rfl, rfl, rfl, rfl, rfl, rfl, rfl, rfl, rfl, rfl, rfl, rfl, rfl, rfl, rfl, trivial⟩
        · intro whs34 hs34
          refine WL.val (wantT rfl g30) rfl rfl (Run.move rfl rfl) ?_
          apply WL.meetAnd 2 73 75 [(0, _), (1, _), (2, _), (3, _), (4, _), (11, _), (12, _), (13, _), (16, _), (17, _), (18, _), (19, _), (20, _), (21, _), (22, _), (23, _), (24, _), (25, _), (26, _), (27, _), (28, _), (29, _), (30, _), (31, _), (32, _), (33, _), (34, _), (35, _), (36, _), (37, _), (38, _), (39, _), (40, _), (41, _), (42, _), (43, _), (44, _), (45, _), (46, _), (47, _), (48, _), (49, _), (50, _), (51, _), (52, _), (53, _), (54, _), (55, _), (56, _), (57, _), (59, _)] rfl hs34
          · intro g35 J36
            have qg35 := g35
            try simp only [decide_eq_true_eq, decide_eq_false_iff_not, Bool.not_eq_true', Bool.not_eq_false'] at qg35
            refine WL.val (wantT rfl g35) rfl rfl (Run.move rfl rfl) ?_
            refine WL.val (wantT rfl g30) rfl rfl (Run.pickT rfl rfl g35 rfl) ?_
            exact WL.fin J36 hs34 rfl (andT g35) ⟨rfl, rfl, rfl, rfl, rfl, rfl, rfl, rfl, rfl, rfl, rfl, rfl, rfl, rfl, rfl, rfl, rfl, rfl, rfl, rfl, rfl, rfl, rfl, rfl, rfl, rfl, rfl, rfl, rfl, rfl, rfl, rfl, rfl, rfl, rfl, rfl, rfl, rfl, rfl, rfl, rfl, rfl, rfl, rfl, rfl, rfl, rfl, rfl, rfl, rfl, rfl, trivial⟩
          · intro g35 J36
            refine WL.skip (wantNT rfl g35) rfl rfl ?_
            refine WL.val (wantT rfl g30) rfl rfl (Run.pickF rfl rfl g35 rfl) ?_
            exact WL.fin J36 hs34 rfl (andF g35) ⟨rfl, rfl, rfl, rfl, rfl, rfl, rfl, rfl, rfl, rfl, rfl, rfl, rfl, rfl, rfl, rfl, rfl, rfl, rfl, rfl, rfl, rfl, rfl, rfl, rfl, rfl, rfl, rfl, rfl, rfl, rfl, rfl, rfl, rfl, rfl, rfl, rfl, rfl, rfl, rfl, rfl, rfl, rfl, rfl, rfl, rfl, rfl, rfl, rfl, rfl, rfl, trivial⟩
          · intro whs37 hs37
            refine WL.val (wantT rfl g30) rfl rfl (Run.move rfl rfl) ?_
            apply WL.meetOr 17 76 93 [(0, _), (1, _), (2, _), (3, _), (4, _), (11, _), (12, _), (13, _), (16, _), (17, _), (18, _), (19, _), (20, _), (21, _), (22, _), (23, _), (24, _), (25, _), (26, _), (27, _), (28, _), (29, _), (30, _), (31, _), (32, _), (33, _), (34, _), (35, _), (36, _), (37, _), (38, _), (39, _), (40, _), (41, _), (42, _), (43, _), (44, _), (45, _), (46, _), (47, _), (48, _), (49, _), (50, _), (51, _), (52, _), (53, _), (54, _), (55, _), (56, _), (57, _), (59, _)] rfl hs37
            · intro g38 J39
              have qg38 := g38
              try simp only [decide_eq_true_eq, decide_eq_false_iff_not, Bool.not_eq_true', Bool.not_eq_false'] at qg38
              refine WL.val (wantF rfl g38) rfl rfl (Run.move rfl rfl) ?_
              refine WL.val (wantF rfl g38) rfl rfl (Run.eql rfl rfl rfl) ?_
              refine WL.val (wantF rfl g38) rfl rfl (Run.move rfl rfl) ?_
              apply WL.meetAnd 10 79 89 [(0, _), (1, _), (2, _), (3, _), (4, _), (11, _), (12, _), (13, _), (16, _), (17, _), (18, _), (19, _), (20, _), (21, _), (22, _), (23, _), (24, _), (25, _), (26, _), (27, _), (28, _), (29, _), (30, _), (31, _), (32, _), (33, _), (34, _), (35, _), (36, _), (37, _), (38, _), (39, _), (40, _), (41, _), (42, _), (43, _), (44, _), (45, _), (46, _), (47, _), (48, _), (49, _), (50, _), (51, _), (52, _), (53, _), (54, _), (55, _), (56, _), (57, _), (59, _), (76, _)] rfl hs37
              · intro g40 J41
                have qg40 := g40
                try simp only [decide_eq_true_eq, decide_eq_false_iff_not, Bool.not_eq_true', Bool.not_eq_false'] at qg40
                refine WL.val (wantT rfl g40) rfl rfl (Run.field Try.runUnderlying40 rfl rfl rfl Try.sizeOf3 rfl) ?_
                refine WL.val (wantT rfl g40) rfl rfl (Run.loadL hs37 1 Try.isAgg3 rfl rfl rfl rfl) ?_
                refine WL.val (wantT rfl g40) rfl rfl (Run.field Try.runUnderlying40 rfl rfl rfl Try.sizeOf3 rfl) ?_
                refine WL.val (wantT rfl g40) rfl rfl (Run.loadL hs37 1 Try.isAgg3 rfl rfl rfl rfl) ?_
                refine WL.val (wantT rfl g40) rfl rfl (Run.add rfl rfl rfl ?_) ?_
                · constructor <;> omega
                refine WL.val (wantT rfl g40) rfl rfl (Run.add rfl rfl rfl ?_) ?_
                · constructor <;> omega
                refine WL.val (wantT rfl g40) rfl rfl (Run.field Try.runUnderlying40 rfl rfl rfl Try.sizeOf3 rfl) ?_
                refine WL.val (wantT rfl g40) rfl rfl (Run.loadL hs37 0 Try.isAgg3 rfl rfl rfl rfl) ?_
                refine WL.val (wantT rfl g40) rfl rfl (Run.eql rfl rfl rfl) ?_
                refine WL.val (wantF rfl g38) rfl rfl (Run.pickT rfl rfl g40 rfl) ?_
                exact WL.fin J41 hs37 rfl (andT g40) ⟨rfl, rfl, rfl, rfl, rfl, rfl, rfl, rfl, rfl, rfl, rfl, rfl, rfl, rfl, rfl, rfl, rfl, rfl, rfl, rfl, rfl, rfl, rfl, rfl, rfl, rfl, rfl, rfl, rfl, rfl, rfl, rfl, rfl, rfl, rfl, rfl, rfl, rfl, rfl, rfl, rfl, rfl, rfl, rfl, rfl, rfl, rfl, rfl, rfl, rfl, rfl, rfl, trivial⟩
              · intro g40 J41
                refine WL.skip (wantNT rfl g40) rfl rfl ?_
                refine WL.skip (wantNT rfl g40) rfl rfl ?_
                refine WL.skip (wantNT rfl g40) rfl rfl ?_
                refine WL.skip (wantNT rfl g40) rfl rfl ?_
                refine WL.skip (wantNT rfl g40) rfl rfl ?_
                refine WL.skip (wantNT rfl g40) rfl rfl ?_
                refine WL.skip (wantNT rfl g40) rfl rfl ?_
                refine WL.skip (wantNT rfl g40) rfl rfl ?_
                refine WL.skip (wantNT rfl g40) rfl rfl ?_
                refine WL.val (wantF rfl g38) rfl rfl (Run.pickF rfl rfl g40 rfl) ?_
                exact WL.fin J41 hs37 rfl (andF g40) ⟨rfl, rfl, rfl, rfl, rfl, rfl, rfl, rfl, rfl, rfl, rfl, rfl, rfl, rfl, rfl, rfl, rfl, rfl, rfl, rfl, rfl, rfl, rfl, rfl, rfl, rfl, rfl, rfl, rfl, rfl, rfl, rfl, rfl, rfl, rfl, rfl, rfl, rfl, rfl, rfl, rfl, rfl, rfl, rfl, rfl, rfl, rfl, rfl, rfl, rfl, rfl, rfl, trivial⟩
              · intro whs42 hs42
                refine WL.val (wantF rfl g38) rfl rfl (Run.move rfl rfl) ?_
                apply WL.meetAnd 2 90 92 [(0, _), (1, _), (2, _), (3, _), (4, _), (11, _), (12, _), (13, _), (16, _), (17, _), (18, _), (19, _), (20, _), (21, _), (22, _), (23, _), (24, _), (25, _), (26, _), (27, _), (28, _), (29, _), (30, _), (31, _), (32, _), (33, _), (34, _), (35, _), (36, _), (37, _), (38, _), (39, _), (40, _), (41, _), (42, _), (43, _), (44, _), (45, _), (46, _), (47, _), (48, _), (49, _), (50, _), (51, _), (52, _), (53, _), (54, _), (55, _), (56, _), (57, _), (59, _), (76, _)] rfl hs42
                · intro g43 J44
                  have qg43 := g43
                  try simp only [decide_eq_true_eq, decide_eq_false_iff_not, Bool.not_eq_true', Bool.not_eq_false'] at qg43
                  refine WL.val (wantT rfl g43) rfl rfl (Run.move rfl rfl) ?_
                  refine WL.val (wantF rfl g38) rfl rfl (Run.pickT rfl rfl g43 rfl) ?_
                  exact WL.fin J44 hs42 rfl (andT g43) ⟨rfl, rfl, rfl, rfl, rfl, rfl, rfl, rfl, rfl, rfl, rfl, rfl, rfl, rfl, rfl, rfl, rfl, rfl, rfl, rfl, rfl, rfl, rfl, rfl, rfl, rfl, rfl, rfl, rfl, rfl, rfl, rfl, rfl, rfl, rfl, rfl, rfl, rfl, rfl, rfl, rfl, rfl, rfl, rfl, rfl, rfl, rfl, rfl, rfl, rfl, rfl, rfl, trivial⟩
                · intro g43 J44
                  refine WL.skip (wantNT rfl g43) rfl rfl ?_
                  refine WL.val (wantF rfl g38) rfl rfl (Run.pickF rfl rfl g43 rfl) ?_
                  exact WL.fin J44 hs42 rfl (andF g43) ⟨rfl, rfl, rfl, rfl, rfl, rfl, rfl, rfl, rfl, rfl, rfl, rfl, rfl, rfl, rfl, rfl, rfl, rfl, rfl, rfl, rfl, rfl, rfl, rfl, rfl, rfl, rfl, rfl, rfl, rfl, rfl, rfl, rfl, rfl, rfl, rfl, rfl, rfl, rfl, rfl, rfl, rfl, rfl, rfl, rfl, rfl, rfl, rfl, rfl, rfl, rfl, rfl, trivial⟩
                · intro whs45 hs45
                  refine WL.val (wantT rfl g30) rfl rfl (Run.pickF rfl rfl g38 rfl) ?_
                  exact WL.fin J39 hs45 rfl (orF g38) ⟨rfl, rfl, rfl, rfl, rfl, rfl, rfl, rfl, rfl, rfl, rfl, rfl, rfl, rfl, rfl, rfl, rfl, rfl, rfl, rfl, rfl, rfl, rfl, rfl, rfl, rfl, rfl, rfl, rfl, rfl, rfl, rfl, rfl, rfl, rfl, rfl, rfl, rfl, rfl, rfl, rfl, rfl, rfl, rfl, rfl, rfl, rfl, rfl, rfl, rfl, rfl, trivial⟩
            · intro g38 J39
              refine WL.skip (wantNF rfl g38) rfl rfl ?_
              refine WL.skip (wantNF rfl g38) rfl rfl ?_
              refine WL.skip (wantNF rfl g38) rfl rfl ?_
              refine WL.skip rfl rfl rfl ?_
              refine WL.skip rfl rfl rfl ?_
              refine WL.skip rfl rfl rfl ?_
              refine WL.skip rfl rfl rfl ?_
              refine WL.skip rfl rfl rfl ?_
              refine WL.skip rfl rfl rfl ?_
              refine WL.skip rfl rfl rfl ?_
              refine WL.skip rfl rfl rfl ?_
              refine WL.skip rfl rfl rfl ?_
              refine WL.skip (wantNF rfl g38) rfl rfl ?_
              refine WL.skip (wantNF rfl g38) rfl rfl ?_
              refine WL.skip rfl rfl rfl ?_
              refine WL.skip (wantNF rfl g38) rfl rfl ?_
              refine WL.val (wantT rfl g30) rfl rfl (Run.pickT rfl rfl g38 rfl) ?_
              exact WL.fin J39 hs37 rfl (orT g38) ⟨rfl, rfl, rfl, rfl, rfl, rfl, rfl, rfl, rfl, rfl, rfl, rfl, rfl, rfl, rfl, rfl, rfl, rfl, rfl, rfl, rfl, rfl, rfl, rfl, rfl, rfl, rfl, rfl, rfl, rfl, rfl, rfl, rfl, rfl, rfl, rfl, rfl, rfl, rfl, rfl, rfl, rfl, rfl, rfl, rfl, rfl, rfl, rfl, rfl, rfl, rfl, trivial⟩
            · intro whs46 hs46
              refine WL.val (wantT rfl g30) rfl rfl (Run.move rfl rfl) ?_
              apply WL.meetOr 17 94 111 [(0, _), (1, _), (2, _), (3, _), (4, _), (11, _), (12, _), (13, _), (16, _), (17, _), (18, _), (19, _), (20, _), (21, _), (22, _), (23, _), (24, _), (25, _), (26, _), (27, _), (28, _), (29, _), (30, _), (31, _), (32, _), (33, _), (34, _), (35, _), (36, _), (37, _), (38, _), (39, _), (40, _), (41, _), (42, _), (43, _), (44, _), (45, _), (46, _), (47, _), (48, _), (49, _), (50, _), (51, _), (52, _), (53, _), (54, _), (55, _), (56, _), (57, _), (59, _)] rfl hs46
              · intro g47 J48
                have qg47 := g47
                try simp only [decide_eq_true_eq, decide_eq_false_iff_not, Bool.not_eq_true', Bool.not_eq_false'] at qg47
                refine WL.val (wantF rfl g47) rfl rfl (Run.move rfl rfl) ?_
                refine WL.val (wantF rfl g47) rfl rfl (Run.eql rfl rfl rfl) ?_
                refine WL.val (wantF rfl g47) rfl rfl (Run.move rfl rfl) ?_
                apply WL.meetAnd 10 97 107 [(0, _), (1, _), (2, _), (3, _), (4, _), (11, _), (12, _), (13, _), (16, _), (17, _), (18, _), (19, _), (20, _), (21, _), (22, _), (23, _), (24, _), (25, _), (26, _), (27, _), (28, _), (29, _), (30, _), (31, _), (32, _), (33, _), (34, _), (35, _), (36, _), (37, _), (38, _), (39, _), (40, _), (41, _), (42, _), (43, _), (44, _), (45, _), (46, _), (47, _), (48, _), (49, _), (50, _), (51, _), (52, _), (53, _), (54, _), (55, _), (56, _), (57, _), (59, _), (94, _)] rfl hs46
                · intro g49 J50
                  have qg49 := g49
                  try simp only [decide_eq_true_eq, decide_eq_false_iff_not, Bool.not_eq_true', Bool.not_eq_false'] at qg49
                  refine WL.val (wantT rfl g49) rfl rfl (Run.field Try.runUnderlying40 rfl rfl rfl Try.sizeOf3 rfl) ?_
                  refine WL.val (wantT rfl g49) rfl rfl (Run.loadL hs46 0 Try.isAgg3 rfl rfl rfl rfl) ?_
                  refine WL.val (wantT rfl g49) rfl rfl (Run.field Try.runUnderlying40 rfl rfl rfl Try.sizeOf3 rfl) ?_
                  refine WL.val (wantT rfl g49) rfl rfl (Run.loadL hs46 0 Try.isAgg3 rfl rfl rfl rfl) ?_
                  refine WL.val (wantT rfl g49) rfl rfl (Run.add rfl rfl rfl ?_) ?_
                  · constructor <;> omega
                  refine WL.val (wantT rfl g49) rfl rfl (Run.add rfl rfl rfl ?_) ?_
                  · constructor <;> omega
                  refine WL.val (wantT rfl g49) rfl rfl (Run.field Try.runUnderlying40 rfl rfl rfl Try.sizeOf3 rfl) ?_
                  refine WL.val (wantT rfl g49) rfl rfl (Run.loadL hs46 1 Try.isAgg3 rfl rfl rfl rfl) ?_
                  refine WL.val (wantT rfl g49) rfl rfl (Run.eql rfl rfl rfl) ?_
                  refine WL.val (wantF rfl g47) rfl rfl (Run.pickT rfl rfl g49 rfl) ?_
                  exact WL.fin J50 hs46 rfl (andT g49) ⟨rfl, rfl, rfl, rfl, rfl, rfl, rfl, rfl, rfl, rfl, rfl, rfl, rfl, rfl, rfl, rfl, rfl, rfl, rfl, rfl, rfl, rfl, rfl, rfl, rfl, rfl, rfl, rfl, rfl, rfl, rfl, rfl, rfl, rfl, rfl, rfl, rfl, rfl, rfl, rfl, rfl, rfl, rfl, rfl, rfl, rfl, rfl, rfl, rfl, rfl, rfl, rfl, trivial⟩
                · intro g49 J50
                  refine WL.skip (wantNT rfl g49) rfl rfl ?_
                  refine WL.skip (wantNT rfl g49) rfl rfl ?_
                  refine WL.skip (wantNT rfl g49) rfl rfl ?_
                  refine WL.skip (wantNT rfl g49) rfl rfl ?_
                  refine WL.skip (wantNT rfl g49) rfl rfl ?_
                  refine WL.skip (wantNT rfl g49) rfl rfl ?_
                  refine WL.skip (wantNT rfl g49) rfl rfl ?_
                  refine WL.skip (wantNT rfl g49) rfl rfl ?_
                  refine WL.skip (wantNT rfl g49) rfl rfl ?_
                  refine WL.val (wantF rfl g47) rfl rfl (Run.pickF rfl rfl g49 rfl) ?_
                  exact WL.fin J50 hs46 rfl (andF g49) ⟨rfl, rfl, rfl, rfl, rfl, rfl, rfl, rfl, rfl, rfl, rfl, rfl, rfl, rfl, rfl, rfl, rfl, rfl, rfl, rfl, rfl, rfl, rfl, rfl, rfl, rfl, rfl, rfl, rfl, rfl, rfl, rfl, rfl, rfl, rfl, rfl, rfl, rfl, rfl, rfl, rfl, rfl, rfl, rfl, rfl, rfl, rfl, rfl, rfl, rfl, rfl, rfl, trivial⟩
                · intro whs51 hs51
                  refine WL.val (wantF rfl g47) rfl rfl (Run.move rfl rfl) ?_
                  apply WL.meetAnd 2 108 110 [(0, _), (1, _), (2, _), (3, _), (4, _), (11, _), (12, _), (13, _), (16, _), (17, _), (18, _), (19, _), (20, _), (21, _), (22, _), (23, _), (24, _), (25, _), (26, _), (27, _), (28, _), (29, _), (30, _), (31, _), (32, _), (33, _), (34, _), (35, _), (36, _), (37, _), (38, _), (39, _), (40, _), (41, _), (42, _), (43, _), (44, _), (45, _), (46, _), (47, _), (48, _), (49, _), (50, _), (51, _), (52, _), (53, _), (54, _), (55, _), (56, _), (57, _), (59, _), (94, _)] rfl hs51
                  · intro g52 J53
                    have qg52 := g52
                    try simp only [decide_eq_true_eq, decide_eq_false_iff_not, Bool.not_eq_true', Bool.not_eq_false'] at qg52
                    refine WL.val (wantT rfl g52) rfl rfl (Run.move rfl rfl) ?_
                    refine WL.val (wantF rfl g47) rfl rfl (Run.pickT rfl rfl g52 rfl) ?_
                    exact WL.fin J53 hs51 rfl (andT g52) ⟨rfl, rfl, rfl, rfl, rfl, rfl, rfl, rfl, rfl, rfl, rfl, rfl, rfl, rfl, rfl, rfl, rfl, rfl, rfl, rfl, rfl, rfl, rfl, rfl, rfl, rfl, rfl, rfl, rfl, rfl, rfl, rfl, rfl, rfl, rfl, rfl, rfl, rfl, rfl, rfl, rfl, rfl, rfl, rfl, rfl, rfl, rfl, rfl, rfl, rfl, rfl, rfl, trivial⟩
                  · intro g52 J53
                    refine WL.skip (wantNT rfl g52) rfl rfl ?_
                    refine WL.val (wantF rfl g47) rfl rfl (Run.pickF rfl rfl g52 rfl) ?_
                    exact WL.fin J53 hs51 rfl (andF g52) ⟨rfl, rfl, rfl, rfl, rfl, rfl, rfl, rfl, rfl, rfl, rfl, rfl, rfl, rfl, rfl, rfl, rfl, rfl, rfl, rfl, rfl, rfl, rfl, rfl, rfl, rfl, rfl, rfl, rfl, rfl, rfl, rfl, rfl, rfl, rfl, rfl, rfl, rfl, rfl, rfl, rfl, rfl, rfl, rfl, rfl, rfl, rfl, rfl, rfl, rfl, rfl, rfl, trivial⟩
                  · intro whs54 hs54
                    refine WL.val (wantT rfl g30) rfl rfl (Run.pickF rfl rfl g47 rfl) ?_
                    exact WL.fin J48 hs54 rfl (orF g47) ⟨rfl, rfl, rfl, rfl, rfl, rfl, rfl, rfl, rfl, rfl, rfl, rfl, rfl, rfl, rfl, rfl, rfl, rfl, rfl, rfl, rfl, rfl, rfl, rfl, rfl, rfl, rfl, rfl, rfl, rfl, rfl, rfl, rfl, rfl, rfl, rfl, rfl, rfl, rfl, rfl, rfl, rfl, rfl, rfl, rfl, rfl, rfl, rfl, rfl, rfl, rfl, trivial⟩
              · intro g47 J48
                refine WL.skip (wantNF rfl g47) rfl rfl ?_
                refine WL.skip (wantNF rfl g47) rfl rfl ?_
                refine WL.skip (wantNF rfl g47) rfl rfl ?_
                refine WL.skip rfl rfl rfl ?_
                refine WL.skip rfl rfl rfl ?_
                refine WL.skip rfl rfl rfl ?_
                refine WL.skip rfl rfl rfl ?_
                refine WL.skip rfl rfl rfl ?_
                refine WL.skip rfl rfl rfl ?_
                refine WL.skip rfl rfl rfl ?_
                refine WL.skip rfl rfl rfl ?_
                refine WL.skip rfl rfl rfl ?_
                refine WL.skip (wantNF rfl g47) rfl rfl ?_
                refine WL.skip (wantNF rfl g47) rfl rfl ?_
                refine WL.skip rfl rfl rfl ?_
                refine WL.skip (wantNF rfl g47) rfl rfl ?_
                refine WL.val (wantT rfl g30) rfl rfl (Run.pickT rfl rfl g47 rfl) ?_
                exact WL.fin J48 hs46 rfl (orT g47) ⟨rfl, rfl, rfl, rfl, rfl, rfl, rfl, rfl, rfl, rfl, rfl, rfl, rfl, rfl, rfl, rfl, rfl, rfl, rfl, rfl, rfl, rfl, rfl, rfl, rfl, rfl, rfl, rfl, rfl, rfl, rfl, rfl, rfl, rfl, rfl, rfl, rfl, rfl, rfl, rfl, rfl, rfl, rfl, rfl, rfl, rfl, rfl, rfl, rfl, rfl, rfl, trivial⟩
              · intro whs55 hs55
                refine WL.val (wantT rfl g30) rfl rfl (Run.move rfl rfl) ?_
                apply WL.meetOr 17 112 129 [(0, _), (1, _), (2, _), (3, _), (4, _), (11, _), (12, _), (13, _), (16, _), (17, _), (18, _), (19, _), (20, _), (21, _), (22, _), (23, _), (24, _), (25, _), (26, _), (27, _), (28, _), (29, _), (30, _), (31, _), (32, _), (33, _), (34, _), (35, _), (36, _), (37, _), (38, _), (39, _), (40, _), (41, _), (42, _), (43, _), (44, _), (45, _), (46, _), (47, _), (48, _), (49, _), (50, _), (51, _), (52, _), (53, _), (54, _), (55, _), (56, _), (57, _), (59, _)] rfl hs55
                · intro g56 J57
                  have qg56 := g56
                  try simp only [decide_eq_true_eq, decide_eq_false_iff_not, Bool.not_eq_true', Bool.not_eq_false'] at qg56
                  refine WL.val (wantF rfl g56) rfl rfl (Run.move rfl rfl) ?_
                  refine WL.val (wantF rfl g56) rfl rfl (Run.eql rfl rfl rfl) ?_
                  refine WL.val (wantF rfl g56) rfl rfl (Run.move rfl rfl) ?_
                  apply WL.meetAnd 10 115 125 [(0, _), (1, _), (2, _), (3, _), (4, _), (11, _), (12, _), (13, _), (16, _), (17, _), (18, _), (19, _), (20, _), (21, _), (22, _), (23, _), (24, _), (25, _), (26, _), (27, _), (28, _), (29, _), (30, _), (31, _), (32, _), (33, _), (34, _), (35, _), (36, _), (37, _), (38, _), (39, _), (40, _), (41, _), (42, _), (43, _), (44, _), (45, _), (46, _), (47, _), (48, _), (49, _), (50, _), (51, _), (52, _), (53, _), (54, _), (55, _), (56, _), (57, _), (59, _), (112, _)] rfl hs55
                  · intro g58 J59
                    have qg58 := g58
                    try simp only [decide_eq_true_eq, decide_eq_false_iff_not, Bool.not_eq_true', Bool.not_eq_false'] at qg58
                    refine WL.val (wantT rfl g58) rfl rfl (Run.field Try.runUnderlying40 rfl rfl rfl Try.sizeOf3 rfl) ?_
                    refine WL.val (wantT rfl g58) rfl rfl (Run.loadL hs55 1 Try.isAgg3 rfl rfl rfl rfl) ?_
                    refine WL.val (wantT rfl g58) rfl rfl (Run.field Try.runUnderlying40 rfl rfl rfl Try.sizeOf3 rfl) ?_
                    refine WL.val (wantT rfl g58) rfl rfl (Run.loadL hs55 1 Try.isAgg3 rfl rfl rfl rfl) ?_
                    refine WL.val (wantT rfl g58) rfl rfl (Run.add rfl rfl rfl ?_) ?_
                    · constructor <;> omega
                    refine WL.val (wantT rfl g58) rfl rfl (Run.add rfl rfl rfl ?_) ?_
                    · constructor <;> omega
                    refine WL.val (wantT rfl g58) rfl rfl (Run.field Try.runUnderlying40 rfl rfl rfl Try.sizeOf3 rfl) ?_
                    refine WL.val (wantT rfl g58) rfl rfl (Run.loadL hs55 0 Try.isAgg3 rfl rfl rfl rfl) ?_
                    refine WL.val (wantT rfl g58) rfl rfl (Run.eql rfl rfl rfl) ?_
                    refine WL.val (wantF rfl g56) rfl rfl (Run.pickT rfl rfl g58 rfl) ?_
                    exact WL.fin J59 hs55 rfl (andT g58) ⟨rfl, rfl, rfl, rfl, rfl, rfl, rfl, rfl, rfl, rfl, rfl, rfl, rfl, rfl, rfl, rfl, rfl, rfl, rfl, rfl, rfl, rfl, rfl, rfl, rfl, rfl, rfl, rfl, rfl, rfl, rfl, rfl, rfl, rfl, rfl, rfl, rfl, rfl, rfl, rfl, rfl, rfl, rfl, rfl, rfl, rfl, rfl, rfl, rfl, rfl, rfl, rfl, trivial⟩
                  · intro g58 J59
                    refine WL.skip (wantNT rfl g58) rfl rfl ?_
                    refine WL.skip (wantNT rfl g58) rfl rfl ?_
                    refine WL.skip (wantNT rfl g58) rfl rfl ?_
                    refine WL.skip (wantNT rfl g58) rfl rfl ?_
                    refine WL.skip (wantNT rfl g58) rfl rfl ?_
                    refine WL.skip (wantNT rfl g58) rfl rfl ?_
                    refine WL.skip (wantNT rfl g58) rfl rfl ?_
                    refine WL.skip (wantNT rfl g58) rfl rfl ?_
                    refine WL.skip (wantNT rfl g58) rfl rfl ?_
                    refine WL.val (wantF rfl g56) rfl rfl (Run.pickF rfl rfl g58 rfl) ?_
                    exact WL.fin J59 hs55 rfl (andF g58) ⟨rfl, rfl, rfl, rfl, rfl, rfl, rfl, rfl, rfl, rfl, rfl, rfl, rfl, rfl, rfl, rfl, rfl, rfl, rfl, rfl, rfl, rfl, rfl, rfl, rfl, rfl, rfl, rfl, rfl, rfl, rfl, rfl, rfl, rfl, rfl, rfl, rfl, rfl, rfl, rfl, rfl, rfl, rfl, rfl, rfl, rfl, rfl, rfl, rfl, rfl, rfl, rfl, trivial⟩
                  · intro whs60 hs60
                    refine WL.val (wantF rfl g56) rfl rfl (Run.move rfl rfl) ?_
                    apply WL.meetAnd 2 126 128 [(0, _), (1, _), (2, _), (3, _), (4, _), (11, _), (12, _), (13, _), (16, _), (17, _), (18, _), (19, _), (20, _), (21, _), (22, _), (23, _), (24, _), (25, _), (26, _), (27, _), (28, _), (29, _), (30, _), (31, _), (32, _), (33, _), (34, _), (35, _), (36, _), (37, _), (38, _), (39, _), (40, _), (41, _), (42, _), (43, _), (44, _), (45, _), (46, _), (47, _), (48, _), (49, _), (50, _), (51, _), (52, _), (53, _), (54, _), (55, _), (56, _), (57, _), (59, _), (112, _)] rfl hs60
                    · intro g61 J62
                      have qg61 := g61
                      try simp only [decide_eq_true_eq, decide_eq_false_iff_not, Bool.not_eq_true', Bool.not_eq_false'] at qg61
                      refine WL.val (wantT rfl g61) rfl rfl (Run.move rfl rfl) ?_
                      refine WL.val (wantF rfl g56) rfl rfl (Run.pickT rfl rfl g61 rfl) ?_
                      exact WL.fin J62 hs60 rfl (andT g61) ⟨rfl, rfl, rfl, rfl, rfl, rfl, rfl, rfl, rfl, rfl, rfl, rfl, rfl, rfl, rfl, rfl, rfl, rfl, rfl, rfl, rfl, rfl, rfl, rfl, rfl, rfl, rfl, rfl, rfl, rfl, rfl, rfl, rfl, rfl, rfl, rfl, rfl, rfl, rfl, rfl, rfl, rfl, rfl, rfl, rfl, rfl, rfl, rfl, rfl, rfl, rfl, rfl, trivial⟩
                    · intro g61 J62
                      refine WL.skip (wantNT rfl g61) rfl rfl ?_
                      refine WL.val (wantF rfl g56) rfl rfl (Run.pickF rfl rfl g61 rfl) ?_
                      exact WL.fin J62 hs60 rfl (andF g61) ⟨rfl, rfl, rfl, rfl, rfl, rfl, rfl, rfl, rfl, rfl, rfl, rfl, rfl, rfl, rfl, rfl, rfl, rfl, rfl, rfl, rfl, rfl, rfl, rfl, rfl, rfl, rfl, rfl, rfl, rfl, rfl, rfl, rfl, rfl, rfl, rfl, rfl, rfl, rfl, rfl, rfl, rfl, rfl, rfl, rfl, rfl, rfl, rfl, rfl, rfl, rfl, rfl, trivial⟩
                    · intro whs63 hs63
                      refine WL.val (wantT rfl g30) rfl rfl (Run.pickF rfl rfl g56 rfl) ?_
                      exact WL.fin J57 hs63 rfl (orF g56) ⟨rfl, rfl, rfl, rfl, rfl, rfl, rfl, rfl, rfl, rfl, rfl, rfl, rfl, rfl, rfl, rfl, rfl, rfl, rfl, rfl, rfl, rfl, rfl, rfl, rfl, rfl, rfl, rfl, rfl, rfl, rfl, rfl, rfl, rfl, rfl, rfl, rfl, rfl, rfl, rfl, rfl, rfl, rfl, rfl, rfl, rfl, rfl, rfl, rfl, rfl, rfl, trivial⟩
                · intro g56 J57
                  refine WL.skip (wantNF rfl g56) rfl rfl ?_
                  refine WL.skip (wantNF rfl g56) rfl rfl ?_
                  refine WL.skip (wantNF rfl g56) rfl rfl ?_
                  refine WL.skip rfl rfl rfl ?_
                  refine WL.skip rfl rfl rfl ?_
                  refine WL.skip rfl rfl rfl ?_
                  refine WL.skip rfl rfl rfl ?_
                  refine WL.skip rfl rfl rfl ?_
                  refine WL.skip rfl rfl rfl ?_
                  refine WL.skip rfl rfl rfl ?_
                  refine WL.skip rfl rfl rfl ?_
                  refine WL.skip rfl rfl rfl ?_
                  refine WL.skip (wantNF rfl g56) rfl rfl ?_
                  refine WL.skip (wantNF rfl g56) rfl rfl ?_
                  refine WL.skip rfl rfl rfl ?_
                  refine WL.skip (wantNF rfl g56) rfl rfl ?_
                  refine WL.val (wantT rfl g30) rfl rfl (Run.pickT rfl rfl g56 rfl) ?_
                  exact WL.fin J57 hs55 rfl (orT g56) ⟨rfl, rfl, rfl, rfl, rfl, rfl, rfl, rfl, rfl, rfl, rfl, rfl, rfl, rfl, rfl, rfl, rfl, rfl, rfl, rfl, rfl, rfl, rfl, rfl, rfl, rfl, rfl, rfl, rfl, rfl, rfl, rfl, rfl, rfl, rfl, rfl, rfl, rfl, rfl, rfl, rfl, rfl, rfl, rfl, rfl, rfl, rfl, rfl, rfl, rfl, rfl, trivial⟩
                · intro whs64 hs64
                  refine WL.val rfl rfl rfl (Run.pickT rfl rfl g30 rfl) ?_
                  exact WL.fin J31 hs64 rfl (andT g30) ⟨rfl, rfl, rfl, rfl, rfl, rfl, rfl, rfl, rfl, rfl, rfl, rfl, rfl, rfl, rfl, rfl, rfl, rfl, rfl, rfl, rfl, rfl, rfl, rfl, rfl, rfl, rfl, rfl, rfl, rfl, rfl, rfl, rfl, rfl, rfl, rfl, rfl, rfl, rfl, rfl, rfl, rfl, rfl, rfl, rfl, rfl, rfl, rfl, rfl, rfl, trivial⟩
      · intro g30 J31
        refine WL.skip (wantNT rfl g30) rfl rfl ?_
        refine WL.skip (wantNT rfl g30) rfl rfl ?_
        refine WL.skip (wantNT rfl g30) rfl rfl ?_
        refine WL.skip rfl rfl rfl ?_
        refine WL.skip rfl rfl rfl ?_
        refine WL.skip rfl rfl rfl ?_
        refine WL.skip rfl rfl rfl ?_
        refine WL.skip rfl rfl rfl ?_
        refine WL.skip rfl rfl rfl ?_
        refine WL.skip rfl rfl rfl ?_
        refine WL.skip rfl rfl rfl ?_
        refine WL.skip rfl rfl rfl ?_
        refine WL.skip (wantNT rfl g30) rfl rfl ?_
        refine WL.skip (wantNT rfl g30) rfl rfl ?_
        refine WL.skip rfl rfl rfl ?_
        refine WL.skip (wantNT rfl g30) rfl rfl ?_
        refine WL.skip (wantNT rfl g30) rfl rfl ?_
        refine WL.skip rfl rfl rfl ?_
        refine WL.skip rfl rfl rfl ?_
        refine WL.skip rfl rfl rfl ?_
        refine WL.skip rfl rfl rfl ?_
        refine WL.skip rfl rfl rfl ?_
        refine WL.skip rfl rfl rfl ?_
        refine WL.skip rfl rfl rfl ?_
        refine WL.skip rfl rfl rfl ?_
        refine WL.skip rfl rfl rfl ?_
        refine WL.skip rfl rfl rfl ?_
        refine WL.skip rfl rfl rfl ?_
        refine WL.skip rfl rfl rfl ?_
        refine WL.skip rfl rfl rfl ?_
        refine WL.skip rfl rfl rfl ?_
        refine WL.skip rfl rfl rfl ?_
        refine WL.skip rfl rfl rfl ?_
        refine WL.skip (wantNT rfl g30) rfl rfl ?_
        refine WL.skip (wantNT rfl g30) rfl rfl ?_
        refine WL.skip rfl rfl rfl ?_
        refine WL.skip rfl rfl rfl ?_
        refine WL.skip rfl rfl rfl ?_
        refine WL.skip rfl rfl rfl ?_
        refine WL.skip rfl rfl rfl ?_
        refine WL.skip rfl rfl rfl ?_
        refine WL.skip rfl rfl rfl ?_
        refine WL.skip rfl rfl rfl ?_
        refine WL.skip rfl rfl rfl ?_
        refine WL.skip rfl rfl rfl ?_
        refine WL.skip rfl rfl rfl ?_
        refine WL.skip rfl rfl rfl ?_
        refine WL.skip rfl rfl rfl ?_
        refine WL.skip rfl rfl rfl ?_
        refine WL.skip rfl rfl rfl ?_
        refine WL.skip rfl rfl rfl ?_
        refine WL.skip (wantNT rfl g30) rfl rfl ?_
        refine WL.skip (wantNT rfl g30) rfl rfl ?_
        refine WL.skip rfl rfl rfl ?_
        refine WL.skip rfl rfl rfl ?_
        refine WL.skip rfl rfl rfl ?_
        refine WL.skip rfl rfl rfl ?_
        refine WL.skip rfl rfl rfl ?_
        refine WL.skip rfl rfl rfl ?_
        refine WL.skip rfl rfl rfl ?_
        refine WL.skip rfl rfl rfl ?_
        refine WL.skip rfl rfl rfl ?_
        refine WL.skip rfl rfl rfl ?_
        refine WL.skip rfl rfl rfl ?_
        refine WL.skip rfl rfl rfl ?_
        refine WL.skip rfl rfl rfl ?_
        refine WL.skip rfl rfl rfl ?_
        refine WL.skip rfl rfl rfl ?_
        refine WL.skip rfl rfl rfl ?_
        refine WL.skip (wantNT rfl g30) rfl rfl ?_
        refine WL.val rfl rfl rfl (Run.pickF rfl rfl g30 rfl) ?_
        exact WL.fin J31 hs28 rfl (andF g30) ⟨rfl, rfl, rfl, rfl, rfl, rfl, rfl, rfl, rfl, rfl, rfl, rfl, rfl, rfl, rfl, rfl, rfl, rfl, rfl, rfl, rfl, rfl, rfl, rfl, rfl, rfl, rfl, rfl, rfl, rfl, rfl, rfl, rfl, rfl, rfl, rfl, rfl, rfl, rfl, rfl, rfl, rfl, rfl, rfl, rfl, rfl, rfl, rfl, rfl, rfl, trivial⟩
      · intro whs65 hs65
        refine WL.nil ?_
        refine tkN ?_
        refine hK29 _ _ ?_
        clear hK29
        refine WC.cond rfl (fun h66 => ?_) (fun h66 => ?_)
        · have qh66 := h66
          try simp only [decide_eq_true_eq, decide_eq_false_iff_not, Bool.not_eq_true', Bool.not_eq_false', Bool.and_eq_true, Bool.or_eq_false_iff, within_iff, within_not] at qh66
          have hkb := spec_beside_yes (c := 0 ≤ placeAt t w_ h_ p) (r := gat encRect (placesL t w_ h_) i) (own := placeR t w_ h_ p) (side := side) h66
          obtain ⟨hk, hyes⟩ := hkb
          have hfi : besideAt t p side w_ h_ = (i : Int) := findI_some (F := encRect) (by omega) (p1 hk) hyes
          refine WC.seq (fun K67 hK67 => ?_)
          refine WC.region ?_
          refine WL.val rfl rfl rfl (Run.field Try.runUnderlying40 rfl rfl rfl Try.sizeOf3 rfl) ?_
          refine WL.val rfl rfl rfl (Run.loadL hs65 0 Try.isAgg3 rfl rfl rfl rfl) ?_
          refine WL.val rfl rfl rfl (Run.assign rfl rfl) ?_
          refine WL.nil ?_
          refine tkN ?_
          refine hK67 _ _ ?_
          clear hK67
          refine WC.ret ?_
          refine ibR ?_
          refine tkR ?_
          refine tkR ?_
          refine ibR ?_
          refine tkR ?_
          clear hK20 hK14
          refine retV1 rfl (resV.tmp rfl) ?_
          refine ⟨congrArg Ending.returned ?_, hs65.nil⟩
          rw [besideL, if_pos hk, hfi, if_pos (by omega)]; rfl
        · have qh66 := h66
          try simp only [decide_eq_true_eq, decide_eq_false_iff_not, Bool.not_eq_true', Bool.not_eq_false', Bool.and_eq_true, Bool.or_eq_false_iff, within_iff, within_not] at qh66
          have hno := spec_beside_no (c := 0 ≤ placeAt t w_ h_ p) (r := gat encRect (placesL t w_ h_) i) (own := placeR t w_ h_ p) (side := side) h66
          refine WC.skip ?_
          refine ibN ?_
          refine tkN ?_
          refine hK20 _ _ ?_
          clear hK20
          refine WC.region ?_
          refine WL.val rfl rfl rfl (Run.add rfl rfl rfl ?_) ?_
          · constructor <;> omega
          refine WL.val rfl rfl rfl (Run.move rfl rfl) ?_
          refine WL.nil ?_
          refine tkN ?_
          refine ⟨⟨rfl, rfl, rfl, rfl, rfl, rfl, rfl, rfl, rfl, rfl, rfl, rfl, rfl, rfl, rfl, rfl, rfl, rfl, rfl, rfl, rfl, rfl, rfl, rfl, rfl, trivial⟩, (hs65.drop (by repeat (first | exact List.Sublist.refl _ | exact List.sublist_append_left _ _ | exact List.Sublist.trans (List.sublist_append_left _ _) (List.sublist_append_left _ _) | apply List.Sublist.cons | refine List.Sublist.trans ?_ (List.sublist_append_right _ _)))), _, ?_, i + 1, rfl, ?_, ?_, ⟨rfl, trivial⟩⟩
          · omega
          · omega
          · intro ho_ j hj; rcases Nat.lt_or_ge j i with h_0 | h_0
            · exact p1 ho_ j h_0
            · obtain rfl : j = i := by omega
              exact hno ho_
    · have qh19 := h19
      try simp only [decide_eq_true_eq, decide_eq_false_iff_not, Bool.not_eq_true', Bool.not_eq_false', Bool.and_eq_true, Bool.or_eq_false_iff, within_iff, within_not] at qh19
      have hfi : 0 ≤ placeAt t w_ h_ p → besideAt t p side w_ h_ = -1 := fun hk => findI_none (F := encRect) (fun j hj => p1 hk j (by omega))
      refine WC.exit ?_
      refine tkE ?_
      refine tkE ?_
      refine ibE ?_
      refine tkN ?_
      refine hK14 _ _ ?_
      clear hK14
      refine WC.seq (fun K68 hK68 => ?_)
      refine WC.region ?_
      refine WL.val rfl rfl rfl (Run.assign rfl rfl) ?_
      refine WL.nil ?_
      refine tkN ?_
      refine hK68 _ _ ?_
      clear hK68
      refine WC.ret ?_
      refine retV1 rfl (resV.tmp rfl) ?_
      refine ⟨congrArg Ending.returned ?_, hs16.nil⟩
      rw [besideL]; split
      · rename_i hk; rw [hfi hk, if_neg (by omega)]
      · rfl
end Go.Proofs.Ytghcicggamkjgaa
