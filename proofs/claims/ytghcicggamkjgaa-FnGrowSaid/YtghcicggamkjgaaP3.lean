/- Walks of Go functions, printed by a program (wip/gen). -/
import Derived.Test.YtghcicggamkjgaaN7
import Derived.Test.YtghcicggamkjgaaP2
namespace Go.Proofs.Ytghcicggamkjgaa
open Go Go.RowKit
set_option linter.unusedVariables false
set_option linter.unusedSimpArgs false
theorem built_40_3_4 (x0 : Int) (x1 : Int) : Try.prog.built 40 [(3, .int .i64 x0), (4, .int .i64 x1)] = some (List.toArray [.int .i64 0, .int .i64 0, .int .i64 0, .int .i64 x0, .int .i64 x1]) := by kernel_rfl
theorem c_impl_areasOf (A_t : Option Addr) (n_t c_t : Nat) (t : List NodeD) (w_ : Int) (h_ : Int) (w : World) (f_t : SlF encNode w A_t n_t t) (hn : n_t ≤ 268435456) (hk : treeOk t = true) (hw : within w_ 1 120 = true) (hh : within h_ 1 120 = true) :
    Calls Try.prog 91 #[.slice A_t n_t c_t, i64 w_, i64 h_] w fun e w' => ∃ A c L1, e = .returned (.tuple #[.slice A ((putL (theT t) ⟨0, 0, 0, w_, h_⟩).1).length c, .bool (putL (theT t) ⟨0, 0, 0, w_, h_⟩).2]) ∧ St w [] L1 w' ∧ OwnF encRect 40 (.slice A ((putL (theT t) ⟨0, 0, 0, w_, h_⟩).1).length c) ((putL (theT t) ⟨0, 0, 0, w_, h_⟩).1) L1 := by
  have hl := f_t.len
  refine enter (vs := [.slice A_t n_t c_t, i64 w_, i64 h_]) 20 Try.func91 rfl Try.ntmps91 rfl rfl ?_
  have hs1 := St.init w
  refine WC.seq (fun K2 hK2 => ?_)
  refine WC.region ?_
  refine WL.box hs1 rfl rfl rfl rfl rfl rfl (fun b3 whs4 hs4 => ?_)
  refine WL.val rfl rfl rfl (Run.assign rfl rfl) ?_
  refine WL.val rfl rfl rfl (Run.assign rfl rfl) ?_
  refine WL.nil ?_
  refine tkN ?_
  refine hK2 _ _ ?_
  clear hK2
  refine WC.seq (fun K5 hK5 => ?_)
  refine WC.region ?_
  refine WL.buildF (F := encRect) hs4 ([]) Try.runUnderlying48 Try.sizeOf40 Try.zeroValue40 rfl rfl rfl rfl rfl rfl rfl rfl rfl rfl rfl rfl (fun A9 c10 L6 whs7 hs7 ho8 => ?_)
  replace hs7 := St.back [_] hs7
  refine WL.alloc hs7 Try.zeroValue48 rfl rfl rfl rfl rfl (fun b11 whs12 hs12 => ?_)
  refine WL.alloc hs12 Try.zeroValue4 rfl rfl rfl rfl rfl (fun b13 whs14 hs14 => ?_)
  refine WL.store hs14 1 Try.sizeOf48 rfl rfl rfl rfl rfl rfl rfl rfl rfl rfl (fun whs15 hs15 => ?_)
  refine WL.store hs15 0 Try.sizeOf4 rfl rfl rfl rfl rfl rfl rfl rfl rfl rfl (fun whs16 hs16 => ?_)
  refine WL.nil ?_
  refine tkN ?_
  refine hK5 _ _ ?_
  clear hK5
  refine WC.seq (fun K17 hK17 => ?_)
  refine WC.region ?_
  refine WL.alloc hs16 Try.zeroValue109 rfl rfl rfl rfl rfl (fun b18 whs19 hs19 => ?_)
  refine WL.nil ?_
  refine tkN ?_
  refine hK17 _ _ ?_
  clear hK17
  refine WC.seq (fun K20 hK20 => ?_)
  refine WC.region ?_
  refine WL.val rfl rfl rfl (Run.makeFunc rfl rfl) ?_
  refine WL.store hs19 0 Try.sizeOf109 rfl rfl rfl rfl rfl rfl rfl rfl rfl rfl (fun whs21 hs21 => ?_)
  refine WL.nil ?_
  refine tkN ?_
  refine hK20 _ _ ?_
  clear hK20
  refine WC.seq (fun K22 hK22 => ?_)
  refine WC.region ?_
  refine WL.val rfl rfl rfl (Run.loadL hs21 0 Try.isAgg109 rfl rfl rfl rfl) ?_
  refine WL.val rfl rfl rfl (Run.move rfl rfl) ?_
  refine WL.val rfl rfl rfl (Run.move rfl rfl) ?_
  refine WL.val rfl rfl rfl (Run.build rfl rfl rfl rfl (built_40_3_4 _ _)) ?_
  replace hs21 := (St.swap [_, _] (St.swap [_] (St.swap [_, _] hs21)))
  have hF23 := St.front (L1 := (b11, _) :: (b13, _) :: L6) [_, _] hs21
  refine WL.call rfl rfl rfl (Run.callC Try.call104 rfl rfl rfl) (c_impl_areasOf_1 _ _ _ _ _ 0 _ _ _ _ _ (theT t) _ _ _ _ _ _ _ _ _ (SlF.st0 f_t hF23) (SlF.own1 (hs21.own _ (nthL_mem (i := 1) rfl)).1) (SlF.own1 (hs21.own _ (nthL_mem (i := 0) rfl)).1) ho8 (St.ownA hF23) (St.nodupL hF23) (St.sep hF23 f_t) (fun _ => St.sepOwn hF23 (List.mem_append_left _ (List.mem_cons_of_mem _ List.mem_cons_self))) (fun _ => St.sepOwn hF23 (List.mem_append_left _ List.mem_cons_self)) ?_ ?_ ?_ ?_ ?_) ?_
  · omega
  · rfl
  · exact (theT_at hk).1
  · exact fine0 hw hh
  · rw [(theT_at hk).2.1]; simp; omega
  rintro _ whs27 ⟨A24, c25, L26, rfl, hs27, ho28⟩
  replace hs27 := St.lend hF23 hs27
  replace hs27 := St.back [_, _] hs27
  refine ⟨_, rfl, ?_⟩
  refine WL.nil ?_
  refine tkN ?_
  refine hK22 _ _ ?_
  clear hK22
  refine WC.seq (fun K29 hK29 => ?_)
  refine WC.regionQ (fun w' => St _ _ _ w') mixed (by kernel_rfl) hs27.drew ?_
  refine WQ.val rfl rfl rfl (fun w_ hs_ => (Run.loadL (hs_ : St _ _ _ _) 2 Try.isAgg48 rfl rfl rfl rfl)) ?_
  refine WQ.val rfl rfl rfl (fun w_ hs_ => (Run.loadL (hs_ : St _ _ _ _) 3 Try.isAgg4 rfl rfl rfl rfl)) ?_
  refine WQ.val rfl rfl rfl (fun w_ hs_ => (Run.assign rfl rfl)) ?_
  refine WQ.val rfl rfl rfl (fun w_ hs_ => (Run.assign rfl rfl)) ?_
  refine WQ.nil (fun whs30 hs30 => ?_)
  replace hs30 : St _ _ _ _ := hs30
  refine tkN ?_
  refine hK29 _ _ ?_
  clear hK29
  refine WC.ret ?_
  refine retV2 rfl (resV.tmp rfl) (resV.tmp rfl) ?_
  have hx_ := OwnF.eqOf (xs := (putL (theT t) ⟨0, 0, 0, w_, h_⟩).1) ho28 (by simp)
  rw [← hx_]
  first | exact ⟨_, _, _, rfl, (St.keep1 (St.perm hs30 (L' := L26 ++ _) (perm_front (A := [_, _, _, _]) (List.Perm.refl _)))), ho28⟩ | exact ⟨A24, c25, _, by rw [OwnF.len_ ho28], (St.keep1 (St.perm hs30 (L' := L26 ++ _) (perm_front (A := [_, _, _, _]) (List.Perm.refl _)))), by rw [OwnF.len_ ho28]; exact ho28⟩
theorem c_impl_places (A_t : Option Addr) (n_t c_t : Nat) (t : List NodeD) (w_ : Int) (h_ : Int) (w : World) (f_t : SlF encNode w A_t n_t t) (hn : n_t ≤ 268435456) :
    Calls Try.prog 74 #[.slice A_t n_t c_t, i64 w_, i64 h_] w fun e w' => ∃ A c L1, e = .returned (.tuple #[.slice A (areasL t w_ h_).length c, .bool (placesOk t w_ h_)]) ∧ St w [] L1 w' ∧ OwnF encRect 40 (.slice A (areasL t w_ h_).length c) (areasL t w_ h_) L1 := by
  have hl := f_t.len
  refine enter (vs := [.slice A_t n_t c_t, i64 w_, i64 h_]) 27 Try.func74 rfl Try.ntmps74 rfl rfl ?_
  have hs1 := St.init w
  refine WC.seq (fun K2 hK2 => ?_)
  refine WC.region ?_
  refine WL.val rfl rfl rfl (Run.assign rfl rfl) ?_
  refine WL.val rfl rfl rfl (Run.assign rfl rfl) ?_
  refine WL.nil ?_
  refine tkN ?_
  refine hK2 _ _ ?_
  clear hK2
  refine WC.seq (fun K3 hK3 => ?_)
  refine WC.seq (fun K4 hK4 => ?_)
  refine WC.region ?_
  refine WL.val rfl rfl rfl (Run.move rfl rfl) ?_
  refine WL.call rfl rfl rfl (Run.call Try.call20 rfl rfl rfl) (c_impl_TreeOk _ _ _ _ _ (SlF.st0 f_t hs1) ?_) ?_
  · first | assumption | rfl | omega
  rintro _ whs5 ⟨rfl, hs5⟩
  replace hs5 := hs1.call0 hs5
  refine ⟨_, rfl, ?_⟩
  refine WL.val rfl rfl rfl (Run.not rfl rfl) ?_
  refine WL.val rfl rfl rfl (Run.move rfl rfl) ?_
  apply WL.meetOr 4 11 15 [(0, _), (1, _), (2, _), (6, _), (7, _)] rfl hs5
  · intro g6 J7
    have qg6 := g6
    try simp only [decide_eq_true_eq, decide_eq_false_iff_not, Bool.not_eq_true', Bool.not_eq_false'] at qg6
    refine WL.val (wantF rfl g6) rfl rfl (Run.move rfl rfl) ?_
    refine WL.call (wantF rfl g6) rfl rfl (Run.call Try.call83 rfl rfl rfl) (c_impl_within _ _ _ _) ?_
    rintro _ whs8 ⟨rfl, hs8⟩
    replace hs8 := hs5.call0 hs8
    refine ⟨_, rfl, ?_⟩
    refine WL.val (wantF rfl g6) rfl rfl (Run.not rfl rfl) ?_
    refine WL.val rfl rfl rfl (Run.pickF rfl rfl g6 rfl) ?_
    exact WL.fin J7 hs8 rfl (orF g6) ⟨rfl, rfl, rfl, rfl, rfl, trivial⟩
  · intro g6 J7
    refine WL.skip (wantNF rfl g6) rfl rfl ?_
    refine WL.skip (wantNF rfl g6) rfl rfl ?_
    refine WL.skip (wantNF rfl g6) rfl rfl ?_
    refine WL.val rfl rfl rfl (Run.pickT rfl rfl g6 rfl) ?_
    exact WL.fin J7 hs5 rfl (orT g6) ⟨rfl, rfl, rfl, rfl, rfl, trivial⟩
  · intro whs9 hs9
    refine WL.val rfl rfl rfl (Run.move rfl rfl) ?_
    apply WL.meetOr 4 16 20 [(0, _), (1, _), (2, _), (6, _), (7, _)] rfl hs9
    · intro g10 J11
      have qg10 := g10
      try simp only [decide_eq_true_eq, decide_eq_false_iff_not, Bool.not_eq_true', Bool.not_eq_false'] at qg10
      refine WL.val (wantF rfl g10) rfl rfl (Run.move rfl rfl) ?_
      refine WL.call (wantF rfl g10) rfl rfl (Run.call Try.call83 rfl rfl rfl) (c_impl_within _ _ _ _) ?_
      rintro _ whs12 ⟨rfl, hs12⟩
      replace hs12 := hs9.call0 hs12
      refine ⟨_, rfl, ?_⟩
      refine WL.val (wantF rfl g10) rfl rfl (Run.not rfl rfl) ?_
      refine WL.val rfl rfl rfl (Run.pickF rfl rfl g10 rfl) ?_
      exact WL.fin J11 hs12 rfl (orF g10) ⟨rfl, rfl, rfl, rfl, rfl, trivial⟩
    · intro g10 J11
      refine WL.skip (wantNF rfl g10) rfl rfl ?_
      refine WL.skip (wantNF rfl g10) rfl rfl ?_
      refine WL.skip (wantNF rfl g10) rfl rfl ?_
      refine WL.val rfl rfl rfl (Run.pickT rfl rfl g10 rfl) ?_
      exact WL.fin J11 hs9 rfl (orT g10) ⟨rfl, rfl, rfl, rfl, rfl, trivial⟩
    · intro whs13 hs13
      refine WL.nil ?_
      refine tkN ?_
      refine hK4 _ _ ?_
      clear hK4
      refine WC.cond rfl (fun h14 => ?_) (fun h14 => ?_)
      · have qh14 := h14
        try simp only [decide_eq_true_eq, decide_eq_false_iff_not, Bool.not_eq_true', Bool.not_eq_false', Bool.and_eq_true, Bool.or_eq_false_iff, within_iff, within_not] at qh14
        have hk : sidesOk t w_ h_ = false := by
          rw [← Bool.not_eq_true]; intro h_1
          simp only [sidesOk, Bool.and_eq_true] at h_1
          simp [h_1] at h14
        refine WC.seq (fun K15 hK15 => ?_)
        refine WC.region ?_
        refine WL.val rfl rfl rfl (Run.assign rfl rfl) ?_
        refine WL.val rfl rfl rfl (Run.assign rfl rfl) ?_
        refine WL.nil ?_
        refine tkN ?_
        refine hK15 _ _ ?_
        clear hK15
        refine WC.ret ?_
        refine tkR ?_
        clear hK3
        refine retV2 rfl (resV.tmp rfl) (resV.tmp rfl) ?_
        rw [show placesOk t w_ h_ = false by simp [placesOk, hk]]
        have hx_ := OwnF.eqOf (xs := areasL t w_ h_) (OwnF.nil encRect 40) (by simp [areasL, hk])
        rw [← hx_]
        exact ⟨_, _, _, rfl, hs13.nil, (OwnF.nil encRect 40)⟩
      · have qh14 := h14
        try simp only [decide_eq_true_eq, decide_eq_false_iff_not, Bool.not_eq_true', Bool.not_eq_false', Bool.and_eq_true, Bool.or_eq_false_iff, within_iff, within_not] at qh14
        have hk : treeOk t = true ∧ within w_ 1 120 = true ∧ within h_ 1 120 = true := by simp at h14; exact ⟨h14.1.1, h14.1.2, h14.2⟩
        have hs : sidesOk t w_ h_ = true := by simp [sidesOk, hk]
        refine WC.skip ?_
        refine tkN ?_
        refine hK3 _ _ ?_
        clear hK3
        refine WC.seq (fun K16 hK16 => ?_)
        refine WC.region ?_
        refine WL.val rfl rfl rfl (Run.move rfl rfl) ?_
        refine WL.val rfl rfl rfl (Run.move rfl rfl) ?_
        refine WL.val rfl rfl rfl (Run.move rfl rfl) ?_
        refine WL.call rfl rfl rfl (Run.call Try.call91 rfl rfl rfl) (c_impl_areasOf _ _ _ _ _ _ _ (SlF.st0 f_t hs13) ?_ ?_ ?_ ?_) ?_
        · omega
        · exact hk.1
        · exact hk.2.1
        · exact hk.2.2
        rintro _ whs17 ⟨A18, c19, L120, rfl, hs17, ho21⟩
        replace hs17 := hs13.callF hs17
        refine ⟨_, rfl, ?_⟩
        refine WL.val rfl rfl rfl (Run.extract rfl rfl rfl) ?_
        refine WL.val rfl rfl rfl (Run.extract rfl rfl rfl) ?_
        refine WL.val rfl rfl rfl (Run.assign rfl rfl) ?_
        refine WL.val rfl rfl rfl (Run.assign rfl rfl) ?_
        refine WL.nil ?_
        refine tkN ?_
        refine hK16 _ _ ?_
        clear hK16
        refine WC.ret ?_
        refine retV2 rfl (resV.tmp rfl) (resV.tmp rfl) ?_
        rw [show placesOk t w_ h_ = (putL (theT t) ⟨0, 0, 0, w_, h_⟩).2 by simp [placesOk, hs, put_eq hk.1]]
        have hx_ := OwnF.eqOf (xs := areasL t w_ h_) ho21 (by simp [areasL, hs])
        rw [← hx_]
        first | exact ⟨_, _, _, rfl, (St.keep1 hs17), ho21⟩ | exact ⟨A18, c19, _, by rw [OwnF.len_ ho21], (St.keep1 hs17), by rw [OwnF.len_ ho21]; exact ho21⟩
theorem c_impl_Places_1 (r_Pane : Int) (r_X : Int) (r_Y : Int) (r_W : Int) (r_H : Int) (w : World) :
    Calls Try.prog 76 #[.agg #[i64 r_Pane, i64 r_X, i64 r_Y, i64 r_W, i64 r_H]] w fun e w' => e = .returned (.bool (decide (r_Pane = 0))) ∧ St w [] [] w' := by
  refine enter (vs := [.agg #[i64 r_Pane, i64 r_X, i64 r_Y, i64 r_W, i64 r_H]]) 6 Try.func76 rfl Try.ntmps76 rfl rfl ?_
  have hs1 := St.init w
  refine WC.seq (fun K2 hK2 => ?_)
  refine WC.region ?_
  refine WL.box hs1 rfl rfl rfl rfl rfl rfl (fun b3 whs4 hs4 => ?_)
  refine WL.val rfl rfl rfl (Run.assign rfl rfl) ?_
  refine WL.nil ?_
  refine tkN ?_
  refine hK2 _ _ ?_
  clear hK2
  refine WC.seq (fun K5 hK5 => ?_)
  refine WC.region ?_
  refine WL.val rfl rfl rfl (Run.field Try.runUnderlying40 rfl rfl rfl Try.sizeOf3 rfl) ?_
  refine WL.val rfl rfl rfl (Run.loadL hs4 0 Try.isAgg3 rfl rfl rfl rfl) ?_
  refine WL.val rfl rfl rfl (Run.eql rfl rfl rfl) ?_
  refine WL.val rfl rfl rfl (Run.assign rfl rfl) ?_
  refine WL.nil ?_
  refine tkN ?_
  refine hK5 _ _ ?_
  clear hK5
  refine WC.ret ?_
  refine retV1 rfl (resV.tmp rfl) ?_
  refine ⟨congrArg Ending.returned ?_, hs4.nil⟩
  rfl
theorem c_slices_IndexFunc_impl_Rect_impl_Rect_1 (A_s : Option Addr) (n_s c_s : Nat) (s : List RectD) (w : World) (f_s : SlF encRect w A_s n_s s) (hn : n_s ≤ 1099511627776) :
    Calls Try.prog 70 #[.slice A_s n_s c_s, .func (.func 76) #[] #[]] w fun e w' => e = .returned (.int .i64 (findI (fun r : RectD => decide (r.Pane = 0)) s)) ∧ St w [] [] w' := by
  refine enter (vs := [.slice A_s n_s c_s, .func (.func 76) #[] #[]]) 19 Try.func70 rfl Try.ntmps70 rfl rfl ?_
  have hs1 := St.init w
  refine WC.seq (fun K2 hK2 => ?_)
  refine WC.region ?_
  refine WL.val rfl rfl rfl (Run.assign rfl rfl) ?_
  refine WL.nil ?_
  refine tkN ?_
  refine hK2 _ _ ?_
  clear hK2
  refine WC.seq (fun K3 hK3 => ?_)
  refine WC.seq (fun K4 hK4 => ?_)
  refine WC.region ?_
  refine WL.val rfl rfl rfl (Run.move rfl rfl) ?_
  refine WL.val rfl rfl rfl (Run.lenSl Try.runUnderlying48 rfl rfl) ?_
  refine WL.val rfl rfl rfl (Run.move rfl rfl) ?_
  refine WL.nil ?_
  refine tkN ?_
  refine hK4 _ _ ?_
  clear hK4
  refine WC.block ?_
  refine WC.loopS [(0, _), (1, _), (6, _), (7, _)] ⟨rfl, rfl, rfl, rfl, trivial⟩ hs1 (fun k_ f w' => ∃ (i : Nat), k_ = n_s - i ∧ (i ≤ n_s) ∧ (∀ j, j < i → (fun r : RectD => decide (r.Pane = 0)) (gat encRect s j) = false) ∧ Sub [(8, .int .i64 i)] f) ((fun (i : Nat) => n_s - i) (0)) ?_ ?_
  · refine ⟨0, rfl, ?_, ?_, ⟨rfl, trivial⟩⟩
    · exact Nat.zero_le _
    · exact fun j hj => absurd hj (by omega)
  · clear hs1
    rintro _ f w ⟨i, rfl, p0, p1, hG⟩ hF hs5
    refine WC.sub _ (hG.app hF) ?_
    clear hG hF
    refine WC.seq (fun K6 hK6 => ?_)
    refine WC.region ?_
    refine WL.val rfl rfl rfl (Run.lss rfl rfl rfl) ?_
    refine WL.nil ?_
    refine tkN ?_
    refine hK6 _ _ ?_
    clear hK6
    refine WC.seq (fun K7 hK7 => ?_)
    refine WC.cond rfl (fun h8 => ?_) (fun h8 => ?_)
    · have qh8 := h8
      try simp only [decide_eq_true_eq, decide_eq_false_iff_not] at qh8
      refine WC.skip ?_
      refine tkN ?_
      refine hK7 _ _ ?_
      clear hK7
      refine WC.seq (fun K9 hK9 => ?_)
      refine WC.block ?_
      refine WC.seq (fun K10 hK10 => ?_)
      refine WC.region ?_
      refine WL.val rfl rfl rfl (Run.move rfl rfl) ?_
      refine WL.val rfl rfl rfl (Run.assign rfl rfl) ?_
      refine WL.nil ?_
      refine tkN ?_
      refine hK10 _ _ ?_
      clear hK10
      refine WC.seq (fun K11 hK11 => ?_)
      refine WC.region ?_
      refine WL.val rfl rfl rfl (Run.move rfl rfl) ?_
      refine WL.val rfl rfl rfl (Run.move rfl rfl) ?_
      refine WL.val rfl rfl rfl (Run.move rfl rfl) ?_
      refine WL.val rfl rfl rfl (Run.idxN Try.runUnderlying48 Try.sizeOf40 rfl rfl rfl ?_ ?_ ?_) ?_
      · exact SlF.some_ (SlF.st0 f_s hs5)
      · omega
      · omega
      refine WL.val rfl rfl rfl (Run.loadA Try.isAgg40 Try.sizeOf40 rfl rfl (SlF.whole (SlF.st0 f_s hs5) ?_)) ?_
      · omega
      refine WL.call rfl rfl rfl (Run.call Try.call76 rfl rfl rfl) (c_impl_Places_1 _ _ _ _ _ _) ?_
      rintro _ whs12 ⟨rfl, hs12⟩
      replace hs12 := hs5.call0 hs12
      refine ⟨_, rfl, ?_⟩
      refine WL.nil ?_
      refine tkN ?_
      refine hK11 _ _ ?_
      clear hK11
      refine WC.cond rfl (fun h13 => ?_) (fun h13 => ?_)
      · have qh13 := h13
        try simp only [decide_eq_true_eq, decide_eq_false_iff_not] at qh13
        refine WC.seq (fun K14 hK14 => ?_)
        refine WC.region ?_
        refine WL.val rfl rfl rfl (Run.move rfl rfl) ?_
        refine WL.val rfl rfl rfl (Run.assign rfl rfl) ?_
        refine WL.nil ?_
        refine tkN ?_
        refine hK14 _ _ ?_
        clear hK14
        refine WC.ret ?_
        refine ibR ?_
        refine tkR ?_
        refine tkR ?_
        refine ibR ?_
        refine tkR ?_
        clear hK9 hK3
        refine retV1 rfl (resV.tmp rfl) ?_
        refine ⟨congrArg Ending.returned ?_, hs12.nil⟩
        rw [findI_some (F := encRect) (by rw [f_s.len]; omega) p1 h13]
      · have qh13 := h13
        try simp only [decide_eq_true_eq, decide_eq_false_iff_not] at qh13
        refine WC.skip ?_
        refine ibN ?_
        refine tkN ?_
        refine hK9 _ _ ?_
        clear hK9
        refine WC.region ?_
        refine WL.val rfl rfl rfl (Run.add rfl rfl rfl ?_) ?_
        · constructor <;> omega
        refine WL.val rfl rfl rfl (Run.move rfl rfl) ?_
        refine WL.nil ?_
        refine tkN ?_
        refine ⟨⟨rfl, rfl, rfl, rfl, trivial⟩, hs12, _, ?_, i + 1, rfl, ?_, ?_, ⟨rfl, trivial⟩⟩
        · omega
        · omega
        · intro j hj; rcases Nat.lt_or_ge j i with h_ | h_
          · exact p1 j h_
          · obtain rfl : j = i := by omega
            exact h13
    · have qh8 := h8
      try simp only [decide_eq_true_eq, decide_eq_false_iff_not] at qh8
      refine WC.exit ?_
      refine tkE ?_
      refine tkE ?_
      refine ibE ?_
      refine tkN ?_
      refine hK3 _ _ ?_
      clear hK3
      refine WC.seq (fun K15 hK15 => ?_)
      refine WC.region ?_
      refine WL.val rfl rfl rfl (Run.assign rfl rfl) ?_
      refine WL.nil ?_
      refine tkN ?_
      refine hK15 _ _ ?_
      clear hK15
      refine WC.ret ?_
      refine retV1 rfl (resV.tmp rfl) ?_
      refine ⟨congrArg Ending.returned ?_, hs5.nil⟩
      rw [findI_none (F := encRect) (fun j hj => p1 j (by rw [f_s.len] at hj; omega))]
theorem c_slices_DeleteFunc_impl_Rect_impl_Rect (v_s : Value) (s : List RectD) (L_s : Hp) (w : World) (o_s : OwnF encRect 40 v_s s L_s) (h_s : ∀ p, p ∈ L_s → w.heap[p.1]? = some p.2) (hn : s.length ≤ 268435456) :
    Calls Try.prog 75 #[v_s, .func (.func 76) #[] #[]] w fun e w' => ∃ A c L1, e = .returned (.slice A (s.filter (fun r : RectD => !decide (r.Pane = 0))).length c) ∧ St w (L_s.map (·.1)) L1 w' ∧ OwnF encRect 40 (.slice A (s.filter (fun r : RectD => !decide (r.Pane = 0))).length c) (s.filter (fun r : RectD => !decide (r.Pane = 0))) L1 := by
  obtain ⟨A_s, c_s, rfl⟩ := o_s.shape
  refine enter (vs := [.slice A_s s.length c_s, .func (.func 76) #[] #[]]) 42 Try.func75 rfl Try.ntmps75 rfl rfl ?_
  have hs1 := St.lent1 w L_s o_s h_s
  refine WC.seq (fun K2 hK2 => ?_)
  refine WC.region ?_
  refine WL.val rfl rfl rfl (Run.assign rfl rfl) ?_
  refine WL.nil ?_
  refine tkN ?_
  refine hK2 _ _ ?_
  clear hK2
  refine WC.seq (fun K3 hK3 => ?_)
  refine WC.region ?_
  refine WL.val rfl rfl rfl (Run.move rfl rfl) ?_
  refine WL.val rfl rfl rfl (Run.move rfl rfl) ?_
  refine WL.call rfl rfl rfl (Run.call Try.call70 rfl rfl rfl) (c_slices_IndexFunc_impl_Rect_impl_Rect_1 _ _ _ _ _ (SlF.ofOwn o_s (fun p_ hp_ => (hs1.own p_ (List.mem_append_left _ hp_)).1)) ?_) ?_
  · first | assumption | rfl | omega
  rintro _ whs4 ⟨rfl, hs4⟩
  replace hs4 := hs1.call0 hs4
  refine ⟨_, rfl, ?_⟩
  refine WL.val rfl rfl rfl (Run.assign rfl rfl) ?_
  refine WL.nil ?_
  refine tkN ?_
  refine hK3 _ _ ?_
  clear hK3
  refine WC.seq (fun K5 hK5 => ?_)
  refine WC.seq (fun K6 hK6 => ?_)
  refine WC.region ?_
  refine WL.val rfl rfl rfl (Run.move rfl rfl) ?_
  refine WL.val rfl rfl rfl (Run.eql rfl rfl rfl) ?_
  refine WL.nil ?_
  refine tkN ?_
  refine hK6 _ _ ?_
  clear hK6
  refine WC.cond rfl (fun h7 => ?_) (fun h7 => ?_)
  · have qh7 := h7
    try simp only [decide_eq_true_eq, decide_eq_false_iff_not, Bool.not_eq_true', Bool.not_eq_false', Bool.and_eq_true, Bool.or_eq_false_iff, within_iff, within_not] at qh7
    have hall : s.filter (fun r : RectD => !decide (r.Pane = 0)) = s := by
      rcases findI_cases (p := fun r : RectD => decide (r.Pane = 0)) (xs := s) with ⟨_, h1_⟩ | ⟨i1, _, h1_, _⟩
      · exact filter_none h1_
      · omega
    refine WC.seq (fun K8 hK8 => ?_)
    refine WC.region ?_
    refine WL.val rfl rfl rfl (Run.move rfl rfl) ?_
    refine WL.val rfl rfl rfl (Run.assign rfl rfl) ?_
    refine WL.nil ?_
    refine tkN ?_
    refine hK8 _ _ ?_
    clear hK8
    refine WC.ret ?_
    refine tkR ?_
    clear hK5
    refine retV1 rfl (resV.tmp rfl) ?_
    have hx_ := OwnF.eqOf (xs := s.filter (fun r : RectD => !decide (r.Pane = 0))) o_s (by rw [hall])
    rw [← hx_]
    first | exact ⟨_, _, _, rfl, (St.keep1 hs4), o_s⟩ | exact ⟨A_s, c_s, _, by rw [OwnF.len_ o_s], (St.keep1 hs4), by rw [OwnF.len_ o_s]; exact o_s⟩
  · have qh7 := h7
    try simp only [decide_eq_true_eq, decide_eq_false_iff_not, Bool.not_eq_true', Bool.not_eq_false', Bool.and_eq_true, Bool.or_eq_false_iff, within_iff, within_not] at qh7
    obtain ⟨i0, hi0, hf0, hp0, hb0⟩ : ∃ i0 : Nat, ∃ hi : i0 < s.length, findI (fun r : RectD => decide (r.Pane = 0)) s = (i0 : Int) ∧ decide (s[i0].Pane = 0) = true ∧ ∀ j (hj : j < i0), decide ((s[j]'(by omega)).Pane = 0) = false := by
      rcases findI_cases (p := fun r : RectD => decide (r.Pane = 0)) (xs := s) with ⟨h1_, _⟩ | ⟨i1, hi, h1_, h2_, h3_⟩
      · omega
      · exact ⟨i1, hi, h1_, h2_, h3_⟩
    rw [hf0]
    have hinit : s.take i0 = (s.take (i0 + 1)).filter (fun r : RectD => !decide (r.Pane = 0)) := by
      rw [filter_take (F := encRect) hi0]
      have hg : gat encRect s i0 = s[i0] := by have e_ := gat_get (F := encRect) hi0; rw [List.getElem?_eq_getElem hi0] at e_; exact (Option.some.inj e_).symm
      rw [if_neg (by rw [hg]; simpa using hp0), List.append_nil, filter_none]
      intro x hx
      obtain ⟨j, hj, rfl⟩ := List.mem_iff_getElem.1 hx
      rw [List.length_take] at hj
      rw [List.getElem_take]
      exact hb0 j (by omega)
    refine WC.skip ?_
    refine tkN ?_
    refine hK5 _ _ ?_
    clear hK5
    refine WC.seq (fun K9 hK9 => ?_)
    refine WC.seq (fun K10 hK10 => ?_)
    refine WC.region ?_
    refine WL.val rfl rfl rfl (Run.move rfl rfl) ?_
    refine WL.val rfl rfl rfl (Run.add rfl rfl rfl ?_) ?_
    · constructor <;> omega
    refine WL.val rfl rfl rfl (Run.assign rfl rfl) ?_
    refine WL.nil ?_
    refine tkN ?_
    refine hK10 _ _ ?_
    clear hK10
    refine WC.block ?_
    refine WC.loopO [(1, _), (4, _), (8, _), (9, _), (10, _), (11, _), (12, _), (14, _), (15, _)] ⟨rfl, rfl, rfl, rfl, rfl, rfl, rfl, rfl, rfl, trivial⟩ hs4 (fun k_ f L_ => ∃ (zs : List RectD) (i j : Nat), k_ = s.length - j ∧ (i < j) ∧ (j ≤ s.length) ∧ (zs.length = s.length) ∧ (zs.take i = (s.take j).filter (fun r : RectD => !decide (r.Pane = 0))) ∧ (∀ k, j ≤ k → gat encRect zs k = gat encRect s k) ∧ OwnF encRect 40 (.slice A_s (s.length) c_s) (zs) L_ ∧ Sub [(0, .slice A_s (s.length) c_s), (5, .int .i64 i), (6, .int .i64 j)] f) (((fun (zs : List RectD) (i j : Nat) => s.length - j) (s) (i0) ((i0 + 1)))) ?_ ?_
    · refine ⟨s, i0, (i0 + 1), rfl, ?_, ?_, ?_, ?_, ?_, o_s, ⟨rfl, rfl, rfl, trivial⟩⟩
      · omega
      · omega
      · rfl
      · exact hinit
      · exact fun k _ => rfl
    · clear hs4
      rintro _ f w L13 ⟨zs, i, j, rfl, p0, p1, p2, p3, p4, ho14, hG⟩ hF hs15
      refine WC.sub _ (hG.app hF) ?_
      clear hG hF
      refine WC.seq (fun K16 hK16 => ?_)
      refine WC.seq (fun K17 hK17 => ?_)
      refine WC.region ?_
      refine WL.val rfl rfl rfl (Run.move rfl rfl) ?_
      refine WL.val rfl rfl rfl (Run.move rfl rfl) ?_
      refine WL.val rfl rfl rfl (Run.lenSl Try.runUnderlying48 rfl rfl) ?_
      refine WL.val rfl rfl rfl (Run.lss rfl rfl rfl) ?_
      refine WL.nil ?_
      refine tkN ?_
      refine hK17 _ _ ?_
      clear hK17
      refine WC.cond rfl (fun h18 => ?_) (fun h18 => ?_)
      · have qh18 := h18
        try simp only [decide_eq_true_eq, decide_eq_false_iff_not, Bool.not_eq_true', Bool.not_eq_false', Bool.and_eq_true, Bool.or_eq_false_iff, within_iff, within_not] at qh18
        refine WC.skip ?_
        refine tkN ?_
        refine hK16 _ _ ?_
        clear hK16
        refine WC.seq (fun K19 hK19 => ?_)
        refine WC.block ?_
        refine WC.seq (fun K20 hK20 => ?_)
        refine WC.region ?_
        refine WL.val rfl rfl rfl (Run.move rfl rfl) ?_
        refine WL.val rfl rfl rfl (Run.move rfl rfl) ?_
        refine WL.val rfl rfl rfl (Run.idxN Try.runUnderlying48 Try.sizeOf40 rfl rfl rfl ?_ ?_ ?_) ?_
        · exact SlF.some_ (SlF.ofOwn ho14 (fun p_ hp_ => (hs15.own p_ (List.mem_append_left _ hp_)).1))
        · omega
        · omega
        refine WL.val rfl rfl rfl (Run.loadA Try.isAgg40 Try.sizeOf40 rfl rfl (SlF.whole (SlF.ofOwn ho14 (fun p_ hp_ => (hs15.own p_ (List.mem_append_left _ hp_)).1)) ?_)) ?_
        · omega
        refine WL.alloc hs15 Try.zeroValue40 rfl rfl rfl rfl rfl (fun b21 whs22 hs22 => ?_)
        refine WL.storeA hs22 0 Try.sizeOf40 rfl rfl rfl rfl rfl rfl rfl rfl rfl (Nat.le_of_ble_eq_true rfl) (.inl (Nat.le_of_ble_eq_true rfl)) (fun whs23 hs23 => ?_)
        refine WL.nil ?_
        refine tkN ?_
        refine hK20 _ _ ?_
        clear hK20
        refine WC.seq (fun K24 hK24 => ?_)
        refine WC.region ?_
        refine WL.val rfl rfl rfl (Run.move rfl rfl) ?_
        refine WL.val rfl rfl rfl (Run.loadLA hs23 0 Try.isAgg40 Try.sizeOf40 rfl rfl rfl rfl rfl) ?_
        refine WL.call rfl rfl rfl (Run.call Try.call76 rfl rfl rfl) (c_impl_Places_1 _ _ _ _ _ _) ?_
        rintro _ whs25 ⟨rfl, hs25⟩
        replace hs25 := hs23.call0 hs25
        refine ⟨_, rfl, ?_⟩
        refine WL.val rfl rfl rfl (Run.not rfl rfl) ?_
        refine WL.nil ?_
        refine tkN ?_
        refine hK24 _ _ ?_
        clear hK24
        refine WC.cond rfl (fun h26 => ?_) (fun h26 => ?_)
        · have qh26 := h26
          try simp only [decide_eq_true_eq, decide_eq_false_iff_not, Bool.not_eq_true', Bool.not_eq_false', Bool.and_eq_true, Bool.or_eq_false_iff, within_iff, within_not] at qh26
          refine WC.seq (fun K27 hK27 => ?_)
          refine WC.region ?_
          refine WL.val rfl rfl rfl (Run.move rfl rfl) ?_
          refine WL.val rfl rfl rfl (Run.move rfl rfl) ?_
          refine WL.val rfl rfl rfl (Run.loadLA hs25 0 Try.isAgg40 Try.sizeOf40 rfl rfl rfl rfl rfl) ?_
          refine WL.val rfl rfl rfl (Run.idxN Try.runUnderlying48 Try.sizeOf40 rfl rfl rfl ?_ ?_ ?_) ?_
          · exact SlF.some_ (SlF.ofOwn ho14 (fun p_ hp_ => (hs25.own p_ (List.mem_append_right [_] (List.mem_append_left _ hp_))).1))
          · omega
          · omega
          refine WL.storeF1 (x' := (gat encRect zs j)) (St.perm hs25 (L' := L13 ++ _) (perm_front (A := [_]) (List.Perm.refl _))) ho14 Try.sizeOf40 rfl rfl rfl rfl rfl rfl rfl rfl rfl ?_ rfl (fun L28 whs29 hs29 ho30 _ => ?_)
          · omega
          replace hs29 := St.back [_] hs29
          refine WL.nil ?_
          refine tkN ?_
          refine hK27 _ _ ?_
          clear hK27
          refine WC.region ?_
          refine WL.val rfl rfl rfl (Run.move rfl rfl) ?_
          refine WL.val rfl rfl rfl (Run.add rfl rfl rfl ?_) ?_
          · constructor <;> omega
          refine WL.val rfl rfl rfl (Run.assign rfl rfl) ?_
          refine WL.nil ?_
          refine ibN ?_
          refine tkN ?_
          refine hK19 _ _ ?_
          clear hK19
          refine WC.region ?_
          refine WL.val rfl rfl rfl (Run.move rfl rfl) ?_
          refine WL.val rfl rfl rfl (Run.add rfl rfl rfl ?_) ?_
          · constructor <;> omega
          refine WL.val rfl rfl rfl (Run.assign rfl rfl) ?_
          refine WL.nil ?_
          refine tkN ?_
          replace hs29 := St.drop hs29 (List.sublist_append_right [_] _)
          refine ⟨⟨rfl, rfl, rfl, rfl, rfl, rfl, rfl, rfl, rfl, trivial⟩, _, hs29, _, ?_, _, (i + 1), (j + 1), rfl, ?_, ?_, ?_, ?_, ?_, ho30, ⟨rfl, rfl, rfl, trivial⟩⟩
          · omega
          · omega
          · omega
          · first | omega | (rw [List.length_set]; omega)
          · first | (rw [set_take (by omega), p3, filter_take (F := encRect) (by omega), if_pos (by rw [← p4 j (Nat.le_refl _)]; simpa using h26), p4 j (Nat.le_refl _)]) | (rw [p3, filter_take (F := encRect) (by omega), if_neg (by rw [← p4 j (Nat.le_refl _)]; simpa using h26), List.append_nil])
          · intro k hk; first | (rw [gat_set_ne (by omega)]; exact p4 k (by omega)) | exact p4 k (by omega)
        · have qh26 := h26
          try simp only [decide_eq_true_eq, decide_eq_false_iff_not, Bool.not_eq_true', Bool.not_eq_false', Bool.and_eq_true, Bool.or_eq_false_iff, within_iff, within_not] at qh26
          refine WC.skip ?_
          refine ibN ?_
          refine tkN ?_
          refine hK19 _ _ ?_
          clear hK19
          refine WC.region ?_
          refine WL.val rfl rfl rfl (Run.move rfl rfl) ?_
          refine WL.val rfl rfl rfl (Run.add rfl rfl rfl ?_) ?_
          · constructor <;> omega
          refine WL.val rfl rfl rfl (Run.assign rfl rfl) ?_
          refine WL.nil ?_
          refine tkN ?_
          replace hs25 := St.drop hs25 (List.sublist_append_right [_] _)
          refine ⟨⟨rfl, rfl, rfl, rfl, rfl, rfl, rfl, rfl, rfl, trivial⟩, _, hs25, _, ?_, _, i, (j + 1), rfl, ?_, ?_, ?_, ?_, ?_, ho14, ⟨rfl, rfl, rfl, trivial⟩⟩
          · omega
          · omega
          · omega
          · first | omega | (rw [List.length_set]; omega)
          · first | (rw [set_take (by omega), p3, filter_take (F := encRect) (by omega), if_pos (by rw [← p4 j (Nat.le_refl _)]; simpa using h26), p4 j (Nat.le_refl _)]) | (rw [p3, filter_take (F := encRect) (by omega), if_neg (by rw [← p4 j (Nat.le_refl _)]; simpa using h26), List.append_nil])
          · intro k hk; first | (rw [gat_set_ne (by omega)]; exact p4 k (by omega)) | exact p4 k (by omega)
      · have qh18 := h18
        try simp only [decide_eq_true_eq, decide_eq_false_iff_not, Bool.not_eq_true', Bool.not_eq_false', Bool.and_eq_true, Bool.or_eq_false_iff, within_iff, within_not] at qh18
        refine WC.exit ?_
        refine tkE ?_
        refine tkE ?_
        refine ibE ?_
        refine tkN ?_
        refine hK9 _ _ ?_
        clear hK9
        refine WC.seq (fun K31 hK31 => ?_)
        refine WC.region ?_
        refine WL.val rfl rfl rfl (Run.move rfl rfl) ?_
        refine WL.val rfl rfl rfl (Run.move rfl rfl) ?_
        have hc_ := OwnF.cap ho14
        refine WL.val rfl rfl rfl (Run.sliceL (i) Try.runUnderlying48 Try.sizeOf40 rfl rfl rfl ?_ ?_) ?_
        · first | rfl | (omega)
        · refine ⟨?_, ?_, ?_⟩ <;> (omega)
        refine WL.clearF (lo := i) hs15 ho14 Try.underlying48 Try.zeroValue40 rfl rfl rfl rfl rfl ?_ (fun L32 whs33 hs33 ho34 _ => ?_)
        · omega
        refine WL.nil ?_
        refine tkN ?_
        refine hK31 _ _ ?_
        clear hK31
        refine WC.seq (fun K35 hK35 => ?_)
        refine WC.region ?_
        refine WL.val rfl rfl rfl (Run.move rfl rfl) ?_
        refine WL.val rfl rfl rfl (Run.move rfl rfl) ?_
        have ho36 := OwnF.take (k := i) ho34 (by omega)
        have hcho36 := OwnF.cap ho36
        refine WL.val rfl rfl rfl (Run.sliceH0 (i) Try.runUnderlying48 Try.sizeOf40 rfl rfl rfl ?_ ?_) ?_
        · first | rfl | (omega)
        · first | (exact Nat.zero_le _) | (omega)
        refine WL.val rfl rfl rfl (Run.assign rfl rfl) ?_
        refine WL.nil ?_
        refine tkN ?_
        refine hK35 _ _ ?_
        clear hK35
        refine WC.ret ?_
        refine retV1 rfl (resV.tmp rfl) ?_
        have hx_ := OwnF.eqOf (xs := s.filter (fun r : RectD => !decide (r.Pane = 0))) ho36 (by first | (rw [List.take_left' (by rw [List.length_take]; omega), p3, List.take_of_length_le (by omega)]) | (rw [List.take_append_of_le_length (by rw [List.length_take]; omega), List.take_take, Nat.min_self, p3, List.take_of_length_le (by omega)]))
        rw [← hx_]
        first | exact ⟨_, _, _, rfl, (St.keep1 hs33), ho36⟩ | exact ⟨A_s, c_s, _, by rw [OwnF.len_ ho36], (St.keep1 hs33), by rw [OwnF.len_ ho36]; exact ho36⟩
theorem c_impl_Places (A_t : Option Addr) (n_t c_t : Nat) (t : List NodeD) (w_ : Int) (h_ : Int) (w : World) (f_t : SlF encNode w A_t n_t t) (hn : n_t ≤ 268435456) :
    Calls Try.prog 39 #[.slice A_t n_t c_t, i64 w_, i64 h_] w fun e w' => ∃ A c L1, e = .returned (.tuple #[.slice A (placesL t w_ h_).length c, .bool (placesOk t w_ h_)]) ∧ St w [] L1 w' ∧ OwnF encRect 40 (.slice A (placesL t w_ h_).length c) (placesL t w_ h_) L1 := by
  have hal := areasL_len t w_ h_
  refine enter (vs := [.slice A_t n_t c_t, i64 w_, i64 h_]) 21 Try.func39 rfl Try.ntmps39 rfl rfl ?_
  have hs1 := St.init w
  refine WC.seq (fun K2 hK2 => ?_)
  refine WC.region ?_
  refine WL.val rfl rfl rfl (Run.assign rfl rfl) ?_
  refine WL.val rfl rfl rfl (Run.assign rfl rfl) ?_
  refine WL.nil ?_
  refine tkN ?_
  refine hK2 _ _ ?_
  clear hK2
  refine WC.seq (fun K3 hK3 => ?_)
  refine WC.region ?_
  refine WL.val rfl rfl rfl (Run.move rfl rfl) ?_
  refine WL.val rfl rfl rfl (Run.move rfl rfl) ?_
  refine WL.val rfl rfl rfl (Run.move rfl rfl) ?_
  refine WL.call rfl rfl rfl (Run.call Try.call74 rfl rfl rfl) (c_impl_places _ _ _ _ _ _ _ (SlF.st0 f_t hs1) ?_) ?_
  · first | assumption | rfl | omega
  rintro _ whs4 ⟨A5, c6, L17, rfl, hs4, ho8⟩
  replace hs4 := hs1.callF hs4
  refine ⟨_, rfl, ?_⟩
  refine WL.val rfl rfl rfl (Run.move rfl rfl) ?_
  refine WL.val rfl rfl rfl (Run.extract rfl rfl rfl) ?_
  refine WL.val rfl rfl rfl (Run.extract rfl rfl rfl) ?_
  refine WL.val rfl rfl rfl (Run.assign rfl rfl) ?_
  refine WL.val rfl rfl rfl (Run.assign rfl rfl) ?_
  refine WL.nil ?_
  refine tkN ?_
  refine hK3 _ _ ?_
  clear hK3
  refine WC.seq (fun K9 hK9 => ?_)
  refine WC.seq (fun K10 hK10 => ?_)
  refine WC.region ?_
  refine WL.val rfl rfl rfl (Run.move rfl rfl) ?_
  refine WL.val rfl rfl rfl (Run.not rfl rfl) ?_
  refine WL.nil ?_
  refine tkN ?_
  refine hK10 _ _ ?_
  clear hK10
  refine WC.cond rfl (fun h11 => ?_) (fun h11 => ?_)
  · have qh11 := h11
    try simp only [decide_eq_true_eq, decide_eq_false_iff_not, Bool.not_eq_true', Bool.not_eq_false', Bool.and_eq_true, Bool.or_eq_false_iff, within_iff, within_not] at qh11
    have hk : placesOk t w_ h_ = false := by simpa using h11
    refine WC.seq (fun K12 hK12 => ?_)
    refine WC.region ?_
    refine WL.val rfl rfl rfl (Run.assign rfl rfl) ?_
    refine WL.val rfl rfl rfl (Run.assign rfl rfl) ?_
    refine WL.nil ?_
    refine tkN ?_
    refine hK12 _ _ ?_
    clear hK12
    refine WC.ret ?_
    refine tkR ?_
    clear hK9
    refine retV2 rfl (resV.tmp rfl) (resV.tmp rfl) ?_
    rw [hk]
    have hx_ := OwnF.eqOf (xs := placesL t w_ h_) (OwnF.nil encRect 40) (by simp [placesL, hk])
    rw [← hx_]
    exact ⟨_, _, _, rfl, hs4.nil, (OwnF.nil encRect 40)⟩
  · have qh11 := h11
    try simp only [decide_eq_true_eq, decide_eq_false_iff_not, Bool.not_eq_true', Bool.not_eq_false', Bool.and_eq_true, Bool.or_eq_false_iff, within_iff, within_not] at qh11
    have hk : placesOk t w_ h_ = true := by simpa using h11
    have haf := areas_filter hk
    refine WC.skip ?_
    refine tkN ?_
    refine hK9 _ _ ?_
    clear hK9
    refine WC.seq (fun K13 hK13 => ?_)
    refine WC.region ?_
    refine WL.val rfl rfl rfl (Run.move rfl rfl) ?_
    refine WL.call rfl rfl rfl (Run.call Try.call75 rfl rfl rfl) (c_slices_DeleteFunc_impl_Rect_impl_Rect _ _ _ _ ho8 (fun p_ hp_ => (hs4.own p_ (List.mem_append_left _ hp_)).1) ?_) ?_
    · first | assumption | rfl | omega
    rintro _ whs14 ⟨A15, c16, L117, rfl, hs14, ho18⟩
    replace hs14 := St.lend hs4 hs14
    refine ⟨_, rfl, ?_⟩
    refine WL.val rfl rfl rfl (Run.assign rfl rfl) ?_
    refine WL.val rfl rfl rfl (Run.assign rfl rfl) ?_
    refine WL.nil ?_
    refine tkN ?_
    refine hK13 _ _ ?_
    clear hK13
    refine WC.ret ?_
    refine retV2 rfl (resV.tmp rfl) (resV.tmp rfl) ?_
    rw [hk]
    have hx_ := OwnF.eqOf (xs := placesL t w_ h_) ho18 (by rw [haf])
    rw [← hx_]
    first | exact ⟨_, _, _, rfl, (St.keep1 hs14), ho18⟩ | exact ⟨A15, c16, _, by rw [OwnF.len_ ho18], (St.keep1 hs14), by rw [OwnF.len_ ho18]; exact ho18⟩
theorem c_spec_Places (A_t : Option Addr) (n_t c_t : Nat) (t : List NodeD) (w_ : Int) (h_ : Int) (w : World) (f_t : SlF encNode w A_t n_t t) (hn : n_t ≤ 268435456) :
    Calls Try.prog 42 #[.slice A_t n_t c_t, i64 w_, i64 h_] w fun e w' => ∃ A c L1, e = .returned (.tuple #[.slice A (placesL t w_ h_).length c, .bool (placesOk t w_ h_)]) ∧ St w [] L1 w' ∧ OwnF encRect 40 (.slice A (placesL t w_ h_).length c) (placesL t w_ h_) L1 := by
  have hl := f_t.len
  refine enter (vs := [.slice A_t n_t c_t, i64 w_, i64 h_]) 40 Try.func42 rfl Try.ntmps42 rfl rfl ?_
  have hs1 := St.init w
  refine WC.seq (fun K2 hK2 => ?_)
  refine WC.region ?_
  refine WL.val rfl rfl rfl (Run.assign rfl rfl) ?_
  refine WL.val rfl rfl rfl (Run.assign rfl rfl) ?_
  refine WL.nil ?_
  refine tkN ?_
  refine hK2 _ _ ?_
  clear hK2
  refine WC.seq (fun K3 hK3 => ?_)
  refine WC.seq (fun K4 hK4 => ?_)
  refine WC.region ?_
  refine WL.val rfl rfl rfl (Run.move rfl rfl) ?_
  refine WL.call rfl rfl rfl (Run.call Try.call18 rfl rfl rfl) (c_spec_TreeOk _ _ _ _ _ (SlF.st0 f_t hs1) ?_) ?_
  · first | assumption | rfl | omega
  rintro _ whs5 ⟨rfl, hs5⟩
  replace hs5 := hs1.call0 hs5
  refine ⟨_, rfl, ?_⟩
  refine WL.val rfl rfl rfl (Run.not rfl rfl) ?_
  refine WL.val rfl rfl rfl (Run.move rfl rfl) ?_
  apply WL.meetOr 3 13 16 [(0, _), (1, _), (2, _), (6, _), (7, _)] rfl hs5
  · intro g6 J7
    have qg6 := g6
    try simp only [decide_eq_true_eq, decide_eq_false_iff_not, Bool.not_eq_true', Bool.not_eq_false'] at qg6
    refine WL.val (wantF rfl g6) rfl rfl (Run.move rfl rfl) ?_
    refine WL.val (wantF rfl g6) rfl rfl (Run.lss rfl rfl rfl) ?_
    refine WL.val rfl rfl rfl (Run.pickF rfl rfl g6 rfl) ?_
    exact WL.fin J7 hs5 rfl (orF g6) ⟨rfl, rfl, rfl, rfl, rfl, trivial⟩
  · intro g6 J7
    refine WL.skip (wantNF rfl g6) rfl rfl ?_
    refine WL.skip (wantNF rfl g6) rfl rfl ?_
    refine WL.val rfl rfl rfl (Run.pickT rfl rfl g6 rfl) ?_
    exact WL.fin J7 hs5 rfl (orT g6) ⟨rfl, rfl, rfl, rfl, rfl, trivial⟩
  · intro whs8 hs8
    refine WL.val rfl rfl rfl (Run.move rfl rfl) ?_
    apply WL.meetOr 3 17 20 [(0, _), (1, _), (2, _), (6, _), (7, _)] rfl hs8
    · intro g9 J10
      have qg9 := g9
      try simp only [decide_eq_true_eq, decide_eq_false_iff_not, Bool.not_eq_true', Bool.not_eq_false'] at qg9
      refine WL.val (wantF rfl g9) rfl rfl (Run.move rfl rfl) ?_
      refine WL.val (wantF rfl g9) rfl rfl (Run.gtr rfl rfl rfl) ?_
      refine WL.val rfl rfl rfl (Run.pickF rfl rfl g9 rfl) ?_
      exact WL.fin J10 hs8 rfl (orF g9) ⟨rfl, rfl, rfl, rfl, rfl, trivial⟩
    · intro g9 J10
      refine WL.skip (wantNF rfl g9) rfl rfl ?_
      refine WL.skip (wantNF rfl g9) rfl rfl ?_
      refine WL.val rfl rfl rfl (Run.pickT rfl rfl g9 rfl) ?_
      exact WL.fin J10 hs8 rfl (orT g9) ⟨rfl, rfl, rfl, rfl, rfl, trivial⟩
    · intro whs11 hs11
      refine WL.val rfl rfl rfl (Run.move rfl rfl) ?_
      apply WL.meetOr 3 21 24 [(0, _), (1, _), (2, _), (6, _), (7, _)] rfl hs11
      · intro g12 J13
        have qg12 := g12
        try simp only [decide_eq_true_eq, decide_eq_false_iff_not, Bool.not_eq_true', Bool.not_eq_false'] at qg12
        refine WL.val (wantF rfl g12) rfl rfl (Run.move rfl rfl) ?_
        refine WL.val (wantF rfl g12) rfl rfl (Run.lss rfl rfl rfl) ?_
        refine WL.val rfl rfl rfl (Run.pickF rfl rfl g12 rfl) ?_
        exact WL.fin J13 hs11 rfl (orF g12) ⟨rfl, rfl, rfl, rfl, rfl, trivial⟩
      · intro g12 J13
        refine WL.skip (wantNF rfl g12) rfl rfl ?_
        refine WL.skip (wantNF rfl g12) rfl rfl ?_
        refine WL.val rfl rfl rfl (Run.pickT rfl rfl g12 rfl) ?_
        exact WL.fin J13 hs11 rfl (orT g12) ⟨rfl, rfl, rfl, rfl, rfl, trivial⟩
      · intro whs14 hs14
        refine WL.val rfl rfl rfl (Run.move rfl rfl) ?_
        apply WL.meetOr 3 25 28 [(0, _), (1, _), (2, _), (6, _), (7, _)] rfl hs14
        · intro g15 J16
          have qg15 := g15
          try simp only [decide_eq_true_eq, decide_eq_false_iff_not, Bool.not_eq_true', Bool.not_eq_false'] at qg15
          refine WL.val (wantF rfl g15) rfl rfl (Run.move rfl rfl) ?_
          refine WL.val (wantF rfl g15) rfl rfl (Run.gtr rfl rfl rfl) ?_
          refine WL.val rfl rfl rfl (Run.pickF rfl rfl g15 rfl) ?_
          exact WL.fin J16 hs14 rfl (orF g15) ⟨rfl, rfl, rfl, rfl, rfl, trivial⟩
        · intro g15 J16
          refine WL.skip (wantNF rfl g15) rfl rfl ?_
          refine WL.skip (wantNF rfl g15) rfl rfl ?_
          refine WL.val rfl rfl rfl (Run.pickT rfl rfl g15 rfl) ?_
          exact WL.fin J16 hs14 rfl (orT g15) ⟨rfl, rfl, rfl, rfl, rfl, trivial⟩
        · intro whs17 hs17
          refine WL.nil ?_
          refine tkN ?_
          refine hK4 _ _ ?_
          clear hK4
          refine WC.cond rfl (fun h18 => ?_) (fun h18 => ?_)
          · have qh18 := h18
            try simp only [decide_eq_true_eq, decide_eq_false_iff_not, Bool.not_eq_true', Bool.not_eq_false', Bool.and_eq_true, Bool.or_eq_false_iff, within_iff, within_not] at qh18
            have hk : placesOk t w_ h_ = false := by
              rw [← Bool.not_eq_true]; intro h_1
              simp only [placesOk, sidesOk, Bool.and_eq_true, within_iff] at h_1
              obtain ⟨⟨⟨a1_, a2_⟩, a3_⟩, _⟩ := h_1
              simp only [a1_, Bool.not_true, Bool.false_or, Bool.or_eq_true, decide_eq_true_eq] at h18; omega
            refine WC.seq (fun K19 hK19 => ?_)
            refine WC.region ?_
            refine WL.val rfl rfl rfl (Run.assign rfl rfl) ?_
            refine WL.val rfl rfl rfl (Run.assign rfl rfl) ?_
            refine WL.nil ?_
            refine tkN ?_
            refine hK19 _ _ ?_
            clear hK19
            refine WC.ret ?_
            refine tkR ?_
            clear hK3
            refine retV2 rfl (resV.tmp rfl) (resV.tmp rfl) ?_
            rw [hk]
            have hx_ := OwnF.eqOf (xs := placesL t w_ h_) (OwnF.nil encRect 40) (by simp [placesL, hk])
            rw [← hx_]
            exact ⟨_, _, _, rfl, hs17.nil, (OwnF.nil encRect 40)⟩
          · have qh18 := h18
            try simp only [decide_eq_true_eq, decide_eq_false_iff_not, Bool.not_eq_true', Bool.not_eq_false', Bool.and_eq_true, Bool.or_eq_false_iff, within_iff, within_not] at qh18
            have hs : treeOk t = true ∧ within w_ 1 120 = true ∧ within h_ 1 120 = true := by
              simp only [Bool.or_eq_false_iff, Bool.not_eq_false', decide_eq_false_iff_not] at h18
              exact ⟨h18.1.1.1.1, within_iff.2 ⟨by omega, by omega⟩, within_iff.2 ⟨by omega, by omega⟩⟩
            have hso : sidesOk t w_ h_ = true := by simp [sidesOk, hs]
            refine WC.skip ?_
            refine tkN ?_
            refine hK3 _ _ ?_
            clear hK3
            refine WC.seq (fun K20 hK20 => ?_)
            refine WC.region ?_
            refine WL.val rfl rfl rfl (Run.move rfl rfl) ?_
            refine WL.val rfl rfl rfl (Run.move rfl rfl) ?_
            refine WL.val rfl rfl rfl (Run.move rfl rfl) ?_
            refine WL.val rfl rfl rfl (Run.build rfl rfl rfl rfl (built_40_3_4 _ _)) ?_
            refine WL.call rfl rfl rfl (Run.call Try.call79 rfl rfl rfl) (c_spec_l13Place _ _ _ _ _ 0 _ _ _ _ _ (theT t) _ (SlF.st0 f_t hs17) ?_ ?_ ?_ ?_) ?_
            · omega
            · rfl
            · exact (theT_at hs.1).1
            · exact fine0 hs.2.1 hs.2.2
            rintro _ whs21 ⟨A22, c23, L124, rfl, hs21, ho25⟩
            replace hs21 := hs17.callF hs21
            refine ⟨_, rfl, ?_⟩
            refine WL.val rfl rfl rfl (Run.move rfl rfl) ?_
            refine WL.val rfl rfl rfl (Run.extract rfl rfl rfl) ?_
            refine WL.val rfl rfl rfl (Run.extract rfl rfl rfl) ?_
            refine WL.val rfl rfl rfl (Run.assign rfl rfl) ?_
            refine WL.val rfl rfl rfl (Run.assign rfl rfl) ?_
            refine WL.nil ?_
            refine tkN ?_
            refine hK20 _ _ ?_
            clear hK20
            refine WC.seq (fun K26 hK26 => ?_)
            refine WC.seq (fun K27 hK27 => ?_)
            refine WC.region ?_
            refine WL.val rfl rfl rfl (Run.move rfl rfl) ?_
            refine WL.val rfl rfl rfl (Run.not rfl rfl) ?_
            refine WL.nil ?_
            refine tkN ?_
            refine hK27 _ _ ?_
            clear hK27
            refine WC.cond rfl (fun h28 => ?_) (fun h28 => ?_)
            · have qh28 := h28
              try simp only [decide_eq_true_eq, decide_eq_false_iff_not, Bool.not_eq_true', Bool.not_eq_false', Bool.and_eq_true, Bool.or_eq_false_iff, within_iff, within_not] at qh28
              have hk : placesOk t w_ h_ = false := by simpa [placesOk, hso] using h28
              refine WC.seq (fun K29 hK29 => ?_)
              refine WC.region ?_
              refine WL.val rfl rfl rfl (Run.assign rfl rfl) ?_
              refine WL.val rfl rfl rfl (Run.assign rfl rfl) ?_
              refine WL.nil ?_
              refine tkN ?_
              refine hK29 _ _ ?_
              clear hK29
              refine WC.ret ?_
              refine tkR ?_
              clear hK26
              refine retV2 rfl (resV.tmp rfl) (resV.tmp rfl) ?_
              rw [hk]
              have hx_ := OwnF.eqOf (xs := placesL t w_ h_) (OwnF.nil encRect 40) (by simp [placesL, hk])
              rw [← hx_]
              exact ⟨_, _, _, rfl, hs21.nil, (OwnF.nil encRect 40)⟩
            · have qh28 := h28
              try simp only [decide_eq_true_eq, decide_eq_false_iff_not, Bool.not_eq_true', Bool.not_eq_false', Bool.and_eq_true, Bool.or_eq_false_iff, within_iff, within_not] at qh28
              have hk : placesOk t w_ h_ = true := by simpa [placesOk, hso] using h28
              refine WC.skip ?_
              refine tkN ?_
              refine hK26 _ _ ?_
              clear hK26
              refine WC.seq (fun K30 hK30 => ?_)
              refine WC.region ?_
              refine WL.val rfl rfl rfl (Run.move rfl rfl) ?_
              refine WL.val rfl rfl rfl (Run.assign rfl rfl) ?_
              refine WL.val rfl rfl rfl (Run.assign rfl rfl) ?_
              refine WL.nil ?_
              refine tkN ?_
              refine hK30 _ _ ?_
              clear hK30
              refine WC.ret ?_
              refine retV2 rfl (resV.tmp rfl) (resV.tmp rfl) ?_
              rw [hk]
              have hx_ := OwnF.eqOf (xs := placesL t w_ h_) ho25 (by simp [placesL, hk])
              rw [← hx_]
              first | exact ⟨_, _, _, rfl, (St.keep1 hs21), ho25⟩ | exact ⟨A22, c23, _, by rw [OwnF.len_ ho25], (St.keep1 hs21), by rw [OwnF.len_ ho25]; exact ho25⟩
end Go.Proofs.Ytghcicggamkjgaa
