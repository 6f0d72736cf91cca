/- Walks of Go functions, printed by a program (wip/gen). -/
import Derived.Test.YtghcicggamkjgaaN8
import Derived.Test.YtghcicggamkjgaaP6
namespace Go.Proofs.Ytghcicggamkjgaa
open Go Go.RowKit
set_option linter.unusedVariables false
set_option linter.unusedSimpArgs false
theorem built_62_0_1_2 (x0 : Int) (x1 : Bool) (x2 : Int) : Try.prog.built 62 [(0, .int .i64 x0), (1, .bool x1), (2, .int .i64 x2)] = some (List.toArray [.int .i64 x0, .bool x1, .int .i64 x2]) := by kernel_rfl
theorem built_62_0 (x0 : Int) : Try.prog.built 62 [(0, .int .i64 x0)] = some (List.toArray [.int .i64 x0, .bool false, .int .i64 0]) := by kernel_rfl
theorem built_62_1_2 (x0 : Bool) (x1 : Int) : Try.prog.built 62 [(1, .bool x0), (2, .int .i64 x1)] = some (List.toArray [.int .i64 0, .bool x0, .int .i64 x1]) := by kernel_rfl
set_option maxHeartbeats 2000000 in
theorem c_impl_Split (A_t : Option Addr) (n_t c_t : Nat) (t : List NodeD) (p : Int) (fresh : Int) (down : Bool) (w_ : Int) (h_ : Int) (w : World) (f_t : SlF encNode w A_t n_t t) (hc : n_t ≤ c_t) (hn : n_t ≤ 268435456) :
    Calls Try.prog 47 #[.slice A_t n_t c_t, i64 p, i64 fresh, .bool down, i64 w_, i64 h_] w fun e w' => ∃ A c L1, e = .returned (.tuple #[.slice A (splitL t p fresh down w_ h_).length c, .bool (splitOk t p fresh down w_ h_)]) ∧ St w [] L1 w' ∧ OwnF encNode 62 (.slice A (splitL t p fresh down w_ h_).length c) (splitL t p fresh down w_ h_) L1 := by
  have hl := f_t.len
  have hbo := placeR_bound (t := t) (w := w_) (h := h_) (p := p)
  refine enter (vs := [.slice A_t n_t c_t, i64 p, i64 fresh, .bool down, i64 w_, i64 h_]) 71 Try.func47 rfl Try.ntmps47 rfl rfl ?_
  have hs1 := St.init w
  refine WC.seq (fun K2 hK2 => ?_)
  refine WC.region ?_
  refine WL.val rfl rfl rfl (Run.assign rfl rfl) ?_
  refine WL.val rfl rfl rfl (Run.assign rfl rfl) ?_
  refine WL.nil ?_
  refine tkN ?_
  refine hK2 _ _ ?_
  clear hK2
  refine WC.seq (fun K3 hK3 => ?_)
  refine WC.region ?_
  refine WL.val rfl rfl rfl (Run.move rfl rfl) ?_
  refine WL.val rfl rfl rfl (Run.move rfl rfl) ?_
  refine WL.val rfl rfl rfl (Run.move rfl rfl) ?_
  refine WL.val rfl rfl rfl (Run.move rfl rfl) ?_
  refine WL.call rfl rfl rfl (Run.call Try.call36 rfl rfl rfl) (c_impl_PlaceOf _ _ _ _ _ _ _ _ (SlF.st0 f_t hs1) ?_) ?_
  · first | assumption | rfl | omega
  rintro _ whs4 ⟨rfl, hs4⟩
  replace hs4 := hs1.call0 hs4
  refine ⟨_, rfl, ?_⟩
  refine WL.val rfl rfl rfl (Run.move rfl rfl) ?_
  refine WL.val rfl rfl rfl (Run.extract rfl rfl rfl) ?_
  refine WL.val rfl rfl rfl (Run.extract rfl rfl rfl) ?_
  refine WL.alloc hs4 Try.zeroValue40 rfl rfl rfl rfl rfl (fun b5 whs6 hs6 => ?_)
  refine WL.storeA hs6 0 Try.sizeOf40 rfl rfl rfl rfl rfl rfl rfl rfl rfl (Nat.le_of_ble_eq_true rfl) (.inl (Nat.le_of_ble_eq_true rfl)) (fun whs7 hs7 => ?_)
  refine WL.val rfl rfl rfl (Run.assign rfl rfl) ?_
  refine WL.nil ?_
  refine tkN ?_
  refine hK3 _ _ ?_
  clear hK3
  refine WC.seq (fun K8 hK8 => ?_)
  refine WC.region ?_
  refine WL.val rfl rfl rfl (Run.field Try.runUnderlying40 rfl rfl rfl Try.sizeOf3 rfl) ?_
  refine WL.val rfl rfl rfl (Run.loadL hs7 0 Try.isAgg3 rfl rfl rfl rfl) ?_
  refine WL.val rfl rfl rfl (Run.assign rfl rfl) ?_
  refine WL.nil ?_
  refine tkN ?_
  refine hK8 _ _ ?_
  clear hK8
  refine WC.seq (fun K9 hK9 => ?_)
  refine WC.seq (fun K10 hK10 => ?_)
  refine WC.region ?_
  refine WL.val rfl rfl rfl (Run.move rfl rfl) ?_
  refine WL.nil ?_
  refine tkN ?_
  refine hK10 _ _ ?_
  clear hK10
  refine WC.cond rfl (fun h11 => ?_) (fun h11 => ?_)
  · have qh11 := h11
    try simp only [decide_eq_true_eq, decide_eq_false_iff_not, Bool.not_eq_true', Bool.not_eq_false', Bool.and_eq_true, Bool.or_eq_false_iff, within_iff, within_not] at qh11
    have hd : down = true := h11
    have hle : lenR t w_ h_ p down = (placeR t w_ h_ p).H := by rw [lenR, hd]; rfl
    refine WC.region ?_
    refine WL.val rfl rfl rfl (Run.field Try.runUnderlying40 rfl rfl rfl Try.sizeOf3 rfl) ?_
    refine WL.val rfl rfl rfl (Run.loadL hs7 0 Try.isAgg3 rfl rfl rfl rfl) ?_
    refine WL.val rfl rfl rfl (Run.assign rfl rfl) ?_
    refine WL.nil ?_
    refine tkN ?_
    refine hK9 _ _ ?_
    clear hK9
    refine WC.seq (fun K12 hK12 => ?_)
    refine WC.seq (fun K13 hK13 => ?_)
    refine WC.region ?_
    refine WL.val rfl rfl rfl (Run.move rfl rfl) ?_
    refine WL.val rfl rfl rfl (Run.not rfl rfl) ?_
    refine WL.val rfl rfl rfl (Run.move rfl rfl) ?_
    apply WL.meetOr 3 34 37 [(0, _), (1, _), (2, _), (3, _), (4, _), (5, _), (12, _), (13, _), (14, _), (15, _), (16, _), (19, _), (20, _), (21, _), (22, _), (23, _), (24, _), (25, _), (26, _), (27, _), (28, _), (29, _), (30, _), (31, _)] rfl hs7
    · intro g14 J15
      have qg14 := g14
      try simp only [decide_eq_true_eq, decide_eq_false_iff_not, Bool.not_eq_true', Bool.not_eq_false'] at qg14
      refine WL.val (wantF rfl g14) rfl rfl (Run.move rfl rfl) ?_
      refine WL.val (wantF rfl g14) rfl rfl (Run.lss rfl rfl rfl) ?_
      refine WL.val rfl rfl rfl (Run.pickF rfl rfl g14 rfl) ?_
      exact WL.fin J15 hs7 rfl (orF g14) ⟨rfl, rfl, rfl, rfl, rfl, rfl, rfl, rfl, rfl, rfl, rfl, rfl, rfl, rfl, rfl, rfl, rfl, rfl, rfl, rfl, rfl, rfl, rfl, rfl, trivial⟩
    · intro g14 J15
      refine WL.skip (wantNF rfl g14) rfl rfl ?_
      refine WL.skip (wantNF rfl g14) rfl rfl ?_
      refine WL.val rfl rfl rfl (Run.pickT rfl rfl g14 rfl) ?_
      exact WL.fin J15 hs7 rfl (orT g14) ⟨rfl, rfl, rfl, rfl, rfl, rfl, rfl, rfl, rfl, rfl, rfl, rfl, rfl, rfl, rfl, rfl, rfl, rfl, rfl, rfl, rfl, rfl, rfl, rfl, trivial⟩
    · intro whs16 hs16
      refine WL.nil ?_
      refine tkN ?_
      refine hK13 _ _ ?_
      clear hK13
      refine WC.cond rfl (fun h17 => ?_) (fun h17 => ?_)
      · have qh17 := h17
        try simp only [decide_eq_true_eq, decide_eq_false_iff_not, Bool.not_eq_true', Bool.not_eq_false', Bool.and_eq_true, Bool.or_eq_false_iff, within_iff, within_not] at qh17
        have hk : splitOk t p fresh down w_ h_ = false := by
          rw [← Bool.not_eq_true]; intro h_1
          simp only [splitOk, Bool.and_eq_true, decide_eq_true_eq] at h_1
          rw [hle] at h_1
          simp only [Bool.or_eq_true, Bool.not_eq_true', decide_eq_false_iff_not, decide_eq_true_eq] at h17
          omega
        refine WC.seq (fun K18 hK18 => ?_)
        refine WC.region ?_
        refine WL.val rfl rfl rfl (Run.assign rfl rfl) ?_
        refine WL.val rfl rfl rfl (Run.assign rfl rfl) ?_
        refine WL.nil ?_
        refine tkN ?_
        refine hK18 _ _ ?_
        clear hK18
        refine WC.ret ?_
        refine tkR ?_
        clear hK12
        refine retV2 rfl (resV.tmp rfl) (resV.tmp rfl) ?_
        rw [hk]
        have hx_ := OwnF.eqOf (xs := splitL t p fresh down w_ h_) (OwnF.nil encNode 62) (by simp [splitL, hk])
        rw [← hx_]
        exact ⟨_, _, _, rfl, hs16.nil, (OwnF.nil encNode 62)⟩
      · have qh17 := h17
        try simp only [decide_eq_true_eq, decide_eq_false_iff_not, Bool.not_eq_true', Bool.not_eq_false', Bool.and_eq_true, Bool.or_eq_false_iff, within_iff, within_not] at qh17
        have hpa : 0 ≤ placeAt t w_ h_ p ∧ 3 ≤ lenR t w_ h_ p down := by
          rw [hle]; simp at h17; omega
        obtain ⟨hto, hat0⟩ := placeAt_at hpa.1
        have hlt := treeOk_len hto
        have hatl := atL_lt t p
        refine WC.skip ?_
        refine tkN ?_
        refine hK12 _ _ ?_
        clear hK12
        refine WC.seq (fun K19 hK19 => ?_)
        refine WC.region ?_
        refine WL.val rfl rfl rfl (Run.move rfl rfl) ?_
        refine WL.val rfl rfl rfl (Run.move rfl rfl) ?_
        refine WL.call rfl rfl rfl (Run.call Try.call65 rfl rfl rfl) (c_impl_leafAt _ _ _ _ _ _ (SlF.st0 f_t hs16) ?_) ?_
        · first | assumption | rfl | omega
        rintro _ whs20 ⟨rfl, hs20⟩
        replace hs20 := hs16.call0 hs20
        refine ⟨_, rfl, ?_⟩
        refine WL.val rfl rfl rfl (Run.assign rfl rfl) ?_
        refine WL.nil ?_
        refine tkN ?_
        refine hK19 _ _ ?_
        clear hK19
        refine WC.seq (fun K21 hK21 => ?_)
        refine WC.regionH2 (fun w' => St _ _ _ w') (fun w' => St _ _ _ w') mixed (St.drew hs20) (St.drew hs20) (fun whs22 hs22 => ?_)
        replace hs22 : St _ _ _ _ := hs22
        refine WH.take 0 rfl (by kernel_rfl) rfl rfl rfl hs22 (fun w_ hs_ => (Run.move rfl rfl)) ?_
        refine WH.take 1 rfl (by kernel_rfl) rfl rfl rfl hs22 (fun w_ hs_ => (Run.move rfl rfl)) ?_
        refine WH.take 2 rfl (by kernel_rfl) rfl rfl rfl hs22 (fun w_ hs_ => (Run.sliceH ((atL t p).toNat) Try.runUnderlying25 Try.sizeOf62 rfl rfl rfl ?_ ?_)) ?_
        · first | rfl | (omega)
        · refine ⟨?_, ?_, ?_⟩ <;> (omega)
        refine WH.take 3 rfl (by kernel_rfl) rfl rfl rfl hs22 (fun w_ hs_ => (Run.move rfl rfl)) ?_
        refine WH.take 4 rfl (by kernel_rfl) rfl rfl rfl hs22 (fun w_ hs_ => (Run.move rfl rfl)) ?_
        refine WH.take 5 rfl (by kernel_rfl) rfl rfl rfl hs22 (fun w_ hs_ => (Run.sub rfl rfl rfl ?_)) ?_
        · constructor <;> omega
        refine WH.take 6 rfl (by kernel_rfl) rfl rfl rfl hs22 (fun w_ hs_ => (Run.quo rfl rfl rfl ?_ ?_ ?_)) ?_
        · omega
        · omega
        · omega
        refine WH.take 7 rfl (by kernel_rfl) rfl rfl rfl hs22 (fun w_ hs_ => (Run.build rfl rfl rfl rfl (built_62_0_1_2 _ _ _))) ?_
        refine WH.take 8 rfl (by kernel_rfl) rfl rfl rfl hs22 (fun w_ hs_ => (Run.move rfl rfl)) ?_
        refine WH.take 9 rfl (by kernel_rfl) rfl rfl rfl hs22 (fun w_ hs_ => (Run.move rfl rfl)) ?_
        refine WH.take 10 rfl (by kernel_rfl) rfl rfl rfl hs22 (fun w_ hs_ => (Run.idxK ((atL t p).toNat) Try.runUnderlying25 Try.sizeOf62 rfl rfl rfl ?_ ?_ ?_)) ?_
        · exact SlF.some_ (SlF.st0 f_t (hs_ : St _ _ _ _))
        · omega
        · omega
        refine WH.take 11 rfl (by kernel_rfl) rfl rfl rfl hs22 (fun w_ hs_ => (Run.loadA Try.isAgg62 Try.sizeOf62 rfl rfl (SlF.whole (SlF.st0 f_t (hs_ : St _ _ _ _)) ?_))) ?_
        · omega
        refine WH.take 12 rfl (by kernel_rfl) rfl rfl rfl hs22 (fun w_ hs_ => (Run.move rfl rfl)) ?_
        refine WH.take 13 rfl (by kernel_rfl) rfl rfl rfl hs22 (fun w_ hs_ => (Run.build rfl rfl rfl rfl (built_62_0 _))) ?_
        refine WH.take 15 rfl (by kernel_rfl) rfl rfl rfl hs22 (fun w_ hs_ => (Run.move rfl rfl)) ?_
        refine WH.take 16 rfl (by kernel_rfl) rfl rfl rfl hs22 (fun w_ hs_ => (Run.move rfl rfl)) ?_
        refine WH.take 17 rfl (by kernel_rfl) rfl rfl rfl hs22 (fun w_ hs_ => (Run.add rfl rfl rfl ?_)) ?_
        · constructor <;> omega
        refine WH.take 18 rfl (by kernel_rfl) rfl rfl rfl hs22 (fun w_ hs_ => (Run.sliceL ((atL t p).toNat + 1) Try.runUnderlying25 Try.sizeOf62 rfl rfl rfl ?_ ?_)) ?_
        · first | rfl | (omega)
        · refine ⟨?_, ?_, ?_⟩ <;> (omega)
        refine WH.all [14] (by kernel_rfl) rfl (WHs.cons (i := 14) rfl ?_ WHs.nil)
        refine WL.buildF (F := encNode) hs22 ([⟨0, down, ((placeR t w_ h_ p).H - 1) / 2⟩, gat encNode t (atL t p).toNat, ⟨fresh, false, 0⟩]) Try.runUnderlying25 Try.sizeOf62 Try.zeroValue62 rfl rfl rfl rfl rfl rfl rfl rfl rfl rfl rfl rfl (fun A26 c27 L23 whs24 hs24 ho25 => ?_)
        replace hs24 := St.back [_] hs24
        refine WL.nil ⟨(St.drop (St.perm hs24 (L' := L23 ++ _) (perm_front (A := [_]) (List.Perm.refl _))) (List.sublist_append_right L23 _)), ?_⟩
        refine WH.all [19] (by kernel_rfl) rfl (WHs.cons (i := 19) rfl ?_ WHs.nil)
        refine WL.buildF (F := encH) hs24 ([⟨_, _, _⟩, ⟨_, _, _⟩, ⟨_, _, _⟩]) Try.runUnderlying93 Try.sizeOf25 Try.zeroValue25 rfl rfl rfl rfl rfl rfl rfl rfl rfl rfl rfl rfl (fun A31 c32 L28 whs29 hs29 ho30 => ?_)
        replace hs29 := St.back [_] hs29
        refine WL.nil ⟨(St.drop (St.perm (St.drop (St.perm hs29 (L' := L28 ++ _) (perm_front (A := [_]) (List.Perm.refl _))) (List.sublist_append_right L28 _)) (L' := L23 ++ _) (perm_front (A := [_]) (List.Perm.refl _))) (List.sublist_append_right L23 _)), ?_⟩
        refine WH.all [20] (by kernel_rfl) rfl (WHs.cons (i := 20) rfl ?_ WHs.nil)
        refine WL.call rfl rfl rfl (Run.call Try.call69 rfl rfl rfl) (c_slices_Concat_impl_Node_impl_Node _ _ _ _ [t.take (atL t p).toNat, [⟨0, down, ((placeR t w_ h_ p).H - 1) / 2⟩, gat encNode t (atL t p).toNat, ⟨fresh, false, 0⟩], t.drop ((atL t p).toNat + 1)] _ (SlF.ofOwn ho30 (fun p_ hp_ => (hs29.own p_ (List.mem_append_right [_] (List.mem_append_left _ hp_))).1)) ?_ ?_ ?_ ?_) ?_
        · intro i hi; rcases i with _ | _ | _ | i
          · exact (SlF.cutH ((atL t p).toNat) (SlF.st0 f_t hs29) (by refine ⟨?_, ?_, ?_⟩ <;> (omega)))
          · exact (SlF.ofOwn ho25 (fun p_ hp_ => (hs29.own p_ (List.mem_append_right [_] (List.mem_append_right _ (List.mem_append_left _ hp_)))).1))
          · exact (SlF.cutL ((atL t p).toNat + 1) (SlF.st0 f_t hs29) (by refine ⟨?_, ?_, ?_⟩ <;> (omega)))
          · simp at hi; omega
        · rfl
        · simp; omega
        · simp
        rintro _ whs33 ⟨A34, c35, L136, rfl, hs33, ho37⟩
        replace hs33 := hs29.callF hs33
        refine ⟨_, rfl, ?_⟩
        replace hs33 := St.back [_] hs33
        refine WL.nil ⟨(St.drop (St.perm (St.drop (St.perm (St.drop (St.perm hs33 (L' := L136 ++ _) (perm_front (A := [_]) (List.Perm.refl _))) (List.sublist_append_right L136 _)) (L' := L28 ++ _) (perm_front (A := [_]) (List.Perm.refl _))) (List.sublist_append_right L28 _)) (L' := L23 ++ _) (perm_front (A := [_]) (List.Perm.refl _))) (List.sublist_append_right L23 _)), ?_⟩
        refine WH.take 21 rfl (by kernel_rfl) rfl rfl rfl (St.drop (St.perm (St.drop (St.perm (St.drop (St.perm hs33 (L' := L136 ++ _) (perm_front (A := [_]) (List.Perm.refl _))) (List.sublist_append_right L136 _)) (L' := L28 ++ _) (perm_front (A := [_]) (List.Perm.refl _))) (List.sublist_append_right L28 _)) (L' := L23 ++ _) (perm_front (A := [_]) (List.Perm.refl _))) (List.sublist_append_right L23 _)) (fun w_ hs_ => (Run.assign rfl rfl)) ?_
        refine WH.done (by kernel_rfl) ?_
        refine tkN ?_
        refine hK21 _ _ ?_
        clear hK21
        refine WC.seq (fun K38 hK38 => ?_)
        refine WC.seq (fun K39 hK39 => ?_)
        refine WC.region ?_
        refine WL.val rfl rfl rfl (Run.move rfl rfl) ?_
        refine WL.call rfl rfl rfl (Run.call Try.call80 rfl rfl rfl) (c_impl_isId _ _) ?_
        rintro _ whs40 ⟨rfl, hs40⟩
        replace hs40 := hs33.call0 hs40
        refine ⟨_, rfl, ?_⟩
        refine WL.val rfl rfl rfl (Run.not rfl rfl) ?_
        refine WL.val rfl rfl rfl (Run.move rfl rfl) ?_
        apply WL.meetOr 4 65 69 [(0, _), (1, _), (2, _), (3, _), (4, _), (5, _), (12, _), (13, _), (14, _), (15, _), (16, _), (17, _), (18, _), (19, _), (20, _), (21, _), (22, _), (23, _), (24, _), (25, _), (26, _), (27, _), (28, _), (29, _), (30, _), (31, _), (37, _), (38, _), (39, _), (40, _), (41, _), (42, _), (43, _), (44, _), (45, _), (46, _), (47, _), (48, _), (49, _), (50, _), (51, _), (52, _), (53, _), (54, _), (55, _), (56, _), (57, _), (58, _), (59, _), (60, _), (61, _)] rfl hs40
        · intro g41 J42
          have qg41 := g41
          try simp only [decide_eq_true_eq, decide_eq_false_iff_not, Bool.not_eq_true', Bool.not_eq_false'] at qg41
          refine WL.val (wantF rfl g41) rfl rfl (Run.move rfl rfl) ?_
          refine WL.call (wantF rfl g41) rfl rfl (Run.call Try.call20 rfl rfl rfl) (c_impl_TreeOk _ _ _ _ _ (SlF.ofOwn ho37 (fun p_ hp_ => (hs40.own p_ (List.mem_append_right [_] (List.mem_append_left _ hp_))).1)) ?_) ?_
          · simp; omega
          rintro _ whs43 ⟨rfl, hs43⟩
          replace hs43 := hs40.call0 hs43
          refine ⟨_, rfl, ?_⟩
          refine WL.val (wantF rfl g41) rfl rfl (Run.not rfl rfl) ?_
          refine WL.val rfl rfl rfl (Run.pickF rfl rfl g41 rfl) ?_
          exact WL.fin J42 hs43 rfl (orF g41) ⟨rfl, rfl, rfl, rfl, rfl, rfl, rfl, rfl, rfl, rfl, rfl, rfl, rfl, rfl, rfl, rfl, rfl, rfl, rfl, rfl, rfl, rfl, rfl, rfl, rfl, rfl, rfl, rfl, rfl, rfl, rfl, rfl, rfl, rfl, rfl, rfl, rfl, rfl, rfl, rfl, rfl, rfl, rfl, rfl, rfl, rfl, rfl, rfl, rfl, rfl, rfl, trivial⟩
        · intro g41 J42
          refine WL.skip (wantNF rfl g41) rfl rfl ?_
          refine WL.skip (wantNF rfl g41) rfl rfl ?_
          refine WL.skip (wantNF rfl g41) rfl rfl ?_
          refine WL.val rfl rfl rfl (Run.pickT rfl rfl g41 rfl) ?_
          exact WL.fin J42 hs40 rfl (orT g41) ⟨rfl, rfl, rfl, rfl, rfl, rfl, rfl, rfl, rfl, rfl, rfl, rfl, rfl, rfl, rfl, rfl, rfl, rfl, rfl, rfl, rfl, rfl, rfl, rfl, rfl, rfl, rfl, rfl, rfl, rfl, rfl, rfl, rfl, rfl, rfl, rfl, rfl, rfl, rfl, rfl, rfl, rfl, rfl, rfl, rfl, rfl, rfl, rfl, rfl, rfl, rfl, trivial⟩
        · intro whs44 hs44
          refine WL.nil ?_
          refine tkN ?_
          refine hK39 _ _ ?_
          clear hK39
          refine WC.cond rfl (fun h45 => ?_) (fun h45 => ?_)
          · have qh45 := h45
            try simp only [decide_eq_true_eq, decide_eq_false_iff_not, Bool.not_eq_true', Bool.not_eq_false', Bool.and_eq_true, Bool.or_eq_false_iff, within_iff, within_not] at qh45
            have hxs : ([t.take (atL t p).toNat, [⟨0, down, ((placeR t w_ h_ p).H - 1) / 2⟩, gat encNode t (atL t p).toNat, ⟨fresh, false, 0⟩], t.drop ((atL t p).toNat + 1)] : List (List NodeD)).flatten = splitOut t p fresh down w_ h_ := by simp [splitOut, hle]
            have hk : splitOk t p fresh down w_ h_ = false := by
              rw [← Bool.not_eq_true]; intro h_1
              simp only [splitOk, Bool.and_eq_true, decide_eq_true_eq] at h_1
              have h_2 := h_1.2
              have h_3 := split_fresh h_2
              rw [← hxs] at h_2
              rw [h_2] at h45
              simp [h_3] at h45
            refine WC.seq (fun K46 hK46 => ?_)
            refine WC.region ?_
            refine WL.val rfl rfl rfl (Run.assign rfl rfl) ?_
            refine WL.val rfl rfl rfl (Run.assign rfl rfl) ?_
            refine WL.nil ?_
            refine tkN ?_
            refine hK46 _ _ ?_
            clear hK46
            refine WC.ret ?_
            refine tkR ?_
            clear hK38
            refine retV2 rfl (resV.tmp rfl) (resV.tmp rfl) ?_
            rw [hk]
            have hx_ := OwnF.eqOf (xs := splitL t p fresh down w_ h_) (OwnF.nil encNode 62) (by simp [splitL, hk])
            rw [← hx_]
            exact ⟨_, _, _, rfl, hs44.nil, (OwnF.nil encNode 62)⟩
          · have qh45 := h45
            try simp only [decide_eq_true_eq, decide_eq_false_iff_not, Bool.not_eq_true', Bool.not_eq_false', Bool.and_eq_true, Bool.or_eq_false_iff, within_iff, within_not] at qh45
            have hxs : ([t.take (atL t p).toNat, [⟨0, down, ((placeR t w_ h_ p).H - 1) / 2⟩, gat encNode t (atL t p).toNat, ⟨fresh, false, 0⟩], t.drop ((atL t p).toNat + 1)] : List (List NodeD)).flatten = splitOut t p fresh down w_ h_ := by simp [splitOut, hle]
            have hk : splitOk t p fresh down w_ h_ = true := by
              have h_2 : treeOk (splitOut t p fresh down w_ h_) = true := by
                rw [← hxs]
                simp only [Bool.or_eq_false_iff, Bool.not_eq_false'] at h45
                first | exact h45.2 | exact h45.1
              simp only [splitOk, hpa.1, hpa.2, h_2, decide_true, Bool.and_self]
            refine WC.skip ?_
            refine tkN ?_
            refine hK38 _ _ ?_
            clear hK38
            refine WC.seq (fun K47 hK47 => ?_)
            refine WC.region ?_
            refine WL.val rfl rfl rfl (Run.move rfl rfl) ?_
            refine WL.val rfl rfl rfl (Run.assign rfl rfl) ?_
            refine WL.val rfl rfl rfl (Run.assign rfl rfl) ?_
            refine WL.nil ?_
            refine tkN ?_
            refine hK47 _ _ ?_
            clear hK47
            refine WC.ret ?_
            refine retV2 rfl (resV.tmp rfl) (resV.tmp rfl) ?_
            rw [hk]
            have hx_ := OwnF.eqOf (xs := splitL t p fresh down w_ h_) ho37 (by rw [hxs, splitL, if_pos hk])
            rw [← hx_]
            first | exact ⟨_, _, _, rfl, (St.keep1 (St.perm hs44 (L' := L136 ++ _) (perm_front (A := [_]) (List.Perm.refl _)))), ho37⟩ | exact ⟨A34, c35, _, by rw [OwnF.len_ ho37], (St.keep1 (St.perm hs44 (L' := L136 ++ _) (perm_front (A := [_]) (List.Perm.refl _)))), by rw [OwnF.len_ ho37]; exact ho37⟩
  · have qh11 := h11
    try simp only [decide_eq_true_eq, decide_eq_false_iff_not, Bool.not_eq_true', Bool.not_eq_false', Bool.and_eq_true, Bool.or_eq_false_iff, within_iff, within_not] at qh11
    have hd : down = false := h11
    have hle : lenR t w_ h_ p down = (placeR t w_ h_ p).W := by rw [lenR, hd]; rfl
    refine WC.skip ?_
    refine tkN ?_
    refine hK9 _ _ ?_
    clear hK9
    refine WC.seq (fun K48 hK48 => ?_)
    refine WC.seq (fun K49 hK49 => ?_)
    refine WC.region ?_
    refine WL.val rfl rfl rfl (Run.move rfl rfl) ?_
    refine WL.val rfl rfl rfl (Run.not rfl rfl) ?_
    refine WL.val rfl rfl rfl (Run.move rfl rfl) ?_
    apply WL.meetOr 3 34 37 [(0, _), (1, _), (2, _), (3, _), (4, _), (5, _), (12, _), (13, _), (14, _), (15, _), (16, _), (19, _), (20, _), (21, _), (22, _), (23, _), (24, _), (25, _), (26, _), (27, _), (28, _), (29, _)] rfl hs7
    · intro g50 J51
      have qg50 := g50
      try simp only [decide_eq_true_eq, decide_eq_false_iff_not, Bool.not_eq_true', Bool.not_eq_false'] at qg50
      refine WL.val (wantF rfl g50) rfl rfl (Run.move rfl rfl) ?_
      refine WL.val (wantF rfl g50) rfl rfl (Run.lss rfl rfl rfl) ?_
      refine WL.val rfl rfl rfl (Run.pickF rfl rfl g50 rfl) ?_
      exact WL.fin J51 hs7 rfl (orF g50) ⟨rfl, rfl, rfl, rfl, rfl, rfl, rfl, rfl, rfl, rfl, rfl, rfl, rfl, rfl, rfl, rfl, rfl, rfl, rfl, rfl, rfl, rfl, trivial⟩
    · intro g50 J51
      refine WL.skip (wantNF rfl g50) rfl rfl ?_
      refine WL.skip (wantNF rfl g50) rfl rfl ?_
      refine WL.val rfl rfl rfl (Run.pickT rfl rfl g50 rfl) ?_
      exact WL.fin J51 hs7 rfl (orT g50) ⟨rfl, rfl, rfl, rfl, rfl, rfl, rfl, rfl, rfl, rfl, rfl, rfl, rfl, rfl, rfl, rfl, rfl, rfl, rfl, rfl, rfl, rfl, trivial⟩
    · intro whs52 hs52
      refine WL.nil ?_
      refine tkN ?_
      refine hK49 _ _ ?_
      clear hK49
      refine WC.cond rfl (fun h53 => ?_) (fun h53 => ?_)
      · have qh53 := h53
        try simp only [decide_eq_true_eq, decide_eq_false_iff_not, Bool.not_eq_true', Bool.not_eq_false', Bool.and_eq_true, Bool.or_eq_false_iff, within_iff, within_not] at qh53
        have hk : splitOk t p fresh down w_ h_ = false := by
          rw [← Bool.not_eq_true]; intro h_1
          simp only [splitOk, Bool.and_eq_true, decide_eq_true_eq] at h_1
          rw [hle] at h_1
          simp only [Bool.or_eq_true, Bool.not_eq_true', decide_eq_false_iff_not, decide_eq_true_eq] at h53
          omega
        refine WC.seq (fun K54 hK54 => ?_)
        refine WC.region ?_
        refine WL.val rfl rfl rfl (Run.assign rfl rfl) ?_
        refine WL.val rfl rfl rfl (Run.assign rfl rfl) ?_
        refine WL.nil ?_
        refine tkN ?_
        refine hK54 _ _ ?_
        clear hK54
        refine WC.ret ?_
        refine tkR ?_
        clear hK48
        refine retV2 rfl (resV.tmp rfl) (resV.tmp rfl) ?_
        rw [hk]
        have hx_ := OwnF.eqOf (xs := splitL t p fresh down w_ h_) (OwnF.nil encNode 62) (by simp [splitL, hk])
        rw [← hx_]
        exact ⟨_, _, _, rfl, hs52.nil, (OwnF.nil encNode 62)⟩
      · have qh53 := h53
        try simp only [decide_eq_true_eq, decide_eq_false_iff_not, Bool.not_eq_true', Bool.not_eq_false', Bool.and_eq_true, Bool.or_eq_false_iff, within_iff, within_not] at qh53
        have hpa : 0 ≤ placeAt t w_ h_ p ∧ 3 ≤ lenR t w_ h_ p down := by
          rw [hle]; simp at h53; omega
        obtain ⟨hto, hat0⟩ := placeAt_at hpa.1
        have hlt := treeOk_len hto
        have hatl := atL_lt t p
        refine WC.skip ?_
        refine tkN ?_
        refine hK48 _ _ ?_
        clear hK48
        refine WC.seq (fun K55 hK55 => ?_)
        refine WC.region ?_
        refine WL.val rfl rfl rfl (Run.move rfl rfl) ?_
        refine WL.val rfl rfl rfl (Run.move rfl rfl) ?_
        refine WL.call rfl rfl rfl (Run.call Try.call65 rfl rfl rfl) (c_impl_leafAt _ _ _ _ _ _ (SlF.st0 f_t hs52) ?_) ?_
        · first | assumption | rfl | omega
        rintro _ whs56 ⟨rfl, hs56⟩
        replace hs56 := hs52.call0 hs56
        refine ⟨_, rfl, ?_⟩
        refine WL.val rfl rfl rfl (Run.assign rfl rfl) ?_
        refine WL.nil ?_
        refine tkN ?_
        refine hK55 _ _ ?_
        clear hK55
        refine WC.seq (fun K57 hK57 => ?_)
        refine WC.regionH2 (fun w' => St _ _ _ w') (fun w' => St _ _ _ w') mixed (St.drew hs56) (St.drew hs56) (fun whs58 hs58 => ?_)
        replace hs58 : St _ _ _ _ := hs58
        refine WH.take 0 rfl (by kernel_rfl) rfl rfl rfl hs58 (fun w_ hs_ => (Run.move rfl rfl)) ?_
        refine WH.take 1 rfl (by kernel_rfl) rfl rfl rfl hs58 (fun w_ hs_ => (Run.move rfl rfl)) ?_
        refine WH.take 2 rfl (by kernel_rfl) rfl rfl rfl hs58 (fun w_ hs_ => (Run.sliceH ((atL t p).toNat) Try.runUnderlying25 Try.sizeOf62 rfl rfl rfl ?_ ?_)) ?_
        · first | rfl | (omega)
        · refine ⟨?_, ?_, ?_⟩ <;> (omega)
        refine WH.take 3 rfl (by kernel_rfl) rfl rfl rfl hs58 (fun w_ hs_ => (Run.move rfl rfl)) ?_
        refine WH.take 4 rfl (by kernel_rfl) rfl rfl rfl hs58 (fun w_ hs_ => (Run.move rfl rfl)) ?_
        refine WH.take 5 rfl (by kernel_rfl) rfl rfl rfl hs58 (fun w_ hs_ => (Run.sub rfl rfl rfl ?_)) ?_
        · constructor <;> omega
        refine WH.take 6 rfl (by kernel_rfl) rfl rfl rfl hs58 (fun w_ hs_ => (Run.quo rfl rfl rfl ?_ ?_ ?_)) ?_
        · omega
        · omega
        · omega
        refine WH.take 7 rfl (by kernel_rfl) rfl rfl rfl hs58 (fun w_ hs_ => (Run.build rfl rfl rfl rfl (built_62_0_1_2 _ _ _))) ?_
        refine WH.take 8 rfl (by kernel_rfl) rfl rfl rfl hs58 (fun w_ hs_ => (Run.move rfl rfl)) ?_
        refine WH.take 9 rfl (by kernel_rfl) rfl rfl rfl hs58 (fun w_ hs_ => (Run.move rfl rfl)) ?_
        refine WH.take 10 rfl (by kernel_rfl) rfl rfl rfl hs58 (fun w_ hs_ => (Run.idxK ((atL t p).toNat) Try.runUnderlying25 Try.sizeOf62 rfl rfl rfl ?_ ?_ ?_)) ?_
        · exact SlF.some_ (SlF.st0 f_t (hs_ : St _ _ _ _))
        · omega
        · omega
        refine WH.take 11 rfl (by kernel_rfl) rfl rfl rfl hs58 (fun w_ hs_ => (Run.loadA Try.isAgg62 Try.sizeOf62 rfl rfl (SlF.whole (SlF.st0 f_t (hs_ : St _ _ _ _)) ?_))) ?_
        · omega
        refine WH.take 12 rfl (by kernel_rfl) rfl rfl rfl hs58 (fun w_ hs_ => (Run.move rfl rfl)) ?_
        refine WH.take 13 rfl (by kernel_rfl) rfl rfl rfl hs58 (fun w_ hs_ => (Run.build rfl rfl rfl rfl (built_62_0 _))) ?_
        refine WH.take 15 rfl (by kernel_rfl) rfl rfl rfl hs58 (fun w_ hs_ => (Run.move rfl rfl)) ?_
        refine WH.take 16 rfl (by kernel_rfl) rfl rfl rfl hs58 (fun w_ hs_ => (Run.move rfl rfl)) ?_
        refine WH.take 17 rfl (by kernel_rfl) rfl rfl rfl hs58 (fun w_ hs_ => (Run.add rfl rfl rfl ?_)) ?_
        · constructor <;> omega
        refine WH.take 18 rfl (by kernel_rfl) rfl rfl rfl hs58 (fun w_ hs_ => (Run.sliceL ((atL t p).toNat + 1) Try.runUnderlying25 Try.sizeOf62 rfl rfl rfl ?_ ?_)) ?_
        · first | rfl | (omega)
        · refine ⟨?_, ?_, ?_⟩ <;> (omega)
        refine WH.all [14] (by kernel_rfl) rfl (WHs.cons (i := 14) rfl ?_ WHs.nil)
        refine WL.buildF (F := encNode) hs58 ([⟨0, down, ((placeR t w_ h_ p).W - 1) / 2⟩, gat encNode t (atL t p).toNat, ⟨fresh, false, 0⟩]) Try.runUnderlying25 Try.sizeOf62 Try.zeroValue62 rfl rfl rfl rfl rfl rfl rfl rfl rfl rfl rfl rfl (fun A62 c63 L59 whs60 hs60 ho61 => ?_)
        replace hs60 := St.back [_] hs60
        refine WL.nil ⟨(St.drop (St.perm hs60 (L' := L59 ++ _) (perm_front (A := [_]) (List.Perm.refl _))) (List.sublist_append_right L59 _)), ?_⟩
        refine WH.all [19] (by kernel_rfl) rfl (WHs.cons (i := 19) rfl ?_ WHs.nil)
        refine WL.buildF (F := encH) hs60 ([⟨_, _, _⟩, ⟨_, _, _⟩, ⟨_, _, _⟩]) Try.runUnderlying93 Try.sizeOf25 Try.zeroValue25 rfl rfl rfl rfl rfl rfl rfl rfl rfl rfl rfl rfl (fun A67 c68 L64 whs65 hs65 ho66 => ?_)
        replace hs65 := St.back [_] hs65
        refine WL.nil ⟨(St.drop (St.perm (St.drop (St.perm hs65 (L' := L64 ++ _) (perm_front (A := [_]) (List.Perm.refl _))) (List.sublist_append_right L64 _)) (L' := L59 ++ _) (perm_front (A := [_]) (List.Perm.refl _))) (List.sublist_append_right L59 _)), ?_⟩
        refine WH.all [20] (by kernel_rfl) rfl (WHs.cons (i := 20) rfl ?_ WHs.nil)
        refine WL.call rfl rfl rfl (Run.call Try.call69 rfl rfl rfl) (c_slices_Concat_impl_Node_impl_Node _ _ _ _ [t.take (atL t p).toNat, [⟨0, down, ((placeR t w_ h_ p).W - 1) / 2⟩, gat encNode t (atL t p).toNat, ⟨fresh, false, 0⟩], t.drop ((atL t p).toNat + 1)] _ (SlF.ofOwn ho66 (fun p_ hp_ => (hs65.own p_ (List.mem_append_right [_] (List.mem_append_left _ hp_))).1)) ?_ ?_ ?_ ?_) ?_
        · intro i hi; rcases i with _ | _ | _ | i
          · exact (SlF.cutH ((atL t p).toNat) (SlF.st0 f_t hs65) (by refine ⟨?_, ?_, ?_⟩ <;> (omega)))
          · exact (SlF.ofOwn ho61 (fun p_ hp_ => (hs65.own p_ (List.mem_append_right [_] (List.mem_append_right _ (List.mem_append_left _ hp_)))).1))
          · exact (SlF.cutL ((atL t p).toNat + 1) (SlF.st0 f_t hs65) (by refine ⟨?_, ?_, ?_⟩ <;> (omega)))
          · simp at hi; omega
        · rfl
        · simp; omega
        · simp
        rintro _ whs69 ⟨A70, c71, L172, rfl, hs69, ho73⟩
        replace hs69 := hs65.callF hs69
        refine ⟨_, rfl, ?_⟩
        replace hs69 := St.back [_] hs69
        refine WL.nil ⟨(St.drop (St.perm (St.drop (St.perm (St.drop (St.perm hs69 (L' := L172 ++ _) (perm_front (A := [_]) (List.Perm.refl _))) (List.sublist_append_right L172 _)) (L' := L64 ++ _) (perm_front (A := [_]) (List.Perm.refl _))) (List.sublist_append_right L64 _)) (L' := L59 ++ _) (perm_front (A := [_]) (List.Perm.refl _))) (List.sublist_append_right L59 _)), ?_⟩
        refine WH.take 21 rfl (by kernel_rfl) rfl rfl rfl (St.drop (St.perm (St.drop (St.perm (St.drop (St.perm hs69 (L' := L172 ++ _) (perm_front (A := [_]) (List.Perm.refl _))) (List.sublist_append_right L172 _)) (L' := L64 ++ _) (perm_front (A := [_]) (List.Perm.refl _))) (List.sublist_append_right L64 _)) (L' := L59 ++ _) (perm_front (A := [_]) (List.Perm.refl _))) (List.sublist_append_right L59 _)) (fun w_ hs_ => (Run.assign rfl rfl)) ?_
        refine WH.done (by kernel_rfl) ?_
        refine tkN ?_
        refine hK57 _ _ ?_
        clear hK57
        refine WC.seq (fun K74 hK74 => ?_)
        refine WC.seq (fun K75 hK75 => ?_)
        refine WC.region ?_
        refine WL.val rfl rfl rfl (Run.move rfl rfl) ?_
        refine WL.call rfl rfl rfl (Run.call Try.call80 rfl rfl rfl) (c_impl_isId _ _) ?_
        rintro _ whs76 ⟨rfl, hs76⟩
        replace hs76 := hs69.call0 hs76
        refine ⟨_, rfl, ?_⟩
        refine WL.val rfl rfl rfl (Run.not rfl rfl) ?_
        refine WL.val rfl rfl rfl (Run.move rfl rfl) ?_
        apply WL.meetOr 4 65 69 [(0, _), (1, _), (2, _), (3, _), (4, _), (5, _), (12, _), (13, _), (14, _), (15, _), (16, _), (17, _), (18, _), (19, _), (20, _), (21, _), (22, _), (23, _), (24, _), (25, _), (26, _), (27, _), (28, _), (29, _), (37, _), (38, _), (39, _), (40, _), (41, _), (42, _), (43, _), (44, _), (45, _), (46, _), (47, _), (48, _), (49, _), (50, _), (51, _), (52, _), (53, _), (54, _), (55, _), (56, _), (57, _), (58, _), (59, _), (60, _), (61, _)] rfl hs76
        · intro g77 J78
          have qg77 := g77
          try simp only [decide_eq_true_eq, decide_eq_false_iff_not, Bool.not_eq_true', Bool.not_eq_false'] at qg77
          refine WL.val (wantF rfl g77) rfl rfl (Run.move rfl rfl) ?_
          refine WL.call (wantF rfl g77) rfl rfl (Run.call Try.call20 rfl rfl rfl) (c_impl_TreeOk _ _ _ _ _ (SlF.ofOwn ho73 (fun p_ hp_ => (hs76.own p_ (List.mem_append_right [_] (List.mem_append_left _ hp_))).1)) ?_) ?_
          · simp; omega
          rintro _ whs79 ⟨rfl, hs79⟩
          replace hs79 := hs76.call0 hs79
          refine ⟨_, rfl, ?_⟩
          refine WL.val (wantF rfl g77) rfl rfl (Run.not rfl rfl) ?_
          refine WL.val rfl rfl rfl (Run.pickF rfl rfl g77 rfl) ?_
          exact WL.fin J78 hs79 rfl (orF g77) ⟨rfl, rfl, rfl, rfl, rfl, rfl, rfl, rfl, rfl, rfl, rfl, rfl, rfl, rfl, rfl, rfl, rfl, rfl, rfl, rfl, rfl, rfl, rfl, rfl, rfl, rfl, rfl, rfl, rfl, rfl, rfl, rfl, rfl, rfl, rfl, rfl, rfl, rfl, rfl, rfl, rfl, rfl, rfl, rfl, rfl, rfl, rfl, rfl, rfl, trivial⟩
        · intro g77 J78
          refine WL.skip (wantNF rfl g77) rfl rfl ?_
          refine WL.skip (wantNF rfl g77) rfl rfl ?_
          refine WL.skip (wantNF rfl g77) rfl rfl ?_
          refine WL.val rfl rfl rfl (Run.pickT rfl rfl g77 rfl) ?_
          exact WL.fin J78 hs76 rfl (orT g77) ⟨rfl, rfl, rfl, rfl, rfl, rfl, rfl, rfl, rfl, rfl, rfl, rfl, rfl, rfl, rfl, rfl, rfl, rfl, rfl, rfl, rfl, rfl, rfl, rfl, rfl, rfl, rfl, rfl, rfl, rfl, rfl, rfl, rfl, rfl, rfl, rfl, rfl, rfl, rfl, rfl, rfl, rfl, rfl, rfl, rfl, rfl, rfl, rfl, rfl, trivial⟩
        · intro whs80 hs80
          refine WL.nil ?_
          refine tkN ?_
          refine hK75 _ _ ?_
          clear hK75
          refine WC.cond rfl (fun h81 => ?_) (fun h81 => ?_)
          · have qh81 := h81
            try simp only [decide_eq_true_eq, decide_eq_false_iff_not, Bool.not_eq_true', Bool.not_eq_false', Bool.and_eq_true, Bool.or_eq_false_iff, within_iff, within_not] at qh81
            have hxs : ([t.take (atL t p).toNat, [⟨0, down, ((placeR t w_ h_ p).W - 1) / 2⟩, gat encNode t (atL t p).toNat, ⟨fresh, false, 0⟩], t.drop ((atL t p).toNat + 1)] : List (List NodeD)).flatten = splitOut t p fresh down w_ h_ := by simp [splitOut, hle]
            have hk : splitOk t p fresh down w_ h_ = false := by
              rw [← Bool.not_eq_true]; intro h_1
              simp only [splitOk, Bool.and_eq_true, decide_eq_true_eq] at h_1
              have h_2 := h_1.2
              have h_3 := split_fresh h_2
              rw [← hxs] at h_2
              rw [h_2] at h81
              simp [h_3] at h81
            refine WC.seq (fun K82 hK82 => ?_)
            refine WC.region ?_
            refine WL.val rfl rfl rfl (Run.assign rfl rfl) ?_
            refine WL.val rfl rfl rfl (Run.assign rfl rfl) ?_
            refine WL.nil ?_
            refine tkN ?_
            refine hK82 _ _ ?_
            clear hK82
            refine WC.ret ?_
            refine tkR ?_
            clear hK74
            refine retV2 rfl (resV.tmp rfl) (resV.tmp rfl) ?_
            rw [hk]
            have hx_ := OwnF.eqOf (xs := splitL t p fresh down w_ h_) (OwnF.nil encNode 62) (by simp [splitL, hk])
            rw [← hx_]
            exact ⟨_, _, _, rfl, hs80.nil, (OwnF.nil encNode 62)⟩
          · have qh81 := h81
            try simp only [decide_eq_true_eq, decide_eq_false_iff_not, Bool.not_eq_true', Bool.not_eq_false', Bool.and_eq_true, Bool.or_eq_false_iff, within_iff, within_not] at qh81
            have hxs : ([t.take (atL t p).toNat, [⟨0, down, ((placeR t w_ h_ p).W - 1) / 2⟩, gat encNode t (atL t p).toNat, ⟨fresh, false, 0⟩], t.drop ((atL t p).toNat + 1)] : List (List NodeD)).flatten = splitOut t p fresh down w_ h_ := by simp [splitOut, hle]
            have hk : splitOk t p fresh down w_ h_ = true := by
              have h_2 : treeOk (splitOut t p fresh down w_ h_) = true := by
                rw [← hxs]
                simp only [Bool.or_eq_false_iff, Bool.not_eq_false'] at h81
                first | exact h81.2 | exact h81.1
              simp only [splitOk, hpa.1, hpa.2, h_2, decide_true, Bool.and_self]
            refine WC.skip ?_
            refine tkN ?_
            refine hK74 _ _ ?_
            clear hK74
            refine WC.seq (fun K83 hK83 => ?_)
            refine WC.region ?_
            refine WL.val rfl rfl rfl (Run.move rfl rfl) ?_
            refine WL.val rfl rfl rfl (Run.assign rfl rfl) ?_
            refine WL.val rfl rfl rfl (Run.assign rfl rfl) ?_
            refine WL.nil ?_
            refine tkN ?_
            refine hK83 _ _ ?_
            clear hK83
            refine WC.ret ?_
            refine retV2 rfl (resV.tmp rfl) (resV.tmp rfl) ?_
            rw [hk]
            have hx_ := OwnF.eqOf (xs := splitL t p fresh down w_ h_) ho73 (by rw [hxs, splitL, if_pos hk])
            rw [← hx_]
            first | exact ⟨_, _, _, rfl, (St.keep1 (St.perm hs80 (L' := L172 ++ _) (perm_front (A := [_]) (List.Perm.refl _)))), ho73⟩ | exact ⟨A70, c71, _, by rw [OwnF.len_ ho73], (St.keep1 (St.perm hs80 (L' := L172 ++ _) (perm_front (A := [_]) (List.Perm.refl _)))), by rw [OwnF.len_ ho73]; exact ho73⟩
set_option maxHeartbeats 2000000 in
theorem c_spec_Split (A_t : Option Addr) (n_t c_t : Nat) (t : List NodeD) (p : Int) (fresh : Int) (down : Bool) (w_ : Int) (h_ : Int) (w : World) (f_t : SlF encNode w A_t n_t t) (hc : n_t ≤ c_t) (hn : n_t ≤ 268435456) :
    Calls Try.prog 46 #[.slice A_t n_t c_t, i64 p, i64 fresh, .bool down, i64 w_, i64 h_] w fun e w' => ∃ A c L1, e = .returned (.tuple #[.slice A (splitL t p fresh down w_ h_).length c, .bool (splitOk t p fresh down w_ h_)]) ∧ St w [] L1 w' ∧ OwnF encNode 62 (.slice A (splitL t p fresh down w_ h_).length c) (splitL t p fresh down w_ h_) L1 := by
  have hl := f_t.len
  have hbo := placeR_bound (t := t) (w := w_) (h := h_) (p := p)
  refine enter (vs := [.slice A_t n_t c_t, i64 p, i64 fresh, .bool down, i64 w_, i64 h_]) 73 Try.func46 rfl Try.ntmps46 rfl rfl ?_
  have hs1 := St.init w
  refine WC.seq (fun K2 hK2 => ?_)
  refine WC.region ?_
  refine WL.val rfl rfl rfl (Run.assign rfl rfl) ?_
  refine WL.val rfl rfl rfl (Run.assign rfl rfl) ?_
  refine WL.nil ?_
  refine tkN ?_
  refine hK2 _ _ ?_
  clear hK2
  refine WC.seq (fun K3 hK3 => ?_)
  refine WC.region ?_
  refine WL.val rfl rfl rfl (Run.move rfl rfl) ?_
  refine WL.val rfl rfl rfl (Run.move rfl rfl) ?_
  refine WL.val rfl rfl rfl (Run.move rfl rfl) ?_
  refine WL.val rfl rfl rfl (Run.move rfl rfl) ?_
  refine WL.call rfl rfl rfl (Run.call Try.call35 rfl rfl rfl) (c_spec_PlaceOf _ _ _ _ _ _ _ _ (SlF.st0 f_t hs1) ?_) ?_
  · first | assumption | rfl | omega
  rintro _ whs4 ⟨rfl, hs4⟩
  replace hs4 := hs1.call0 hs4
  refine ⟨_, rfl, ?_⟩
  refine WL.val rfl rfl rfl (Run.move rfl rfl) ?_
  refine WL.val rfl rfl rfl (Run.extract rfl rfl rfl) ?_
  refine WL.val rfl rfl rfl (Run.extract rfl rfl rfl) ?_
  refine WL.alloc hs4 Try.zeroValue40 rfl rfl rfl rfl rfl (fun b5 whs6 hs6 => ?_)
  refine WL.storeA hs6 0 Try.sizeOf40 rfl rfl rfl rfl rfl rfl rfl rfl rfl (Nat.le_of_ble_eq_true rfl) (.inl (Nat.le_of_ble_eq_true rfl)) (fun whs7 hs7 => ?_)
  refine WL.val rfl rfl rfl (Run.assign rfl rfl) ?_
  refine WL.nil ?_
  refine tkN ?_
  refine hK3 _ _ ?_
  clear hK3
  refine WC.seq (fun K8 hK8 => ?_)
  refine WC.region ?_
  refine WL.val rfl rfl rfl (Run.field Try.runUnderlying40 rfl rfl rfl Try.sizeOf3 rfl) ?_
  refine WL.val rfl rfl rfl (Run.loadL hs7 0 Try.isAgg3 rfl rfl rfl rfl) ?_
  refine WL.val rfl rfl rfl (Run.assign rfl rfl) ?_
  refine WL.nil ?_
  refine tkN ?_
  refine hK8 _ _ ?_
  clear hK8
  refine WC.seq (fun K9 hK9 => ?_)
  refine WC.seq (fun K10 hK10 => ?_)
  refine WC.region ?_
  refine WL.val rfl rfl rfl (Run.move rfl rfl) ?_
  refine WL.nil ?_
  refine tkN ?_
  refine hK10 _ _ ?_
  clear hK10
  refine WC.cond rfl (fun h11 => ?_) (fun h11 => ?_)
  · have qh11 := h11
    try simp only [decide_eq_true_eq, decide_eq_false_iff_not, Bool.not_eq_true', Bool.not_eq_false', Bool.and_eq_true, Bool.or_eq_false_iff, within_iff, within_not] at qh11
    have hd : down = true := h11
    have hle : lenR t w_ h_ p down = (placeR t w_ h_ p).H := by rw [lenR, hd]; rfl
    refine WC.region ?_
    refine WL.val rfl rfl rfl (Run.field Try.runUnderlying40 rfl rfl rfl Try.sizeOf3 rfl) ?_
    refine WL.val rfl rfl rfl (Run.loadL hs7 0 Try.isAgg3 rfl rfl rfl rfl) ?_
    refine WL.val rfl rfl rfl (Run.assign rfl rfl) ?_
    refine WL.nil ?_
    refine tkN ?_
    refine hK9 _ _ ?_
    clear hK9
    refine WC.seq (fun K12 hK12 => ?_)
    refine WC.seq (fun K13 hK13 => ?_)
    refine WC.region ?_
    refine WL.val rfl rfl rfl (Run.move rfl rfl) ?_
    refine WL.val rfl rfl rfl (Run.not rfl rfl) ?_
    refine WL.val rfl rfl rfl (Run.move rfl rfl) ?_
    apply WL.meetOr 3 34 37 [(0, _), (1, _), (2, _), (3, _), (4, _), (5, _), (12, _), (13, _), (14, _), (15, _), (16, _), (19, _), (20, _), (21, _), (22, _), (23, _), (24, _), (25, _), (26, _), (27, _), (28, _), (29, _), (30, _), (31, _)] rfl hs7
    · intro g14 J15
      have qg14 := g14
      try simp only [decide_eq_true_eq, decide_eq_false_iff_not, Bool.not_eq_true', Bool.not_eq_false'] at qg14
      refine WL.val (wantF rfl g14) rfl rfl (Run.move rfl rfl) ?_
      refine WL.val (wantF rfl g14) rfl rfl (Run.lss rfl rfl rfl) ?_
      refine WL.val rfl rfl rfl (Run.pickF rfl rfl g14 rfl) ?_
      exact WL.fin J15 hs7 rfl (orF g14) ⟨rfl, rfl, rfl, rfl, rfl, rfl, rfl, rfl, rfl, rfl, rfl, rfl, rfl, rfl, rfl, rfl, rfl, rfl, rfl, rfl, rfl, rfl, rfl, rfl, trivial⟩
    · intro g14 J15
      refine WL.skip (wantNF rfl g14) rfl rfl ?_
      refine WL.skip (wantNF rfl g14) rfl rfl ?_
      refine WL.val rfl rfl rfl (Run.pickT rfl rfl g14 rfl) ?_
      exact WL.fin J15 hs7 rfl (orT g14) ⟨rfl, rfl, rfl, rfl, rfl, rfl, rfl, rfl, rfl, rfl, rfl, rfl, rfl, rfl, rfl, rfl, rfl, rfl, rfl, rfl, rfl, rfl, rfl, rfl, trivial⟩
    · intro whs16 hs16
      refine WL.nil ?_
      refine tkN ?_
      refine hK13 _ _ ?_
      clear hK13
      refine WC.cond rfl (fun h17 => ?_) (fun h17 => ?_)
      · have qh17 := h17
        try simp only [decide_eq_true_eq, decide_eq_false_iff_not, Bool.not_eq_true', Bool.not_eq_false', Bool.and_eq_true, Bool.or_eq_false_iff, within_iff, within_not] at qh17
        have hk : splitOk t p fresh down w_ h_ = false := by
          rw [← Bool.not_eq_true]; intro h_1
          simp only [splitOk, Bool.and_eq_true, decide_eq_true_eq] at h_1
          rw [hle] at h_1
          simp only [Bool.or_eq_true, Bool.not_eq_true', decide_eq_false_iff_not, decide_eq_true_eq] at h17
          omega
        refine WC.seq (fun K18 hK18 => ?_)
        refine WC.region ?_
        refine WL.val rfl rfl rfl (Run.assign rfl rfl) ?_
        refine WL.val rfl rfl rfl (Run.assign rfl rfl) ?_
        refine WL.nil ?_
        refine tkN ?_
        refine hK18 _ _ ?_
        clear hK18
        refine WC.ret ?_
        refine tkR ?_
        clear hK12
        refine retV2 rfl (resV.tmp rfl) (resV.tmp rfl) ?_
        rw [hk]
        have hx_ := OwnF.eqOf (xs := splitL t p fresh down w_ h_) (OwnF.nil encNode 62) (by simp [splitL, hk])
        rw [← hx_]
        exact ⟨_, _, _, rfl, hs16.nil, (OwnF.nil encNode 62)⟩
      · have qh17 := h17
        try simp only [decide_eq_true_eq, decide_eq_false_iff_not, Bool.not_eq_true', Bool.not_eq_false', Bool.and_eq_true, Bool.or_eq_false_iff, within_iff, within_not] at qh17
        have hpa : 0 ≤ placeAt t w_ h_ p ∧ 3 ≤ lenR t w_ h_ p down := by
          rw [hle]; simp at h17; omega
        obtain ⟨hto, hat0⟩ := placeAt_at hpa.1
        have hlt := treeOk_len hto
        have hatl := atL_lt t p
        have hse := atS_eq (p := p) hto
        refine WC.skip ?_
        refine tkN ?_
        refine hK12 _ _ ?_
        clear hK12
        refine WC.seq (fun K19 hK19 => ?_)
        refine WC.region ?_
        refine WL.val rfl rfl rfl (Run.move rfl rfl) ?_
        refine WL.val rfl rfl rfl (Run.move rfl rfl) ?_
        refine WL.call rfl rfl rfl (Run.call Try.call63 rfl rfl rfl) (c_spec_l13At _ _ _ _ _ _ (SlF.st0 f_t hs16) ?_) ?_
        · first | assumption | rfl | omega
        rintro _ whs20 ⟨rfl, hs20⟩
        replace hs20 := hs16.call0 hs20
        refine ⟨_, rfl, ?_⟩
        refine WL.val rfl rfl rfl (Run.assign rfl rfl) ?_
        refine WL.nil ?_
        refine tkN ?_
        refine hK19 _ _ ?_
        clear hK19
        refine WC.seq (fun K21 hK21 => ?_)
        refine WC.region ?_
        refine WL.val rfl rfl rfl (Run.move rfl rfl) ?_
        refine WL.val rfl rfl rfl (Run.move rfl rfl) ?_
        refine WL.val rfl rfl rfl (Run.sliceH ((atL t p).toNat) Try.runUnderlying25 Try.sizeOf62 rfl rfl rfl ?_ ?_) ?_
        · first | rfl | (omega)
        · refine ⟨?_, ?_, ?_⟩ <;> (omega)
        refine WL.call rfl rfl rfl (Run.call Try.call64 rfl rfl rfl) (c_spec_l13Copy _ _ _ _ _ (SlF.cutH ((atL t p).toNat) (SlF.st0 f_t hs20) (by refine ⟨?_, ?_, ?_⟩ <;> (omega))) ?_) ?_
        · first | assumption | rfl | omega
        rintro _ whs22 ⟨A23, c24, L125, rfl, hs22, ho26⟩
        replace hs22 := hs20.callF hs22
        refine ⟨_, rfl, ?_⟩
        replace hs22 := St.back [_] hs22
        refine WL.val rfl rfl rfl (Run.assign rfl rfl) ?_
        refine WL.nil ?_
        refine tkN ?_
        refine hK21 _ _ ?_
        clear hK21
        refine WC.seq (fun K27 hK27 => ?_)
        refine WC.region ?_
        refine WL.val rfl rfl rfl (Run.move rfl rfl) ?_
        refine WL.val rfl rfl rfl (Run.move rfl rfl) ?_
        refine WL.val rfl rfl rfl (Run.move rfl rfl) ?_
        refine WL.val rfl rfl rfl (Run.sub rfl rfl rfl ?_) ?_
        · constructor <;> omega
        refine WL.val rfl rfl rfl (Run.quo rfl rfl rfl ?_ ?_ ?_) ?_
        · omega
        · omega
        · omega
        refine WL.val rfl rfl rfl (Run.build rfl rfl rfl rfl (built_62_1_2 _ _)) ?_
        refine WL.val rfl rfl rfl (Run.move rfl rfl) ?_
        refine WL.val rfl rfl rfl (Run.move rfl rfl) ?_
        refine WL.val rfl rfl rfl (Run.idxK ((atL t p).toNat) Try.runUnderlying25 Try.sizeOf62 rfl rfl rfl ?_ ?_ ?_) ?_
        · exact SlF.some_ (SlF.st0 f_t hs22)
        · omega
        · omega
        refine WL.val rfl rfl rfl (Run.loadA Try.isAgg62 Try.sizeOf62 rfl rfl (SlF.whole (SlF.st0 f_t hs22) ?_)) ?_
        · omega
        refine WL.val rfl rfl rfl (Run.move rfl rfl) ?_
        refine WL.val rfl rfl rfl (Run.build rfl rfl rfl rfl (built_62_0 _)) ?_
        refine WL.buildF (F := encNode) hs22 ([⟨0, down, ((placeR t w_ h_ p).H - 1) / 2⟩, gat encNode t (atL t p).toNat, ⟨fresh, false, 0⟩]) Try.runUnderlying25 Try.sizeOf62 Try.zeroValue62 rfl rfl rfl rfl rfl rfl rfl rfl rfl rfl rfl rfl (fun A31 c32 L28 whs29 hs29 ho30 => ?_)
        replace hs29 := St.back [_] hs29
        refine WL.appendG (St.perm hs29 (L' := L125 ++ _) (perm_front (A := [_]) (perm_front (A := L28) (List.Perm.refl _)))) ho26 (SlF.src (SlF.ofOwn ho30 (fun p_ hp_ => (hs29.own p_ (List.mem_append_right [_] (List.mem_append_left _ hp_))).1)) Try.underlying25) Try.underlying25 info_62 rfl rfl rfl rfl rfl rfl rfl rfl rfl rfl ?_ (fun A36 c37 L33 whs34 hs34 ho35 => ?_)
        · simp; omega
        replace hs34 := St.back [_] hs34
        refine WL.val rfl rfl rfl (Run.assign rfl rfl) ?_
        refine WL.nil ?_
        refine tkN ?_
        refine hK27 _ _ ?_
        clear hK27
        refine WC.seq (fun K38 hK38 => ?_)
        refine WC.region ?_
        refine WL.val rfl rfl rfl (Run.move rfl rfl) ?_
        refine WL.val rfl rfl rfl (Run.move rfl rfl) ?_
        refine WL.val rfl rfl rfl (Run.move rfl rfl) ?_
        refine WL.val rfl rfl rfl (Run.add rfl rfl rfl ?_) ?_
        · constructor <;> omega
        refine WL.val rfl rfl rfl (Run.sliceL ((atL t p).toNat + 1) Try.runUnderlying25 Try.sizeOf62 rfl rfl rfl ?_ ?_) ?_
        · first | rfl | (omega)
        · refine ⟨?_, ?_, ?_⟩ <;> (omega)
        refine WL.appendG (St.perm hs34 (L' := L33 ++ _) (perm_front (A := [_]) (List.Perm.refl _))) ho35 (SlF.src (SlF.cutL ((atL t p).toNat + 1) (SlF.st0 f_t hs34) (by refine ⟨?_, ?_, ?_⟩ <;> (omega))) Try.underlying25) Try.underlying25 info_62 rfl rfl rfl rfl rfl rfl rfl rfl rfl rfl ?_ (fun A42 c43 L39 whs40 hs40 ho41 => ?_)
        · simp; omega
        replace hs40 := St.back [_] hs40
        refine WL.val rfl rfl rfl (Run.assign rfl rfl) ?_
        refine WL.nil ?_
        refine tkN ?_
        refine hK38 _ _ ?_
        clear hK38
        refine WC.seq (fun K44 hK44 => ?_)
        refine WC.seq (fun K45 hK45 => ?_)
        refine WC.region ?_
        refine WL.val rfl rfl rfl (Run.move rfl rfl) ?_
        refine WL.call rfl rfl rfl (Run.call Try.call18 rfl rfl rfl) (c_spec_TreeOk _ _ _ _ _ (SlF.ofOwn ho41 (fun p_ hp_ => (hs40.own p_ (List.mem_append_right [_] (List.mem_append_left _ hp_))).1)) ?_) ?_
        · simp; omega
        rintro _ whs46 ⟨rfl, hs46⟩
        replace hs46 := hs40.call0 hs46
        refine ⟨_, rfl, ?_⟩
        refine WL.val rfl rfl rfl (Run.not rfl rfl) ?_
        refine WL.val rfl rfl rfl (Run.move rfl rfl) ?_
        apply WL.meetOr 3 68 71 [(0, _), (1, _), (2, _), (3, _), (4, _), (5, _), (12, _), (13, _), (14, _), (15, _), (16, _), (17, _), (18, _), (19, _), (20, _), (21, _), (22, _), (23, _), (24, _), (25, _), (26, _), (27, _), (28, _), (29, _), (30, _), (31, _), (37, _), (38, _), (39, _), (40, _), (41, _), (42, _), (43, _), (44, _), (45, _), (46, _), (47, _), (48, _), (49, _), (50, _), (51, _), (52, _), (53, _), (54, _), (55, _), (56, _), (57, _), (58, _), (59, _), (60, _), (61, _), (62, _), (63, _), (64, _)] rfl hs46
        · intro g47 J48
          have qg47 := g47
          try simp only [decide_eq_true_eq, decide_eq_false_iff_not, Bool.not_eq_true', Bool.not_eq_false'] at qg47
          refine WL.val (wantF rfl g47) rfl rfl (Run.move rfl rfl) ?_
          refine WL.val (wantF rfl g47) rfl rfl (Run.eql rfl rfl rfl) ?_
          refine WL.val rfl rfl rfl (Run.pickF rfl rfl g47 rfl) ?_
          exact WL.fin J48 hs46 rfl (orF g47) ⟨rfl, rfl, rfl, rfl, rfl, rfl, rfl, rfl, rfl, rfl, rfl, rfl, rfl, rfl, rfl, rfl, rfl, rfl, rfl, rfl, rfl, rfl, rfl, rfl, rfl, rfl, rfl, rfl, rfl, rfl, rfl, rfl, rfl, rfl, rfl, rfl, rfl, rfl, rfl, rfl, rfl, rfl, rfl, rfl, rfl, rfl, rfl, rfl, rfl, rfl, rfl, rfl, rfl, rfl, trivial⟩
        · intro g47 J48
          refine WL.skip (wantNF rfl g47) rfl rfl ?_
          refine WL.skip (wantNF rfl g47) rfl rfl ?_
          refine WL.val rfl rfl rfl (Run.pickT rfl rfl g47 rfl) ?_
          exact WL.fin J48 hs46 rfl (orT g47) ⟨rfl, rfl, rfl, rfl, rfl, rfl, rfl, rfl, rfl, rfl, rfl, rfl, rfl, rfl, rfl, rfl, rfl, rfl, rfl, rfl, rfl, rfl, rfl, rfl, rfl, rfl, rfl, rfl, rfl, rfl, rfl, rfl, rfl, rfl, rfl, rfl, rfl, rfl, rfl, rfl, rfl, rfl, rfl, rfl, rfl, rfl, rfl, rfl, rfl, rfl, rfl, rfl, rfl, rfl, trivial⟩
        · intro whs49 hs49
          refine WL.nil ?_
          refine tkN ?_
          refine hK45 _ _ ?_
          clear hK45
          refine WC.cond rfl (fun h50 => ?_) (fun h50 => ?_)
          · have qh50 := h50
            try simp only [decide_eq_true_eq, decide_eq_false_iff_not, Bool.not_eq_true', Bool.not_eq_false', Bool.and_eq_true, Bool.or_eq_false_iff, within_iff, within_not] at qh50
            have hxs : t.take (atL t p).toNat ++ [⟨0, down, ((placeR t w_ h_ p).H - 1) / 2⟩, gat encNode t (atL t p).toNat, ⟨fresh, false, 0⟩] ++ t.drop ((atL t p).toNat + 1) = splitOut t p fresh down w_ h_ := by simp [splitOut, hle]
            have hk : splitOk t p fresh down w_ h_ = false := by
              rw [← Bool.not_eq_true]; intro h_1
              simp only [splitOk, Bool.and_eq_true, decide_eq_true_eq] at h_1
              have h_2 := h_1.2
              have h_3 := split_fresh h_2
              rw [← hxs] at h_2
              rw [h_2] at h50
              simp [h_3] at h50
            refine WC.seq (fun K51 hK51 => ?_)
            refine WC.region ?_
            refine WL.val rfl rfl rfl (Run.assign rfl rfl) ?_
            refine WL.val rfl rfl rfl (Run.assign rfl rfl) ?_
            refine WL.nil ?_
            refine tkN ?_
            refine hK51 _ _ ?_
            clear hK51
            refine WC.ret ?_
            refine tkR ?_
            clear hK44
            refine retV2 rfl (resV.tmp rfl) (resV.tmp rfl) ?_
            rw [hk]
            have hx_ := OwnF.eqOf (xs := splitL t p fresh down w_ h_) (OwnF.nil encNode 62) (by simp [splitL, hk])
            rw [← hx_]
            exact ⟨_, _, _, rfl, hs49.nil, (OwnF.nil encNode 62)⟩
          · have qh50 := h50
            try simp only [decide_eq_true_eq, decide_eq_false_iff_not, Bool.not_eq_true', Bool.not_eq_false', Bool.and_eq_true, Bool.or_eq_false_iff, within_iff, within_not] at qh50
            have hxs : t.take (atL t p).toNat ++ [⟨0, down, ((placeR t w_ h_ p).H - 1) / 2⟩, gat encNode t (atL t p).toNat, ⟨fresh, false, 0⟩] ++ t.drop ((atL t p).toNat + 1) = splitOut t p fresh down w_ h_ := by simp [splitOut, hle]
            have hk : splitOk t p fresh down w_ h_ = true := by
              have h_2 : treeOk (splitOut t p fresh down w_ h_) = true := by
                rw [← hxs]
                simp only [Bool.or_eq_false_iff, Bool.not_eq_false'] at h50
                first | exact h50.2 | exact h50.1
              simp only [splitOk, hpa.1, hpa.2, h_2, decide_true, Bool.and_self]
            refine WC.skip ?_
            refine tkN ?_
            refine hK44 _ _ ?_
            clear hK44
            refine WC.seq (fun K52 hK52 => ?_)
            refine WC.region ?_
            refine WL.val rfl rfl rfl (Run.move rfl rfl) ?_
            refine WL.val rfl rfl rfl (Run.assign rfl rfl) ?_
            refine WL.val rfl rfl rfl (Run.assign rfl rfl) ?_
            refine WL.nil ?_
            refine tkN ?_
            refine hK52 _ _ ?_
            clear hK52
            refine WC.ret ?_
            refine retV2 rfl (resV.tmp rfl) (resV.tmp rfl) ?_
            rw [hk]
            have hx_ := OwnF.eqOf (xs := splitL t p fresh down w_ h_) ho41 (by rw [hxs, splitL, if_pos hk])
            rw [← hx_]
            first | exact ⟨_, _, _, rfl, (St.keep1 (St.perm hs49 (L' := L39 ++ _) (perm_front (A := [_]) (List.Perm.refl _)))), ho41⟩ | exact ⟨A42, c43, _, by rw [OwnF.len_ ho41], (St.keep1 (St.perm hs49 (L' := L39 ++ _) (perm_front (A := [_]) (List.Perm.refl _)))), by rw [OwnF.len_ ho41]; exact ho41⟩
  · have qh11 := h11
    try simp only [decide_eq_true_eq, decide_eq_false_iff_not, Bool.not_eq_true', Bool.not_eq_false', Bool.and_eq_true, Bool.or_eq_false_iff, within_iff, within_not] at qh11
    have hd : down = false := h11
    have hle : lenR t w_ h_ p down = (placeR t w_ h_ p).W := by rw [lenR, hd]; rfl
    refine WC.skip ?_
    refine tkN ?_
    refine hK9 _ _ ?_
    clear hK9
    refine WC.seq (fun K53 hK53 => ?_)
    refine WC.seq (fun K54 hK54 => ?_)
    refine WC.region ?_
    refine WL.val rfl rfl rfl (Run.move rfl rfl) ?_
    refine WL.val rfl rfl rfl (Run.not rfl rfl) ?_
    refine WL.val rfl rfl rfl (Run.move rfl rfl) ?_
    apply WL.meetOr 3 34 37 [(0, _), (1, _), (2, _), (3, _), (4, _), (5, _), (12, _), (13, _), (14, _), (15, _), (16, _), (19, _), (20, _), (21, _), (22, _), (23, _), (24, _), (25, _), (26, _), (27, _), (28, _), (29, _)] rfl hs7
    · intro g55 J56
      have qg55 := g55
      try simp only [decide_eq_true_eq, decide_eq_false_iff_not, Bool.not_eq_true', Bool.not_eq_false'] at qg55
      refine WL.val (wantF rfl g55) rfl rfl (Run.move rfl rfl) ?_
      refine WL.val (wantF rfl g55) rfl rfl (Run.lss rfl rfl rfl) ?_
      refine WL.val rfl rfl rfl (Run.pickF rfl rfl g55 rfl) ?_
      exact WL.fin J56 hs7 rfl (orF g55) ⟨rfl, rfl, rfl, rfl, rfl, rfl, rfl, rfl, rfl, rfl, rfl, rfl, rfl, rfl, rfl, rfl, rfl, rfl, rfl, rfl, rfl, rfl, trivial⟩
    · intro g55 J56
      refine WL.skip (wantNF rfl g55) rfl rfl ?_
      refine WL.skip (wantNF rfl g55) rfl rfl ?_
      refine WL.val rfl rfl rfl (Run.pickT rfl rfl g55 rfl) ?_
      exact WL.fin J56 hs7 rfl (orT g55) ⟨rfl, rfl, rfl, rfl, rfl, rfl, rfl, rfl, rfl, rfl, rfl, rfl, rfl, rfl, rfl, rfl, rfl, rfl, rfl, rfl, rfl, rfl, trivial⟩
    · intro whs57 hs57
      refine WL.nil ?_
      refine tkN ?_
      refine hK54 _ _ ?_
      clear hK54
      refine WC.cond rfl (fun h58 => ?_) (fun h58 => ?_)
      · have qh58 := h58
        try simp only [decide_eq_true_eq, decide_eq_false_iff_not, Bool.not_eq_true', Bool.not_eq_false', Bool.and_eq_true, Bool.or_eq_false_iff, within_iff, within_not] at qh58
        have hk : splitOk t p fresh down w_ h_ = false := by
          rw [← Bool.not_eq_true]; intro h_1
          simp only [splitOk, Bool.and_eq_true, decide_eq_true_eq] at h_1
          rw [hle] at h_1
          simp only [Bool.or_eq_true, Bool.not_eq_true', decide_eq_false_iff_not, decide_eq_true_eq] at h58
          omega
        refine WC.seq (fun K59 hK59 => ?_)
        refine WC.region ?_
        refine WL.val rfl rfl rfl (Run.assign rfl rfl) ?_
        refine WL.val rfl rfl rfl (Run.assign rfl rfl) ?_
        refine WL.nil ?_
        refine tkN ?_
        refine hK59 _ _ ?_
        clear hK59
        refine WC.ret ?_
        refine tkR ?_
        clear hK53
        refine retV2 rfl (resV.tmp rfl) (resV.tmp rfl) ?_
        rw [hk]
        have hx_ := OwnF.eqOf (xs := splitL t p fresh down w_ h_) (OwnF.nil encNode 62) (by simp [splitL, hk])
        rw [← hx_]
        exact ⟨_, _, _, rfl, hs57.nil, (OwnF.nil encNode 62)⟩
      · have qh58 := h58
        try simp only [decide_eq_true_eq, decide_eq_false_iff_not, Bool.not_eq_true', Bool.not_eq_false', Bool.and_eq_true, Bool.or_eq_false_iff, within_iff, within_not] at qh58
        have hpa : 0 ≤ placeAt t w_ h_ p ∧ 3 ≤ lenR t w_ h_ p down := by
          rw [hle]; simp at h58; omega
        obtain ⟨hto, hat0⟩ := placeAt_at hpa.1
        have hlt := treeOk_len hto
        have hatl := atL_lt t p
        have hse := atS_eq (p := p) hto
        refine WC.skip ?_
        refine tkN ?_
        refine hK53 _ _ ?_
        clear hK53
        refine WC.seq (fun K60 hK60 => ?_)
        refine WC.region ?_
        refine WL.val rfl rfl rfl (Run.move rfl rfl) ?_
        refine WL.val rfl rfl rfl (Run.move rfl rfl) ?_
        refine WL.call rfl rfl rfl (Run.call Try.call63 rfl rfl rfl) (c_spec_l13At _ _ _ _ _ _ (SlF.st0 f_t hs57) ?_) ?_
        · first | assumption | rfl | omega
        rintro _ whs61 ⟨rfl, hs61⟩
        replace hs61 := hs57.call0 hs61
        refine ⟨_, rfl, ?_⟩
        refine WL.val rfl rfl rfl (Run.assign rfl rfl) ?_
        refine WL.nil ?_
        refine tkN ?_
        refine hK60 _ _ ?_
        clear hK60
        refine WC.seq (fun K62 hK62 => ?_)
        refine WC.region ?_
        refine WL.val rfl rfl rfl (Run.move rfl rfl) ?_
        refine WL.val rfl rfl rfl (Run.move rfl rfl) ?_
        refine WL.val rfl rfl rfl (Run.sliceH ((atL t p).toNat) Try.runUnderlying25 Try.sizeOf62 rfl rfl rfl ?_ ?_) ?_
        · first | rfl | (omega)
        · refine ⟨?_, ?_, ?_⟩ <;> (omega)
        refine WL.call rfl rfl rfl (Run.call Try.call64 rfl rfl rfl) (c_spec_l13Copy _ _ _ _ _ (SlF.cutH ((atL t p).toNat) (SlF.st0 f_t hs61) (by refine ⟨?_, ?_, ?_⟩ <;> (omega))) ?_) ?_
        · first | assumption | rfl | omega
        rintro _ whs63 ⟨A64, c65, L166, rfl, hs63, ho67⟩
        replace hs63 := hs61.callF hs63
        refine ⟨_, rfl, ?_⟩
        replace hs63 := St.back [_] hs63
        refine WL.val rfl rfl rfl (Run.assign rfl rfl) ?_
        refine WL.nil ?_
        refine tkN ?_
        refine hK62 _ _ ?_
        clear hK62
        refine WC.seq (fun K68 hK68 => ?_)
        refine WC.region ?_
        refine WL.val rfl rfl rfl (Run.move rfl rfl) ?_
        refine WL.val rfl rfl rfl (Run.move rfl rfl) ?_
        refine WL.val rfl rfl rfl (Run.move rfl rfl) ?_
        refine WL.val rfl rfl rfl (Run.sub rfl rfl rfl ?_) ?_
        · constructor <;> omega
        refine WL.val rfl rfl rfl (Run.quo rfl rfl rfl ?_ ?_ ?_) ?_
        · omega
        · omega
        · omega
        refine WL.val rfl rfl rfl (Run.build rfl rfl rfl rfl (built_62_1_2 _ _)) ?_
        refine WL.val rfl rfl rfl (Run.move rfl rfl) ?_
        refine WL.val rfl rfl rfl (Run.move rfl rfl) ?_
        refine WL.val rfl rfl rfl (Run.idxK ((atL t p).toNat) Try.runUnderlying25 Try.sizeOf62 rfl rfl rfl ?_ ?_ ?_) ?_
        · exact SlF.some_ (SlF.st0 f_t hs63)
        · omega
        · omega
        refine WL.val rfl rfl rfl (Run.loadA Try.isAgg62 Try.sizeOf62 rfl rfl (SlF.whole (SlF.st0 f_t hs63) ?_)) ?_
        · omega
        refine WL.val rfl rfl rfl (Run.move rfl rfl) ?_
        refine WL.val rfl rfl rfl (Run.build rfl rfl rfl rfl (built_62_0 _)) ?_
        refine WL.buildF (F := encNode) hs63 ([⟨0, down, ((placeR t w_ h_ p).W - 1) / 2⟩, gat encNode t (atL t p).toNat, ⟨fresh, false, 0⟩]) Try.runUnderlying25 Try.sizeOf62 Try.zeroValue62 rfl rfl rfl rfl rfl rfl rfl rfl rfl rfl rfl rfl (fun A72 c73 L69 whs70 hs70 ho71 => ?_)
        replace hs70 := St.back [_] hs70
        refine WL.appendG (St.perm hs70 (L' := L166 ++ _) (perm_front (A := [_]) (perm_front (A := L69) (List.Perm.refl _)))) ho67 (SlF.src (SlF.ofOwn ho71 (fun p_ hp_ => (hs70.own p_ (List.mem_append_right [_] (List.mem_append_left _ hp_))).1)) Try.underlying25) Try.underlying25 info_62 rfl rfl rfl rfl rfl rfl rfl rfl rfl rfl ?_ (fun A77 c78 L74 whs75 hs75 ho76 => ?_)
        · simp; omega
        replace hs75 := St.back [_] hs75
        refine WL.val rfl rfl rfl (Run.assign rfl rfl) ?_
        refine WL.nil ?_
        refine tkN ?_
        refine hK68 _ _ ?_
        clear hK68
        refine WC.seq (fun K79 hK79 => ?_)
        refine WC.region ?_
        refine WL.val rfl rfl rfl (Run.move rfl rfl) ?_
        refine WL.val rfl rfl rfl (Run.move rfl rfl) ?_
        refine WL.val rfl rfl rfl (Run.move rfl rfl) ?_
        refine WL.val rfl rfl rfl (Run.add rfl rfl rfl ?_) ?_
        · constructor <;> omega
        refine WL.val rfl rfl rfl (Run.sliceL ((atL t p).toNat + 1) Try.runUnderlying25 Try.sizeOf62 rfl rfl rfl ?_ ?_) ?_
        · first | rfl | (omega)
        · refine ⟨?_, ?_, ?_⟩ <;> (omega)
        refine WL.appendG (St.perm hs75 (L' := L74 ++ _) (perm_front (A := [_]) (List.Perm.refl _))) ho76 (SlF.src (SlF.cutL ((atL t p).toNat + 1) (SlF.st0 f_t hs75) (by refine ⟨?_, ?_, ?_⟩ <;> (omega))) Try.underlying25) Try.underlying25 info_62 rfl rfl rfl rfl rfl rfl rfl rfl rfl rfl ?_ (fun A83 c84 L80 whs81 hs81 ho82 => ?_)
        · simp; omega
        replace hs81 := St.back [_] hs81
        refine WL.val rfl rfl rfl (Run.assign rfl rfl) ?_
        refine WL.nil ?_
        refine tkN ?_
        refine hK79 _ _ ?_
        clear hK79
        refine WC.seq (fun K85 hK85 => ?_)
        refine WC.seq (fun K86 hK86 => ?_)
        refine WC.region ?_
        refine WL.val rfl rfl rfl (Run.move rfl rfl) ?_
        refine WL.call rfl rfl rfl (Run.call Try.call18 rfl rfl rfl) (c_spec_TreeOk _ _ _ _ _ (SlF.ofOwn ho82 (fun p_ hp_ => (hs81.own p_ (List.mem_append_right [_] (List.mem_append_left _ hp_))).1)) ?_) ?_
        · simp; omega
        rintro _ whs87 ⟨rfl, hs87⟩
        replace hs87 := hs81.call0 hs87
        refine ⟨_, rfl, ?_⟩
        refine WL.val rfl rfl rfl (Run.not rfl rfl) ?_
        refine WL.val rfl rfl rfl (Run.move rfl rfl) ?_
        apply WL.meetOr 3 68 71 [(0, _), (1, _), (2, _), (3, _), (4, _), (5, _), (12, _), (13, _), (14, _), (15, _), (16, _), (17, _), (18, _), (19, _), (20, _), (21, _), (22, _), (23, _), (24, _), (25, _), (26, _), (27, _), (28, _), (29, _), (37, _), (38, _), (39, _), (40, _), (41, _), (42, _), (43, _), (44, _), (45, _), (46, _), (47, _), (48, _), (49, _), (50, _), (51, _), (52, _), (53, _), (54, _), (55, _), (56, _), (57, _), (58, _), (59, _), (60, _), (61, _), (62, _), (63, _), (64, _)] rfl hs87
        · intro g88 J89
          have qg88 := g88
          try simp only [decide_eq_true_eq, decide_eq_false_iff_not, Bool.not_eq_true', Bool.not_eq_false'] at qg88
          refine WL.val (wantF rfl g88) rfl rfl (Run.move rfl rfl) ?_
          refine WL.val (wantF rfl g88) rfl rfl (Run.eql rfl rfl rfl) ?_
          refine WL.val rfl rfl rfl (Run.pickF rfl rfl g88 rfl) ?_
          exact WL.fin J89 hs87 rfl (orF g88) ⟨rfl, rfl, rfl, rfl, rfl, rfl, rfl, rfl, rfl, rfl, rfl, rfl, rfl, rfl, rfl, rfl, rfl, rfl, rfl, rfl, rfl, rfl, rfl, rfl, rfl, rfl, rfl, rfl, rfl, rfl, rfl, rfl, rfl, rfl, rfl, rfl, rfl, rfl, rfl, rfl, rfl, rfl, rfl, rfl, rfl, rfl, rfl, rfl, rfl, rfl, rfl, rfl, trivial⟩
        · intro g88 J89
          refine WL.skip (wantNF rfl g88) rfl rfl ?_
          refine WL.skip (wantNF rfl g88) rfl rfl ?_
          refine WL.val rfl rfl rfl (Run.pickT rfl rfl g88 rfl) ?_
          exact WL.fin J89 hs87 rfl (orT g88) ⟨rfl, rfl, rfl, rfl, rfl, rfl, rfl, rfl, rfl, rfl, rfl, rfl, rfl, rfl, rfl, rfl, rfl, rfl, rfl, rfl, rfl, rfl, rfl, rfl, rfl, rfl, rfl, rfl, rfl, rfl, rfl, rfl, rfl, rfl, rfl, rfl, rfl, rfl, rfl, rfl, rfl, rfl, rfl, rfl, rfl, rfl, rfl, rfl, rfl, rfl, rfl, rfl, trivial⟩
        · intro whs90 hs90
          refine WL.nil ?_
          refine tkN ?_
          refine hK86 _ _ ?_
          clear hK86
          refine WC.cond rfl (fun h91 => ?_) (fun h91 => ?_)
          · have qh91 := h91
            try simp only [decide_eq_true_eq, decide_eq_false_iff_not, Bool.not_eq_true', Bool.not_eq_false', Bool.and_eq_true, Bool.or_eq_false_iff, within_iff, within_not] at qh91
            have hxs : t.take (atL t p).toNat ++ [⟨0, down, ((placeR t w_ h_ p).W - 1) / 2⟩, gat encNode t (atL t p).toNat, ⟨fresh, false, 0⟩] ++ t.drop ((atL t p).toNat + 1) = splitOut t p fresh down w_ h_ := by simp [splitOut, hle]
            have hk : splitOk t p fresh down w_ h_ = false := by
              rw [← Bool.not_eq_true]; intro h_1
              simp only [splitOk, Bool.and_eq_true, decide_eq_true_eq] at h_1
              have h_2 := h_1.2
              have h_3 := split_fresh h_2
              rw [← hxs] at h_2
              rw [h_2] at h91
              simp [h_3] at h91
            refine WC.seq (fun K92 hK92 => ?_)
            refine WC.region ?_
            refine WL.val rfl rfl rfl (Run.assign rfl rfl) ?_
            refine WL.val rfl rfl rfl (Run.assign rfl rfl) ?_
            refine WL.nil ?_
            refine tkN ?_
            refine hK92 _ _ ?_
            clear hK92
            refine WC.ret ?_
            refine tkR ?_
            clear hK85
            refine retV2 rfl (resV.tmp rfl) (resV.tmp rfl) ?_
            rw [hk]
            have hx_ := OwnF.eqOf (xs := splitL t p fresh down w_ h_) (OwnF.nil encNode 62) (by simp [splitL, hk])
            rw [← hx_]
            exact ⟨_, _, _, rfl, hs90.nil, (OwnF.nil encNode 62)⟩
          · have qh91 := h91
            try simp only [decide_eq_true_eq, decide_eq_false_iff_not, Bool.not_eq_true', Bool.not_eq_false', Bool.and_eq_true, Bool.or_eq_false_iff, within_iff, within_not] at qh91
            have hxs : t.take (atL t p).toNat ++ [⟨0, down, ((placeR t w_ h_ p).W - 1) / 2⟩, gat encNode t (atL t p).toNat, ⟨fresh, false, 0⟩] ++ t.drop ((atL t p).toNat + 1) = splitOut t p fresh down w_ h_ := by simp [splitOut, hle]
            have hk : splitOk t p fresh down w_ h_ = true := by
              have h_2 : treeOk (splitOut t p fresh down w_ h_) = true := by
                rw [← hxs]
                simp only [Bool.or_eq_false_iff, Bool.not_eq_false'] at h91
                first | exact h91.2 | exact h91.1
              simp only [splitOk, hpa.1, hpa.2, h_2, decide_true, Bool.and_self]
            refine WC.skip ?_
            refine tkN ?_
            refine hK85 _ _ ?_
            clear hK85
            refine WC.seq (fun K93 hK93 => ?_)
            refine WC.region ?_
            refine WL.val rfl rfl rfl (Run.move rfl rfl) ?_
            refine WL.val rfl rfl rfl (Run.assign rfl rfl) ?_
            refine WL.val rfl rfl rfl (Run.assign rfl rfl) ?_
            refine WL.nil ?_
            refine tkN ?_
            refine hK93 _ _ ?_
            clear hK93
            refine WC.ret ?_
            refine retV2 rfl (resV.tmp rfl) (resV.tmp rfl) ?_
            rw [hk]
            have hx_ := OwnF.eqOf (xs := splitL t p fresh down w_ h_) ho82 (by rw [hxs, splitL, if_pos hk])
            rw [← hx_]
            first | exact ⟨_, _, _, rfl, (St.keep1 (St.perm hs90 (L' := L80 ++ _) (perm_front (A := [_]) (List.Perm.refl _)))), ho82⟩ | exact ⟨A83, c84, _, by rw [OwnF.len_ ho82], (St.keep1 (St.perm hs90 (L' := L80 ++ _) (perm_front (A := [_]) (List.Perm.refl _)))), by rw [OwnF.len_ ho82]; exact ho82⟩
end Go.Proofs.Ytghcicggamkjgaa
