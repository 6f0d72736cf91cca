/- Walks of Go functions, printed by a program (wip/gen). -/
import Derived.Test.YtghcicggamkjgaaE11
import Derived.Test.YtghcicggamkjgaaT8
namespace Go.Proofs.Ytghcicggamkjgaa
open Go Go.RowKit
set_option linter.unusedVariables false
set_option linter.unusedSimpArgs false
theorem info_40 : Try.prog.info? 40 = some Try.t40 := by kernel_rfl
set_option maxHeartbeats 1000000 in
theorem c_impl_partsOf (n_Pane : Int) (n_Down : Bool) (n_First : Int) (r_Pane : Int) (r_X : Int) (r_Y : Int) (r_W : Int) (r_H : Int) (w : World) (hb : -1000000 ≤ n_First ∧ n_First ≤ 1000000 ∧ 0 ≤ r_X ∧ r_X ≤ 1000 ∧ 0 ≤ r_Y ∧ r_Y ≤ 1000 ∧ 0 ≤ r_W ∧ r_W ≤ 1000 ∧ 0 ≤ r_H ∧ r_H ≤ 1000) :
    Calls Try.prog 105 #[.agg #[i64 n_Pane, .bool n_Down, i64 n_First], .agg #[i64 r_Pane, i64 r_X, i64 r_Y, i64 r_W, i64 r_H]] w fun e w' => e = .returned (.tuple #[.agg (encRect.enc (firstR (⟨n_Pane, n_Down, n_First⟩ : NodeD) (⟨r_Pane, r_X, r_Y, r_W, r_H⟩ : RectD))).toArray, .agg (encRect.enc (secondR (⟨n_Pane, n_Down, n_First⟩ : NodeD) (⟨r_Pane, r_X, r_Y, r_W, r_H⟩ : RectD))).toArray, .bool (decide (3 ≤ sizeR (⟨n_Pane, n_Down, n_First⟩ : NodeD) (⟨r_Pane, r_X, r_Y, r_W, r_H⟩ : RectD)))]) ∧ St w [] [] w' := by
  refine enter (vs := [.agg #[i64 n_Pane, .bool n_Down, i64 n_First], .agg #[i64 r_Pane, i64 r_X, i64 r_Y, i64 r_W, i64 r_H]]) 56 Try.func105 rfl Try.ntmps105 rfl rfl ?_
  have hs1 := St.init w
  refine WC.seq (fun K2 hK2 => ?_)
  refine WC.region ?_
  refine WL.box hs1 rfl rfl rfl rfl rfl rfl (fun b3 whs4 hs4 => ?_)
  refine WL.box hs4 rfl rfl rfl rfl rfl rfl (fun b5 whs6 hs6 => ?_)
  refine WL.alloc hs6 Try.zeroValue40 rfl rfl rfl rfl rfl (fun b7 whs8 hs8 => ?_)
  refine WL.alloc hs8 Try.zeroValue40 rfl rfl rfl rfl rfl (fun b9 whs10 hs10 => ?_)
  refine WL.val rfl rfl rfl (Run.assign rfl rfl) ?_
  refine WL.nil ?_
  refine tkN ?_
  refine hK2 _ _ ?_
  clear hK2
  refine WC.seq (fun K11 hK11 => ?_)
  apply WC.join2 (fun b12 b13 => (b12, .cells (List.toArray [i64 (r_Pane), i64 (r_X), i64 (r_Y), i64 (r_W), i64 (r_H)]) _ _) :: (b13, .cells (List.toArray [i64 (r_Pane), i64 (r_X), i64 (r_Y), i64 (r_W), i64 (r_H)]) _ _) :: (b9, _) :: (b7, _) :: (b5, _) :: (b3, _) :: _) (fun b12 b13 => [(0, _), (1, _), (2, _), (3, _), (4, _), (5, _), (6, _), (7, _), (8, _)])
  · refine WC.regionH2 (fun w' => St _ _ _ w') (fun w' => St _ _ _ w') mixed (St.drew hs10) (St.drew hs10) (fun whs14 hs14 => ?_)
    replace hs14 : St _ _ _ _ := hs14
    refine WH.take 0 rfl (by kernel_rfl) rfl rfl rfl hs14 (fun w_ hs_ => (Run.loadLA (hs_ : St _ _ _ _) 2 Try.isAgg40 Try.sizeOf40 rfl rfl rfl rfl rfl)) ?_
    refine WH.take 1 rfl (by kernel_rfl) rfl rfl rfl hs14 (fun w_ hs_ => (Run.loadLA (hs_ : St _ _ _ _) 2 Try.isAgg40 Try.sizeOf40 rfl rfl rfl rfl rfl)) ?_
    refine WH.all [2, 3] (by kernel_rfl) rfl (WHs.cons (i := 2) rfl ?_ (WHs.cons (i := 3) rfl ?_ WHs.nil))
    · refine WL.alloc hs14 Try.zeroValue40 rfl rfl rfl rfl rfl (fun b15 whs16 hs16 => ?_)
      refine WL.nil ⟨(St.drop hs16 (List.sublist_append_right [_] _)), ?_⟩
      refine WH.all [3] (by kernel_rfl) rfl (WHs.cons (i := 3) rfl ?_ WHs.nil)
      refine WL.alloc hs16 Try.zeroValue40 rfl rfl rfl rfl rfl (fun b17 whs18 hs18 => ?_)
      refine WL.nil ⟨(St.drop hs18 (List.sublist_append_right [_, _] _)), ?_⟩
      refine WH.all [4] (by kernel_rfl) rfl (WHs.cons (i := 4) rfl ?_ WHs.nil)
      refine WL.storeA hs18 1 Try.sizeOf40 rfl rfl rfl rfl rfl rfl rfl rfl rfl (Nat.le_of_ble_eq_true rfl) (.inl (Nat.le_of_ble_eq_true rfl)) (fun whs19 hs19 => ?_)
      refine WL.nil ⟨(St.drop hs19 (List.sublist_append_right [_, _] _)), ?_⟩
      refine WH.all [5] (by kernel_rfl) rfl (WHs.cons (i := 5) rfl ?_ WHs.nil)
      refine WL.storeA hs19 0 Try.sizeOf40 rfl rfl rfl rfl rfl rfl rfl rfl rfl (Nat.le_of_ble_eq_true rfl) (.inl (Nat.le_of_ble_eq_true rfl)) (fun whs20 hs20 => ?_)
      refine WL.nil ⟨(St.drop hs20 (List.sublist_append_right [_, _] _)), ?_⟩
      refine WH.done (by kernel_rfl) ?_
      exact ⟨rfl, b15, b17, (St.swap [] hs20), ⟨rfl, rfl, rfl, rfl, rfl, rfl, rfl, rfl, rfl, trivial⟩⟩
    · refine WL.alloc hs14 Try.zeroValue40 rfl rfl rfl rfl rfl (fun b21 whs22 hs22 => ?_)
      refine WL.nil ⟨(St.drop hs22 (List.sublist_append_right [_] _)), ?_⟩
      refine WH.all [2] (by kernel_rfl) rfl (WHs.cons (i := 2) rfl ?_ WHs.nil)
      refine WL.alloc hs22 Try.zeroValue40 rfl rfl rfl rfl rfl (fun b23 whs24 hs24 => ?_)
      refine WL.nil ⟨(St.drop hs24 (List.sublist_append_right [_, _] _)), ?_⟩
      refine WH.all [4] (by kernel_rfl) rfl (WHs.cons (i := 4) rfl ?_ WHs.nil)
      refine WL.storeA hs24 0 Try.sizeOf40 rfl rfl rfl rfl rfl rfl rfl rfl rfl (Nat.le_of_ble_eq_true rfl) (.inl (Nat.le_of_ble_eq_true rfl)) (fun whs25 hs25 => ?_)
      refine WL.nil ⟨(St.drop hs25 (List.sublist_append_right [_, _] _)), ?_⟩
      refine WH.all [5] (by kernel_rfl) rfl (WHs.cons (i := 5) rfl ?_ WHs.nil)
      refine WL.storeA hs25 1 Try.sizeOf40 rfl rfl rfl rfl rfl rfl rfl rfl rfl (Nat.le_of_ble_eq_true rfl) (.inl (Nat.le_of_ble_eq_true rfl)) (fun whs26 hs26 => ?_)
      refine WL.nil ⟨(St.drop hs26 (List.sublist_append_right [_, _] _)), ?_⟩
      refine WH.done (by kernel_rfl) ?_
      exact ⟨rfl, b23, b21, hs26, ⟨rfl, rfl, rfl, rfl, rfl, rfl, rfl, rfl, rfl, trivial⟩⟩
  · rintro f_hs27 whs27 ⟨b12, b13, hs27, hG28⟩
    replace hs27 : St _ _ _ _ := hs27
    refine tkN ?_
    refine hK11 _ _ ?_
    refine WC.sub _ hG28 ?_
    clear hK11
    refine WC.seq (fun K29 hK29 => ?_)
    refine WC.region ?_
    refine WL.val rfl rfl rfl (Run.field Try.runUnderlying40 rfl rfl rfl Try.sizeOf3 rfl) ?_
    refine WL.val rfl rfl rfl (Run.loadL hs27 4 Try.isAgg3 rfl rfl rfl rfl) ?_
    refine WL.val rfl rfl rfl (Run.assign rfl rfl) ?_
    refine WL.nil ?_
    refine tkN ?_
    refine hK29 _ _ ?_
    clear hK29
    refine WC.seq (fun K30 hK30 => ?_)
    refine WC.seq (fun K31 hK31 => ?_)
    refine WC.region ?_
    refine WL.val rfl rfl rfl (Run.field Try.runUnderlying62 rfl rfl rfl Try.sizeOf4 rfl) ?_
    refine WL.val rfl rfl rfl (Run.loadL hs27 5 Try.isAgg4 rfl rfl rfl rfl) ?_
    refine WL.nil ?_
    refine tkN ?_
    refine hK31 _ _ ?_
    clear hK31
    refine WC.cond rfl (fun h32 => ?_) (fun h32 => ?_)
    · have qh32 := h32
      try simp only [decide_eq_true_eq, decide_eq_false_iff_not, Bool.not_eq_true', Bool.not_eq_false', Bool.and_eq_true, Bool.or_eq_false_iff, within_iff, within_not] at qh32
      have hd : n_Down = true := qh32
      have e1 : firstR (⟨n_Pane, n_Down, n_First⟩ : NodeD) (⟨r_Pane, r_X, r_Y, r_W, r_H⟩ : RectD) = ⟨r_Pane, r_X, r_Y, r_W, min n_First (r_H - 2)⟩ := by simp [firstR, hd]
      have e2 : secondR (⟨n_Pane, n_Down, n_First⟩ : NodeD) (⟨r_Pane, r_X, r_Y, r_W, r_H⟩ : RectD) = ⟨r_Pane, r_X, r_Y + min n_First (r_H - 2) + 1, r_W, r_H - min n_First (r_H - 2) - 1⟩ := by simp [secondR, hd]
      have e3 : sizeR (⟨n_Pane, n_Down, n_First⟩ : NodeD) (⟨r_Pane, r_X, r_Y, r_W, r_H⟩ : RectD) = r_H := by simp [sizeR, hd]
      refine WC.region ?_
      refine WL.val rfl rfl rfl (Run.field Try.runUnderlying40 rfl rfl rfl Try.sizeOf3 rfl) ?_
      refine WL.val rfl rfl rfl (Run.loadL hs27 4 Try.isAgg3 rfl rfl rfl rfl) ?_
      refine WL.val rfl rfl rfl (Run.assign rfl rfl) ?_
      refine WL.nil ?_
      refine tkN ?_
      refine hK30 _ _ ?_
      clear hK30
      refine WC.seq (fun K33 hK33 => ?_)
      refine WC.region ?_
      refine WL.val rfl rfl rfl (Run.field Try.runUnderlying62 rfl rfl rfl Try.sizeOf3 rfl) ?_
      refine WL.val rfl rfl rfl (Run.loadL hs27 5 Try.isAgg3 rfl rfl rfl rfl) ?_
      refine WL.val rfl rfl rfl (Run.move rfl rfl) ?_
      refine WL.val rfl rfl rfl (Run.sub rfl rfl rfl ?_) ?_
      · constructor <;> omega
      refine WL.val rfl rfl rfl (Run.min rfl rfl rfl) ?_
      refine WL.val rfl rfl rfl (Run.assign rfl rfl) ?_
      refine WL.nil ?_
      refine tkN ?_
      refine hK33 _ _ ?_
      clear hK33
      refine WC.seq (fun K34 hK34 => ?_)
      refine WC.seq (fun K35 hK35 => ?_)
      refine WC.region ?_
      refine WL.val rfl rfl rfl (Run.field Try.runUnderlying62 rfl rfl rfl Try.sizeOf4 rfl) ?_
      refine WL.val rfl rfl rfl (Run.loadL hs27 5 Try.isAgg4 rfl rfl rfl rfl) ?_
      refine WL.nil ?_
      refine tkN ?_
      refine hK35 _ _ ?_
      clear hK35
      refine WC.condT rfl h32 ?_
      apply WC.join0 ((b12, .cells (List.toArray [i64 (r_Pane), i64 (r_X), i64 (r_Y), i64 (r_W), i64 (min n_First (r_H - 2))]) _ _) :: (b13, .cells (List.toArray [i64 (r_Pane), i64 (r_X), i64 (r_Y + min n_First (r_H - 2) + 1), i64 (r_W), i64 (r_H - min n_First (r_H - 2) - 1)]) _ _) :: (b9, _) :: (b7, _) :: (b5, _) :: (b3, _) :: _) ([(0, _), (1, _), (2, _), (3, _), (4, _), (5, _), (6, _), (7, _), (8, _), (9, _), (10, _), (13, _), (14, _), (15, _), (16, _), (17, _), (18, _), (19, _), (20, _), (21, _), (22, _), (23, _), (24, _), (25, _)])
      · refine WC.regionH2 (fun w' => St _ _ _ w') (fun w' => St _ _ _ w') mixed (St.drew (St.drop hs27 (List.sublist_append_right [_, _] _))) (St.drew hs27) (fun whs37 hs37 => ?_)
        replace hs37 : St _ _ _ _ := hs37
        refine WH.take 0 rfl (by kernel_rfl) rfl rfl rfl (St.drop hs37 (List.sublist_append_right [_, _] _)) (fun w_ hs_ => (Run.move rfl rfl)) ?_
        refine WH.take 1 rfl (by kernel_rfl) rfl rfl rfl (St.drop hs37 (List.sublist_append_right [_, _] _)) (fun w_ hs_ => (Run.field Try.runUnderlying40 rfl rfl rfl Try.sizeOf3 rfl)) ?_
        refine WH.take 2 rfl (by kernel_rfl) rfl rfl rfl (St.drop hs37 (List.sublist_append_right [_, _] _)) (fun w_ hs_ => (Run.loadL (hs_ : St _ _ _ _) 2 Try.isAgg3 rfl rfl rfl rfl)) ?_
        refine WH.take 3 rfl (by kernel_rfl) rfl rfl rfl (St.drop hs37 (List.sublist_append_right [_, _] _)) (fun w_ hs_ => (Run.move rfl rfl)) ?_
        refine WH.take 4 rfl (by kernel_rfl) rfl rfl rfl (St.drop hs37 (List.sublist_append_right [_, _] _)) (fun w_ hs_ => (Run.add rfl rfl rfl ?_)) ?_
        · constructor <;> omega
        refine WH.take 5 rfl (by kernel_rfl) rfl rfl rfl (St.drop hs37 (List.sublist_append_right [_, _] _)) (fun w_ hs_ => (Run.add rfl rfl rfl ?_)) ?_
        · constructor <;> omega
        refine WH.take 6 rfl (by kernel_rfl) rfl rfl rfl (St.drop hs37 (List.sublist_append_right [_, _] _)) (fun w_ hs_ => (Run.move rfl rfl)) ?_
        refine WH.take 7 rfl (by kernel_rfl) rfl rfl rfl (St.drop hs37 (List.sublist_append_right [_, _] _)) (fun w_ hs_ => (Run.move rfl rfl)) ?_
        refine WH.take 8 rfl (by kernel_rfl) rfl rfl rfl (St.drop hs37 (List.sublist_append_right [_, _] _)) (fun w_ hs_ => (Run.sub rfl rfl rfl ?_)) ?_
        · constructor <;> omega
        refine WH.take 9 rfl (by kernel_rfl) rfl rfl rfl (St.drop hs37 (List.sublist_append_right [_, _] _)) (fun w_ hs_ => (Run.sub rfl rfl rfl ?_)) ?_
        · constructor <;> omega
        refine WH.take 10 rfl (by kernel_rfl) rfl rfl rfl (St.drop hs37 (List.sublist_append_right [_, _] _)) (fun w_ hs_ => (Run.field Try.runUnderlying40 rfl rfl rfl Try.sizeOf3 rfl)) ?_
        refine WH.all [11] (by kernel_rfl) rfl (WHs.cons (i := 11) rfl ?_ WHs.nil)
        refine WL.store hs37 0 Try.sizeOf3 rfl rfl rfl rfl rfl rfl rfl rfl rfl rfl (fun whs38 hs38 => ?_)
        refine WL.nil ⟨(St.drop hs38 (List.sublist_append_right [_, _] _)), ?_⟩
        refine WH.take 12 rfl (by kernel_rfl) rfl rfl rfl (St.drop hs38 (List.sublist_append_right [_, _] _)) (fun w_ hs_ => (Run.field Try.runUnderlying40 rfl rfl rfl Try.sizeOf3 rfl)) ?_
        refine WH.all [13] (by kernel_rfl) rfl (WHs.cons (i := 13) rfl ?_ WHs.nil)
        refine WL.store hs38 1 Try.sizeOf3 rfl rfl rfl rfl rfl rfl rfl rfl rfl rfl (fun whs39 hs39 => ?_)
        refine WL.nil ⟨(St.drop hs39 (List.sublist_append_right [_, _] _)), ?_⟩
        refine WH.take 14 rfl (by kernel_rfl) rfl rfl rfl (St.drop hs39 (List.sublist_append_right [_, _] _)) (fun w_ hs_ => (Run.field Try.runUnderlying40 rfl rfl rfl Try.sizeOf3 rfl)) ?_
        refine WH.all [15] (by kernel_rfl) rfl (WHs.cons (i := 15) rfl ?_ WHs.nil)
        refine WL.store hs39 1 Try.sizeOf3 rfl rfl rfl rfl rfl rfl rfl rfl rfl rfl (fun whs40 hs40 => ?_)
        refine WL.nil ⟨(St.drop hs40 (List.sublist_append_right [_, _] _)), ?_⟩
        refine WH.done (by kernel_rfl) ?_
        exact ⟨rfl, hs40, ⟨rfl, rfl, rfl, rfl, rfl, rfl, rfl, rfl, rfl, rfl, rfl, rfl, rfl, rfl, rfl, rfl, rfl, rfl, rfl, rfl, rfl, rfl, rfl, rfl, trivial⟩⟩
      · rintro f_hs41 whs41 ⟨hs41, hG42⟩
        replace hs41 : St _ _ _ _ := hs41
        refine tkN ?_
        refine hK34 _ _ ?_
        refine WC.sub _ hG42 ?_
        clear hK34
        refine WC.seq (fun K43 hK43 => ?_)
        apply WC.join0 ((b12, _) :: (b13, _) :: (b9, .cells (List.toArray [i64 (r_Pane), i64 (r_X), i64 (r_Y + min n_First (r_H - 2) + 1), i64 (r_W), i64 (r_H - min n_First (r_H - 2) - 1)]) _ _) :: (b7, .cells (List.toArray [i64 (r_Pane), i64 (r_X), i64 (r_Y), i64 (r_W), i64 (min n_First (r_H - 2))]) _ _) :: (b5, _) :: (b3, _) :: _) ([(0, _), (1, _), (2, _), (3, _), (4, _), (5, _), (7, _), (8, _), (9, _), (10, _), (13, _), (14, _), (15, _), (16, _), (17, _), (18, _), (19, _), (20, _), (21, _), (22, _), (23, _), (24, _), (25, _), (6, _)])
        · refine WC.regionH2 (fun w' => St _ _ _ w') (fun w' => St _ _ _ w') mixed (St.drew (St.drop hs41 (List.Sublist.cons_cons _ (List.Sublist.cons_cons _ (List.Sublist.cons _ (List.Sublist.cons _ (List.Sublist.cons_cons _ (List.Sublist.cons_cons _ (List.Sublist.refl _))))))))) (St.drew hs41) (fun whs44 hs44 => ?_)
          replace hs44 : St _ _ _ _ := hs44
          refine WH.take 0 rfl (by kernel_rfl) rfl rfl rfl (St.drop hs44 (List.Sublist.cons_cons _ (List.Sublist.cons_cons _ (List.Sublist.cons _ (List.Sublist.cons _ (List.Sublist.cons_cons _ (List.Sublist.cons_cons _ (List.Sublist.refl _)))))))) (fun w_ hs_ => (Run.loadLA (hs_ : St _ _ _ _) 0 Try.isAgg40 Try.sizeOf40 rfl rfl rfl rfl rfl)) ?_
          refine WH.take 1 rfl (by kernel_rfl) rfl rfl rfl (St.drop hs44 (List.Sublist.cons_cons _ (List.Sublist.cons_cons _ (List.Sublist.cons _ (List.Sublist.cons _ (List.Sublist.cons_cons _ (List.Sublist.cons_cons _ (List.Sublist.refl _)))))))) (fun w_ hs_ => (Run.loadLA (hs_ : St _ _ _ _) 1 Try.isAgg40 Try.sizeOf40 rfl rfl rfl rfl rfl)) ?_
          refine WH.take 2 rfl (by kernel_rfl) rfl rfl rfl (St.drop hs44 (List.Sublist.cons_cons _ (List.Sublist.cons_cons _ (List.Sublist.cons _ (List.Sublist.cons _ (List.Sublist.cons_cons _ (List.Sublist.cons_cons _ (List.Sublist.refl _)))))))) (fun w_ hs_ => (Run.move rfl rfl)) ?_
          refine WH.take 3 rfl (by kernel_rfl) rfl rfl rfl (St.drop hs44 (List.Sublist.cons_cons _ (List.Sublist.cons_cons _ (List.Sublist.cons _ (List.Sublist.cons _ (List.Sublist.cons_cons _ (List.Sublist.cons_cons _ (List.Sublist.refl _)))))))) (fun w_ hs_ => (Run.geq rfl rfl rfl)) ?_
          refine WH.all [4] (by kernel_rfl) rfl (WHs.cons (i := 4) rfl ?_ WHs.nil)
          refine WL.storeA hs44 3 Try.sizeOf40 rfl rfl rfl rfl rfl rfl rfl rfl rfl (Nat.le_of_ble_eq_true rfl) (.inl (Nat.le_of_ble_eq_true rfl)) (fun whs45 hs45 => ?_)
          refine WL.nil ⟨(St.drop hs45 (List.Sublist.cons_cons _ (List.Sublist.cons_cons _ (List.Sublist.cons _ (List.Sublist.cons _ (List.Sublist.cons_cons _ (List.Sublist.cons_cons _ (List.Sublist.refl _)))))))), ?_⟩
          refine WH.all [5] (by kernel_rfl) rfl (WHs.cons (i := 5) rfl ?_ WHs.nil)
          refine WL.storeA hs45 2 Try.sizeOf40 rfl rfl rfl rfl rfl rfl rfl rfl rfl (Nat.le_of_ble_eq_true rfl) (.inl (Nat.le_of_ble_eq_true rfl)) (fun whs46 hs46 => ?_)
          refine WL.nil ⟨(St.drop hs46 (List.Sublist.cons_cons _ (List.Sublist.cons_cons _ (List.Sublist.cons _ (List.Sublist.cons _ (List.Sublist.cons_cons _ (List.Sublist.cons_cons _ (List.Sublist.refl _)))))))), ?_⟩
          refine WH.take 6 rfl (by kernel_rfl) rfl rfl rfl (St.drop hs46 (List.Sublist.cons_cons _ (List.Sublist.cons_cons _ (List.Sublist.cons _ (List.Sublist.cons _ (List.Sublist.cons_cons _ (List.Sublist.cons_cons _ (List.Sublist.refl _)))))))) (fun w_ hs_ => (Run.assign rfl rfl)) ?_
          refine WH.done (by kernel_rfl) ?_
          exact ⟨rfl, hs46, ⟨rfl, rfl, rfl, rfl, rfl, rfl, rfl, rfl, rfl, rfl, rfl, rfl, rfl, rfl, rfl, rfl, rfl, rfl, rfl, rfl, rfl, rfl, rfl, rfl, trivial⟩⟩
        · rintro f_hs47 whs47 ⟨hs47, hG48⟩
          replace hs47 : St _ _ _ _ := hs47
          refine tkN ?_
          refine hK43 _ _ ?_
          refine WC.sub _ hG48 ?_
          clear hK43
          refine WC.ret ?_
          refine retV3 rfl (resV.cell rfl (run_loadVarA Try.isAgg40 Try.sizeOf40 (cells_of_heap (hs47.own _ (nthL_mem (i := 3) rfl)).1 rfl rfl))) (resV.cell rfl (run_loadVarA Try.isAgg40 Try.sizeOf40 (cells_of_heap (hs47.own _ (nthL_mem (i := 2) rfl)).1 rfl rfl))) (resV.tmp rfl) ?_
          refine ⟨congrArg Ending.returned ?_, hs47.nil⟩
          rw [e1, e2, e3]; rfl
    · have qh32 := h32
      try simp only [decide_eq_true_eq, decide_eq_false_iff_not, Bool.not_eq_true', Bool.not_eq_false', Bool.and_eq_true, Bool.or_eq_false_iff, within_iff, within_not] at qh32
      have hd : n_Down = false := qh32
      have e1 : firstR (⟨n_Pane, n_Down, n_First⟩ : NodeD) (⟨r_Pane, r_X, r_Y, r_W, r_H⟩ : RectD) = ⟨r_Pane, r_X, r_Y, min n_First (r_W - 2), r_H⟩ := by simp [firstR, hd]
      have e2 : secondR (⟨n_Pane, n_Down, n_First⟩ : NodeD) (⟨r_Pane, r_X, r_Y, r_W, r_H⟩ : RectD) = ⟨r_Pane, r_X + min n_First (r_W - 2) + 1, r_Y, r_W - min n_First (r_W - 2) - 1, r_H⟩ := by simp [secondR, hd]
      have e3 : sizeR (⟨n_Pane, n_Down, n_First⟩ : NodeD) (⟨r_Pane, r_X, r_Y, r_W, r_H⟩ : RectD) = r_W := by simp [sizeR, hd]
      refine WC.skip ?_
      refine tkN ?_
      refine hK30 _ _ ?_
      clear hK30
      refine WC.seq (fun K49 hK49 => ?_)
      refine WC.region ?_
      refine WL.val rfl rfl rfl (Run.field Try.runUnderlying62 rfl rfl rfl Try.sizeOf3 rfl) ?_
      refine WL.val rfl rfl rfl (Run.loadL hs27 5 Try.isAgg3 rfl rfl rfl rfl) ?_
      refine WL.val rfl rfl rfl (Run.move rfl rfl) ?_
      refine WL.val rfl rfl rfl (Run.sub rfl rfl rfl ?_) ?_
      · constructor <;> omega
      refine WL.val rfl rfl rfl (Run.min rfl rfl rfl) ?_
      refine WL.val rfl rfl rfl (Run.assign rfl rfl) ?_
      refine WL.nil ?_
      refine tkN ?_
      refine hK49 _ _ ?_
      clear hK49
      refine WC.seq (fun K50 hK50 => ?_)
      refine WC.seq (fun K51 hK51 => ?_)
      refine WC.region ?_
      refine WL.val rfl rfl rfl (Run.field Try.runUnderlying62 rfl rfl rfl Try.sizeOf4 rfl) ?_
      refine WL.val rfl rfl rfl (Run.loadL hs27 5 Try.isAgg4 rfl rfl rfl rfl) ?_
      refine WL.nil ?_
      refine tkN ?_
      refine hK51 _ _ ?_
      clear hK51
      refine WC.condF rfl h32 ?_
      apply WC.join0 ((b12, .cells (List.toArray [i64 (r_Pane), i64 (r_X), i64 (r_Y), i64 (min n_First (r_W - 2)), i64 (r_H)]) _ _) :: (b13, .cells (List.toArray [i64 (r_Pane), i64 (r_X + min n_First (r_W - 2) + 1), i64 (r_Y), i64 (r_W - min n_First (r_W - 2) - 1), i64 (r_H)]) _ _) :: (b9, _) :: (b7, _) :: (b5, _) :: (b3, _) :: _) ([(0, _), (1, _), (2, _), (3, _), (4, _), (5, _), (6, _), (7, _), (8, _), (9, _), (10, _), (13, _), (14, _), (15, _), (16, _), (19, _), (20, _), (21, _), (22, _), (23, _), (24, _), (25, _)])
      · refine WC.regionH2 (fun w' => St _ _ _ w') (fun w' => St _ _ _ w') mixed (St.drew (St.drop hs27 (List.sublist_append_right [_, _] _))) (St.drew hs27) (fun whs53 hs53 => ?_)
        replace hs53 : St _ _ _ _ := hs53
        refine WH.take 0 rfl (by kernel_rfl) rfl rfl rfl (St.drop hs53 (List.sublist_append_right [_, _] _)) (fun w_ hs_ => (Run.move rfl rfl)) ?_
        refine WH.take 1 rfl (by kernel_rfl) rfl rfl rfl (St.drop hs53 (List.sublist_append_right [_, _] _)) (fun w_ hs_ => (Run.field Try.runUnderlying40 rfl rfl rfl Try.sizeOf3 rfl)) ?_
        refine WH.take 2 rfl (by kernel_rfl) rfl rfl rfl (St.drop hs53 (List.sublist_append_right [_, _] _)) (fun w_ hs_ => (Run.loadL (hs_ : St _ _ _ _) 2 Try.isAgg3 rfl rfl rfl rfl)) ?_
        refine WH.take 3 rfl (by kernel_rfl) rfl rfl rfl (St.drop hs53 (List.sublist_append_right [_, _] _)) (fun w_ hs_ => (Run.move rfl rfl)) ?_
        refine WH.take 4 rfl (by kernel_rfl) rfl rfl rfl (St.drop hs53 (List.sublist_append_right [_, _] _)) (fun w_ hs_ => (Run.add rfl rfl rfl ?_)) ?_
        · constructor <;> omega
        refine WH.take 5 rfl (by kernel_rfl) rfl rfl rfl (St.drop hs53 (List.sublist_append_right [_, _] _)) (fun w_ hs_ => (Run.add rfl rfl rfl ?_)) ?_
        · constructor <;> omega
        refine WH.take 6 rfl (by kernel_rfl) rfl rfl rfl (St.drop hs53 (List.sublist_append_right [_, _] _)) (fun w_ hs_ => (Run.move rfl rfl)) ?_
        refine WH.take 7 rfl (by kernel_rfl) rfl rfl rfl (St.drop hs53 (List.sublist_append_right [_, _] _)) (fun w_ hs_ => (Run.move rfl rfl)) ?_
        refine WH.take 8 rfl (by kernel_rfl) rfl rfl rfl (St.drop hs53 (List.sublist_append_right [_, _] _)) (fun w_ hs_ => (Run.sub rfl rfl rfl ?_)) ?_
        · constructor <;> omega
        refine WH.take 9 rfl (by kernel_rfl) rfl rfl rfl (St.drop hs53 (List.sublist_append_right [_, _] _)) (fun w_ hs_ => (Run.sub rfl rfl rfl ?_)) ?_
        · constructor <;> omega
        refine WH.take 10 rfl (by kernel_rfl) rfl rfl rfl (St.drop hs53 (List.sublist_append_right [_, _] _)) (fun w_ hs_ => (Run.field Try.runUnderlying40 rfl rfl rfl Try.sizeOf3 rfl)) ?_
        refine WH.all [11] (by kernel_rfl) rfl (WHs.cons (i := 11) rfl ?_ WHs.nil)
        refine WL.store hs53 0 Try.sizeOf3 rfl rfl rfl rfl rfl rfl rfl rfl rfl rfl (fun whs54 hs54 => ?_)
        refine WL.nil ⟨(St.drop hs54 (List.sublist_append_right [_, _] _)), ?_⟩
        refine WH.take 12 rfl (by kernel_rfl) rfl rfl rfl (St.drop hs54 (List.sublist_append_right [_, _] _)) (fun w_ hs_ => (Run.field Try.runUnderlying40 rfl rfl rfl Try.sizeOf3 rfl)) ?_
        refine WH.all [13] (by kernel_rfl) rfl (WHs.cons (i := 13) rfl ?_ WHs.nil)
        refine WL.store hs54 1 Try.sizeOf3 rfl rfl rfl rfl rfl rfl rfl rfl rfl rfl (fun whs55 hs55 => ?_)
        refine WL.nil ⟨(St.drop hs55 (List.sublist_append_right [_, _] _)), ?_⟩
        refine WH.take 14 rfl (by kernel_rfl) rfl rfl rfl (St.drop hs55 (List.sublist_append_right [_, _] _)) (fun w_ hs_ => (Run.field Try.runUnderlying40 rfl rfl rfl Try.sizeOf3 rfl)) ?_
        refine WH.all [15] (by kernel_rfl) rfl (WHs.cons (i := 15) rfl ?_ WHs.nil)
        refine WL.store hs55 1 Try.sizeOf3 rfl rfl rfl rfl rfl rfl rfl rfl rfl rfl (fun whs56 hs56 => ?_)
        refine WL.nil ⟨(St.drop hs56 (List.sublist_append_right [_, _] _)), ?_⟩
        refine WH.done (by kernel_rfl) ?_
        exact ⟨rfl, hs56, ⟨rfl, rfl, rfl, rfl, rfl, rfl, rfl, rfl, rfl, rfl, rfl, rfl, rfl, rfl, rfl, rfl, rfl, rfl, rfl, rfl, rfl, rfl, trivial⟩⟩
      · rintro f_hs57 whs57 ⟨hs57, hG58⟩
        replace hs57 : St _ _ _ _ := hs57
        refine tkN ?_
        refine hK50 _ _ ?_
        refine WC.sub _ hG58 ?_
        clear hK50
        refine WC.seq (fun K59 hK59 => ?_)
        apply WC.join0 ((b12, _) :: (b13, _) :: (b9, .cells (List.toArray [i64 (r_Pane), i64 (r_X + min n_First (r_W - 2) + 1), i64 (r_Y), i64 (r_W - min n_First (r_W - 2) - 1), i64 (r_H)]) _ _) :: (b7, .cells (List.toArray [i64 (r_Pane), i64 (r_X), i64 (r_Y), i64 (min n_First (r_W - 2)), i64 (r_H)]) _ _) :: (b5, _) :: (b3, _) :: _) ([(0, _), (1, _), (2, _), (3, _), (4, _), (5, _), (7, _), (8, _), (9, _), (10, _), (13, _), (14, _), (15, _), (16, _), (19, _), (20, _), (21, _), (22, _), (23, _), (24, _), (25, _), (6, _)])
        · refine WC.regionH2 (fun w' => St _ _ _ w') (fun w' => St _ _ _ w') mixed (St.drew (St.drop hs57 (List.Sublist.cons_cons _ (List.Sublist.cons_cons _ (List.Sublist.cons _ (List.Sublist.cons _ (List.Sublist.cons_cons _ (List.Sublist.cons_cons _ (List.Sublist.refl _))))))))) (St.drew hs57) (fun whs60 hs60 => ?_)
          replace hs60 : St _ _ _ _ := hs60
          refine WH.take 0 rfl (by kernel_rfl) rfl rfl rfl (St.drop hs60 (List.Sublist.cons_cons _ (List.Sublist.cons_cons _ (List.Sublist.cons _ (List.Sublist.cons _ (List.Sublist.cons_cons _ (List.Sublist.cons_cons _ (List.Sublist.refl _)))))))) (fun w_ hs_ => (Run.loadLA (hs_ : St _ _ _ _) 0 Try.isAgg40 Try.sizeOf40 rfl rfl rfl rfl rfl)) ?_
          refine WH.take 1 rfl (by kernel_rfl) rfl rfl rfl (St.drop hs60 (List.Sublist.cons_cons _ (List.Sublist.cons_cons _ (List.Sublist.cons _ (List.Sublist.cons _ (List.Sublist.cons_cons _ (List.Sublist.cons_cons _ (List.Sublist.refl _)))))))) (fun w_ hs_ => (Run.loadLA (hs_ : St _ _ _ _) 1 Try.isAgg40 Try.sizeOf40 rfl rfl rfl rfl rfl)) ?_
          refine WH.take 2 rfl (by kernel_rfl) rfl rfl rfl (St.drop hs60 (List.Sublist.cons_cons _ (List.Sublist.cons_cons _ (List.Sublist.cons _ (List.Sublist.cons _ (List.Sublist.cons_cons _ (List.Sublist.cons_cons _ (List.Sublist.refl _)))))))) (fun w_ hs_ => (Run.move rfl rfl)) ?_
          refine WH.take 3 rfl (by kernel_rfl) rfl rfl rfl (St.drop hs60 (List.Sublist.cons_cons _ (List.Sublist.cons_cons _ (List.Sublist.cons _ (List.Sublist.cons _ (List.Sublist.cons_cons _ (List.Sublist.cons_cons _ (List.Sublist.refl _)))))))) (fun w_ hs_ => (Run.geq rfl rfl rfl)) ?_
          refine WH.all [4] (by kernel_rfl) rfl (WHs.cons (i := 4) rfl ?_ WHs.nil)
          refine WL.storeA hs60 3 Try.sizeOf40 rfl rfl rfl rfl rfl rfl rfl rfl rfl (Nat.le_of_ble_eq_true rfl) (.inl (Nat.le_of_ble_eq_true rfl)) (fun whs61 hs61 => ?_)
          refine WL.nil ⟨(St.drop hs61 (List.Sublist.cons_cons _ (List.Sublist.cons_cons _ (List.Sublist.cons _ (List.Sublist.cons _ (List.Sublist.cons_cons _ (List.Sublist.cons_cons _ (List.Sublist.refl _)))))))), ?_⟩
          refine WH.all [5] (by kernel_rfl) rfl (WHs.cons (i := 5) rfl ?_ WHs.nil)
          refine WL.storeA hs61 2 Try.sizeOf40 rfl rfl rfl rfl rfl rfl rfl rfl rfl (Nat.le_of_ble_eq_true rfl) (.inl (Nat.le_of_ble_eq_true rfl)) (fun whs62 hs62 => ?_)
          refine WL.nil ⟨(St.drop hs62 (List.Sublist.cons_cons _ (List.Sublist.cons_cons _ (List.Sublist.cons _ (List.Sublist.cons _ (List.Sublist.cons_cons _ (List.Sublist.cons_cons _ (List.Sublist.refl _)))))))), ?_⟩
          refine WH.take 6 rfl (by kernel_rfl) rfl rfl rfl (St.drop hs62 (List.Sublist.cons_cons _ (List.Sublist.cons_cons _ (List.Sublist.cons _ (List.Sublist.cons _ (List.Sublist.cons_cons _ (List.Sublist.cons_cons _ (List.Sublist.refl _)))))))) (fun w_ hs_ => (Run.assign rfl rfl)) ?_
          refine WH.done (by kernel_rfl) ?_
          exact ⟨rfl, hs62, ⟨rfl, rfl, rfl, rfl, rfl, rfl, rfl, rfl, rfl, rfl, rfl, rfl, rfl, rfl, rfl, rfl, rfl, rfl, rfl, rfl, rfl, rfl, trivial⟩⟩
        · rintro f_hs63 whs63 ⟨hs63, hG64⟩
          replace hs63 : St _ _ _ _ := hs63
          refine tkN ?_
          refine hK59 _ _ ?_
          refine WC.sub _ hG64 ?_
          clear hK59
          refine WC.ret ?_
          refine retV3 rfl (resV.cell rfl (run_loadVarA Try.isAgg40 Try.sizeOf40 (cells_of_heap (hs63.own _ (nthL_mem (i := 3) rfl)).1 rfl rfl))) (resV.cell rfl (run_loadVarA Try.isAgg40 Try.sizeOf40 (cells_of_heap (hs63.own _ (nthL_mem (i := 2) rfl)).1 rfl rfl))) (resV.tmp rfl) ?_
          refine ⟨congrArg Ending.returned ?_, hs63.nil⟩
          rw [e1, e2, e3]; rfl
theorem c_spec_l13First (f : Int) (n : Int) (w : World) (hb : -1000000 ≤ n ∧ n ≤ 1000000) :
    Calls Try.prog 82 #[i64 f, i64 n] w fun e w' => e = .returned (.int .i64 (min f (n - 2))) ∧ St w [] [] w' := by
  refine enter (vs := [i64 f, i64 n]) 12 Try.func82 rfl Try.ntmps82 rfl rfl ?_
  have hs1 := St.init w
  refine WC.seq (fun K2 hK2 => ?_)
  refine WC.region ?_
  refine WL.val rfl rfl rfl (Run.assign rfl rfl) ?_
  refine WL.nil ?_
  refine tkN ?_
  refine hK2 _ _ ?_
  clear hK2
  refine WC.seq (fun K3 hK3 => ?_)
  refine WC.seq (fun K4 hK4 => ?_)
  refine WC.region ?_
  refine WL.val rfl rfl rfl (Run.move rfl rfl) ?_
  refine WL.val rfl rfl rfl (Run.move rfl rfl) ?_
  refine WL.val rfl rfl rfl (Run.sub rfl rfl rfl ?_) ?_
  · constructor <;> omega
  refine WL.val rfl rfl rfl (Run.gtr rfl rfl rfl) ?_
  refine WL.nil ?_
  refine tkN ?_
  refine hK4 _ _ ?_
  clear hK4
  refine WC.cond rfl (fun h5 => ?_) (fun h5 => ?_)
  · have qh5 := h5
    try simp only [decide_eq_true_eq, decide_eq_false_iff_not, Bool.not_eq_true', Bool.not_eq_false', Bool.and_eq_true, Bool.or_eq_false_iff, within_iff, within_not] at qh5
    refine WC.seq (fun K6 hK6 => ?_)
    refine WC.region ?_
    refine WL.val rfl rfl rfl (Run.move rfl rfl) ?_
    refine WL.val rfl rfl rfl (Run.sub rfl rfl rfl ?_) ?_
    · constructor <;> omega
    refine WL.val rfl rfl rfl (Run.assign rfl rfl) ?_
    refine WL.nil ?_
    refine tkN ?_
    refine hK6 _ _ ?_
    clear hK6
    refine WC.ret ?_
    refine tkR ?_
    clear hK3
    refine retV1 rfl (resV.tmp rfl) ?_
    refine ⟨congrArg Ending.returned ?_, hs1.nil⟩
    refine congrArg (Value.int .i64) ?_; omega
  · have qh5 := h5
    try simp only [decide_eq_true_eq, decide_eq_false_iff_not, Bool.not_eq_true', Bool.not_eq_false', Bool.and_eq_true, Bool.or_eq_false_iff, within_iff, within_not] at qh5
    refine WC.skip ?_
    refine tkN ?_
    refine hK3 _ _ ?_
    clear hK3
    refine WC.seq (fun K7 hK7 => ?_)
    refine WC.region ?_
    refine WL.val rfl rfl rfl (Run.move rfl rfl) ?_
    refine WL.val rfl rfl rfl (Run.assign rfl rfl) ?_
    refine WL.nil ?_
    refine tkN ?_
    refine hK7 _ _ ?_
    clear hK7
    refine WC.ret ?_
    refine retV1 rfl (resV.tmp rfl) ?_
    refine ⟨congrArg Ending.returned ?_, hs1.nil⟩
    refine congrArg (Value.int .i64) ?_; omega
set_option maxHeartbeats 2000000 in
theorem c_spec_l13Place_rec (m_ : Nat) : ∀ (A_t : Option Addr) (n_t c_t : Nat) (t : List NodeD) (at_ : Int) (i : Nat) (r_Pane : Int) (r_X : Int) (r_Y : Int) (r_W : Int) (r_H : Int) (S : Tr) (w : World) (f_t : SlF encNode w A_t n_t t) (hn : n_t ≤ 268435456) (hat : at_ = (i : Int)) (hS : At t i S) (hr : Fine (⟨r_Pane, r_X, r_Y, r_W, r_H⟩ : RectD)) (hm_ : S.flat.length = m_), Calls Try.prog 79 #[.slice A_t n_t c_t, i64 at_, .agg #[i64 r_Pane, i64 r_X, i64 r_Y, i64 r_W, i64 r_H]] w fun e w' => ∃ A c L1, e = .returned (.tuple #[.slice A ((placeS S (⟨r_Pane, r_X, r_Y, r_W, r_H⟩ : RectD)).1).length c, .bool (placeS S (⟨r_Pane, r_X, r_Y, r_W, r_H⟩ : RectD)).2]) ∧ St w [] L1 w' ∧ OwnF encRect 40 (.slice A ((placeS S (⟨r_Pane, r_X, r_Y, r_W, r_H⟩ : RectD)).1).length c) ((placeS S (⟨r_Pane, r_X, r_Y, r_W, r_H⟩ : RectD)).1) L1 := by
  induction m_ using Nat.strongRecOn with
  | ind m_ IH =>
    intro A_t n_t c_t t at_ i r_Pane r_X r_Y r_W r_H S w f_t hn hat hS hr hm_
    subst hat
    have hl := f_t.len
    have hlt := hS.lt
    have hnode := hS.ok (gat encNode t i) (by have := hS.head; exact List.mem_of_mem_head? this)
    have hpb := nodeOk_pane hnode
    obtain ⟨hr0, hr1, hr2, hr3, hr4, hr5, hr6⟩ := id hr
    simp only at hr0 hr1 hr2 hr3 hr4 hr5 hr6
    refine enter (vs := [.slice A_t n_t c_t, .int .i64 (i : Int), .agg #[i64 r_Pane, i64 r_X, i64 r_Y, i64 r_W, i64 r_H]]) 102 Try.func79 rfl Try.ntmps79 rfl rfl ?_
    have hs1 := St.init w
    refine WC.seq (fun K2 hK2 => ?_)
    refine WC.region ?_
    refine WL.box hs1 rfl rfl rfl rfl rfl rfl (fun b3 whs4 hs4 => ?_)
    refine WL.val rfl rfl rfl (Run.assign rfl rfl) ?_
    refine WL.val rfl rfl rfl (Run.assign rfl rfl) ?_
    refine WL.nil ?_
    refine tkN ?_
    refine hK2 _ _ ?_
    clear hK2
    refine WC.seq (fun K5 hK5 => ?_)
    refine WC.region ?_
    refine WL.val rfl rfl rfl (Run.move rfl rfl) ?_
    refine WL.val rfl rfl rfl (Run.move rfl rfl) ?_
    refine WL.val rfl rfl rfl (Run.idxN Try.runUnderlying25 Try.sizeOf62 rfl rfl rfl ?_ ?_ ?_) ?_
    · exact SlF.some_ (SlF.st0 f_t hs4)
    · omega
    · omega
    refine WL.val rfl rfl rfl (Run.loadA Try.isAgg62 Try.sizeOf62 rfl rfl (SlF.whole (SlF.st0 f_t hs4) ?_)) ?_
    · omega
    refine WL.alloc hs4 Try.zeroValue62 rfl rfl rfl rfl rfl (fun b6 whs7 hs7 => ?_)
    refine WL.storeA hs7 0 Try.sizeOf62 rfl rfl rfl rfl rfl rfl rfl rfl rfl (Nat.le_of_ble_eq_true rfl) (.inl (Nat.le_of_ble_eq_true rfl)) (fun whs8 hs8 => ?_)
    refine WL.nil ?_
    refine tkN ?_
    refine hK5 _ _ ?_
    clear hK5
    refine WC.seq (fun K9 hK9 => ?_)
    refine WC.seq (fun K10 hK10 => ?_)
    refine WC.region ?_
    refine WL.val rfl rfl rfl (Run.field Try.runUnderlying62 rfl rfl rfl Try.sizeOf3 rfl) ?_
    refine WL.val rfl rfl rfl (Run.loadL hs8 0 Try.isAgg3 rfl rfl rfl rfl) ?_
    refine WL.val rfl rfl rfl (Run.gtr rfl rfl rfl) ?_
    refine WL.nil ?_
    refine tkN ?_
    refine hK10 _ _ ?_
    clear hK10
    refine WC.cond rfl (fun h11 => ?_) (fun h11 => ?_)
    · have qh11 := h11
      try simp only [decide_eq_true_eq, decide_eq_false_iff_not, Bool.not_eq_true', Bool.not_eq_false', Bool.and_eq_true, Bool.or_eq_false_iff, within_iff, within_not] at qh11
      have hlf : isSplit t i = false := by simp [isSplit]; omega
      have hSe := hS.of_leaf hlf
      subst hSe
      refine WC.seq (fun K12 hK12 => ?_)
      refine WC.region ?_
      refine WL.val rfl rfl rfl (Run.field Try.runUnderlying62 rfl rfl rfl Try.sizeOf3 rfl) ?_
      refine WL.val rfl rfl rfl (Run.loadL hs8 0 Try.isAgg3 rfl rfl rfl rfl) ?_
      refine WL.val rfl rfl rfl (Run.field Try.runUnderlying40 rfl rfl rfl Try.sizeOf3 rfl) ?_
      refine WL.store hs8 1 Try.sizeOf3 rfl rfl rfl rfl rfl rfl rfl rfl rfl rfl (fun whs13 hs13 => ?_)
      refine WL.nil ?_
      refine tkN ?_
      refine hK12 _ _ ?_
      clear hK12
      refine WC.seq (fun K14 hK14 => ?_)
      refine WC.region ?_
      refine WL.val rfl rfl rfl (Run.loadLA hs13 1 Try.isAgg40 Try.sizeOf40 rfl rfl rfl rfl rfl) ?_
      refine WL.buildF (F := encRect) hs13 ([⟨(gat encNode t i).Pane, r_X, r_Y, r_W, r_H⟩]) Try.runUnderlying48 Try.sizeOf40 Try.zeroValue40 rfl rfl rfl rfl rfl rfl rfl rfl rfl rfl rfl rfl (fun A18 c19 L15 whs16 hs16 ho17 => ?_)
      replace hs16 := St.back [_, _] hs16
      refine WL.val rfl rfl rfl (Run.assign rfl rfl) ?_
      refine WL.val rfl rfl rfl (Run.assign rfl rfl) ?_
      refine WL.nil ?_
      refine tkN ?_
      refine hK14 _ _ ?_
      clear hK14
      refine WC.ret ?_
      refine tkR ?_
      clear hK9
      refine retV2 rfl (resV.tmp rfl) (resV.tmp rfl) ?_
      exact ⟨_, _, _, rfl, (St.keep1 (St.perm hs16 (L' := L15 ++ _) (perm_front (A := [_, _]) (List.Perm.refl _)))), ho17⟩
    · have qh11 := h11
      try simp only [decide_eq_true_eq, decide_eq_false_iff_not, Bool.not_eq_true', Bool.not_eq_false', Bool.and_eq_true, Bool.or_eq_false_iff, within_iff, within_not] at qh11
      have hsp : isSplit t i = true := by simp [isSplit]; omega
      obtain ⟨n, a, b, rfl⟩ := hS.of_split hsp
      obtain ⟨hn', ha, hb⟩ := hS.parts
      subst hn'
      have hF : 1 ≤ (gat encNode t i).First ∧ (gat encNode t i).First ≤ 120 := by
        have := hnode; rw [nodeOk, if_pos (by simpa [isSplit] using hsp), within_iff] at this; exact this
      have hle := hS.le
      simp only [Tr.flat, List.length_cons, List.length_append] at hle
      refine WC.skip ?_
      refine tkN ?_
      refine hK9 _ _ ?_
      clear hK9
      refine WC.seq (fun K20 hK20 => ?_)
      refine WC.region ?_
      refine WL.val rfl rfl rfl (Run.loadLA hs8 1 Try.isAgg40 Try.sizeOf40 rfl rfl rfl rfl rfl) ?_
      refine WL.alloc hs8 Try.zeroValue40 rfl rfl rfl rfl rfl (fun b21 whs22 hs22 => ?_)
      refine WL.storeA hs22 0 Try.sizeOf40 rfl rfl rfl rfl rfl rfl rfl rfl rfl (Nat.le_of_ble_eq_true rfl) (.inl (Nat.le_of_ble_eq_true rfl)) (fun whs23 hs23 => ?_)
      refine WL.nil ?_
      refine tkN ?_
      refine hK20 _ _ ?_
      clear hK20
      refine WC.seq (fun K24 hK24 => ?_)
      refine WC.region ?_
      refine WL.val rfl rfl rfl (Run.loadLA hs23 2 Try.isAgg40 Try.sizeOf40 rfl rfl rfl rfl rfl) ?_
      refine WL.alloc hs23 Try.zeroValue40 rfl rfl rfl rfl rfl (fun b25 whs26 hs26 => ?_)
      refine WL.storeA hs26 0 Try.sizeOf40 rfl rfl rfl rfl rfl rfl rfl rfl rfl (Nat.le_of_ble_eq_true rfl) (.inl (Nat.le_of_ble_eq_true rfl)) (fun whs27 hs27 => ?_)
      refine WL.nil ?_
      refine tkN ?_
      refine hK24 _ _ ?_
      clear hK24
      refine WC.seq (fun K28 hK28 => ?_)
      refine WC.seq (fun K29 hK29 => ?_)
      refine WC.region ?_
      refine WL.val rfl rfl rfl (Run.field Try.runUnderlying62 rfl rfl rfl Try.sizeOf4 rfl) ?_
      refine WL.val rfl rfl rfl (Run.loadL hs27 2 Try.isAgg4 rfl rfl rfl rfl) ?_
      refine WL.nil ?_
      refine tkN ?_
      refine hK29 _ _ ?_
      clear hK29
      refine WC.cond rfl (fun h30 => ?_) (fun h30 => ?_)
      · have qh30 := h30
        try simp only [decide_eq_true_eq, decide_eq_false_iff_not, Bool.not_eq_true', Bool.not_eq_false', Bool.and_eq_true, Bool.or_eq_false_iff, within_iff, within_not] at qh30
        have hd : (gat encNode t i).Down = true := qh30
        refine WC.seq (fun K31 hK31 => ?_)
        refine WC.seq (fun K32 hK32 => ?_)
        refine WC.region ?_
        refine WL.val rfl rfl rfl (Run.field Try.runUnderlying40 rfl rfl rfl Try.sizeOf3 rfl) ?_
        refine WL.val rfl rfl rfl (Run.loadL hs27 3 Try.isAgg3 rfl rfl rfl rfl) ?_
        refine WL.val rfl rfl rfl (Run.lss rfl rfl rfl) ?_
        refine WL.nil ?_
        refine tkN ?_
        refine hK32 _ _ ?_
        clear hK32
        refine WC.cond rfl (fun h33 => ?_) (fun h33 => ?_)
        · have qh33 := h33
          try simp only [decide_eq_true_eq, decide_eq_false_iff_not, Bool.not_eq_true', Bool.not_eq_false', Bool.and_eq_true, Bool.or_eq_false_iff, within_iff, within_not] at qh33
          have hpl : placeS (.split (gat encNode t i) a b) (⟨r_Pane, r_X, r_Y, r_W, r_H⟩ : RectD) = ([], false) := by
            have : ¬ 3 ≤ sizeR (gat encNode t i) (⟨r_Pane, r_X, r_Y, r_W, r_H⟩ : RectD) := by simp only [sizeR, hd]; simp; omega
            simp only [placeS, if_neg this]
          refine WC.seq (fun K34 hK34 => ?_)
          refine WC.region ?_
          refine WL.val rfl rfl rfl (Run.assign rfl rfl) ?_
          refine WL.val rfl rfl rfl (Run.assign rfl rfl) ?_
          refine WL.nil ?_
          refine tkN ?_
          refine hK34 _ _ ?_
          clear hK34
          refine WC.ret ?_
          refine tkR ?_
          refine tkR ?_
          clear hK31 hK28
          refine retV2 rfl (resV.tmp rfl) (resV.tmp rfl) ?_
          rw [hpl]
          exact ⟨_, _, _, rfl, hs27.nil, OwnF.nil encRect 40⟩
        · have qh33 := h33
          try simp only [decide_eq_true_eq, decide_eq_false_iff_not, Bool.not_eq_true', Bool.not_eq_false', Bool.and_eq_true, Bool.or_eq_false_iff, within_iff, within_not] at qh33
          have hs3 : 3 ≤ sizeR (gat encNode t i) (⟨r_Pane, r_X, r_Y, r_W, r_H⟩ : RectD) := by simp only [sizeR, hd]; simp; omega
          have hfe : firstR (gat encNode t i) (⟨r_Pane, r_X, r_Y, r_W, r_H⟩ : RectD) = ⟨r_Pane, r_X, r_Y, r_W, min (gat encNode t i).First (r_H - 2)⟩ := by simp [firstR, hd]
          have hse : secondR (gat encNode t i) (⟨r_Pane, r_X, r_Y, r_W, r_H⟩ : RectD) = ⟨r_Pane, r_X, r_Y + min (gat encNode t i).First (r_H - 2) + 1, r_W, r_H - min (gat encNode t i).First (r_H - 2) - 1⟩ := by simp [secondR, hd]
          have hpl : placeS (.split (gat encNode t i) a b) (⟨r_Pane, r_X, r_Y, r_W, r_H⟩ : RectD) = ((placeS a ⟨r_Pane, r_X, r_Y, r_W, min (gat encNode t i).First (r_H - 2)⟩).1 ++ (placeS b ⟨r_Pane, r_X, r_Y + min (gat encNode t i).First (r_H - 2) + 1, r_W, r_H - min (gat encNode t i).First (r_H - 2) - 1⟩).1, (placeS a ⟨r_Pane, r_X, r_Y, r_W, min (gat encNode t i).First (r_H - 2)⟩).2 && (placeS b ⟨r_Pane, r_X, r_Y + min (gat encNode t i).First (r_H - 2) + 1, r_W, r_H - min (gat encNode t i).First (r_H - 2) - 1⟩).2) := by simp only [placeS, if_pos hs3, hfe, hse]
          refine WC.skip ?_
          refine tkN ?_
          refine hK31 _ _ ?_
          clear hK31
          refine WC.seq (fun K35 hK35 => ?_)
          refine WC.region ?_
          refine WL.val rfl rfl rfl (Run.field Try.runUnderlying62 rfl rfl rfl Try.sizeOf3 rfl) ?_
          refine WL.val rfl rfl rfl (Run.loadL hs27 2 Try.isAgg3 rfl rfl rfl rfl) ?_
          refine WL.val rfl rfl rfl (Run.field Try.runUnderlying40 rfl rfl rfl Try.sizeOf3 rfl) ?_
          refine WL.val rfl rfl rfl (Run.loadL hs27 3 Try.isAgg3 rfl rfl rfl rfl) ?_
          refine WL.call rfl rfl rfl (Run.call Try.call82 rfl rfl rfl) (c_spec_l13First _ _ _ ?_) ?_
          · first | assumption | rfl | omega
          rintro _ whs36 ⟨rfl, hs36⟩
          replace hs36 := hs27.call0 hs36
          refine ⟨_, rfl, ?_⟩
          refine WL.val rfl rfl rfl (Run.field Try.runUnderlying40 rfl rfl rfl Try.sizeOf3 rfl) ?_
          refine WL.store hs36 1 Try.sizeOf3 rfl rfl rfl rfl rfl rfl rfl rfl rfl rfl (fun whs37 hs37 => ?_)
          refine WL.nil ?_
          refine tkN ?_
          refine hK35 _ _ ?_
          clear hK35
          refine WC.seq (fun K38 hK38 => ?_)
          refine WC.region ?_
          refine WL.val rfl rfl rfl (Run.field Try.runUnderlying40 rfl rfl rfl Try.sizeOf3 rfl) ?_
          refine WL.val rfl rfl rfl (Run.loadL hs37 3 Try.isAgg3 rfl rfl rfl rfl) ?_
          refine WL.val rfl rfl rfl (Run.field Try.runUnderlying40 rfl rfl rfl Try.sizeOf3 rfl) ?_
          refine WL.val rfl rfl rfl (Run.loadL hs37 1 Try.isAgg3 rfl rfl rfl rfl) ?_
          refine WL.val rfl rfl rfl (Run.add rfl rfl rfl ?_) ?_
          · constructor <;> omega
          refine WL.val rfl rfl rfl (Run.add rfl rfl rfl ?_) ?_
          · constructor <;> omega
          refine WL.val rfl rfl rfl (Run.field Try.runUnderlying40 rfl rfl rfl Try.sizeOf3 rfl) ?_
          refine WL.store hs37 0 Try.sizeOf3 rfl rfl rfl rfl rfl rfl rfl rfl rfl rfl (fun whs39 hs39 => ?_)
          refine WL.nil ?_
          refine tkN ?_
          refine hK38 _ _ ?_
          clear hK38
          refine WC.region ?_
          refine WL.val rfl rfl rfl (Run.field Try.runUnderlying40 rfl rfl rfl Try.sizeOf3 rfl) ?_
          refine WL.val rfl rfl rfl (Run.loadL hs39 3 Try.isAgg3 rfl rfl rfl rfl) ?_
          refine WL.val rfl rfl rfl (Run.field Try.runUnderlying40 rfl rfl rfl Try.sizeOf3 rfl) ?_
          refine WL.val rfl rfl rfl (Run.loadL hs39 1 Try.isAgg3 rfl rfl rfl rfl) ?_
          refine WL.val rfl rfl rfl (Run.sub rfl rfl rfl ?_) ?_
          · constructor <;> omega
          refine WL.val rfl rfl rfl (Run.sub rfl rfl rfl ?_) ?_
          · constructor <;> omega
          refine WL.val rfl rfl rfl (Run.field Try.runUnderlying40 rfl rfl rfl Try.sizeOf3 rfl) ?_
          refine WL.store hs39 0 Try.sizeOf3 rfl rfl rfl rfl rfl rfl rfl rfl rfl rfl (fun whs40 hs40 => ?_)
          refine WL.nil ?_
          refine tkN ?_
          refine hK28 _ _ ?_
          clear hK28
          refine WC.seq (fun K41 hK41 => ?_)
          refine WC.region ?_
          refine WL.val rfl rfl rfl (Run.move rfl rfl) ?_
          refine WL.val rfl rfl rfl (Run.move rfl rfl) ?_
          refine WL.val rfl rfl rfl (Run.add rfl rfl rfl ?_) ?_
          · constructor <;> omega
          refine WL.val rfl rfl rfl (Run.loadLA hs40 1 Try.isAgg40 Try.sizeOf40 rfl rfl rfl rfl rfl) ?_
          refine WL.call rfl rfl rfl (Run.call Try.call79 rfl rfl rfl) (IH _ ?_ _ _ _ _ _ (i + 1) _ _ _ _ _ a _ (SlF.st0 f_t hs40) ?_ ?_ ?_ ?_ rfl) ?_
          · rw [← hm_]; simp only [Tr.flat, List.length_cons, List.length_append]; omega
          · exact hn
          · rfl
          · exact ha
          · exact hfe ▸ Fine.first hr hF.1 hs3
          rintro _ whs42 ⟨A43, c44, L145, rfl, hs42, ho46⟩
          replace hs42 := hs40.callF hs42
          refine ⟨_, rfl, ?_⟩
          replace hs42 := St.back [_, _, _, _] hs42
          refine WL.val rfl rfl rfl (Run.move rfl rfl) ?_
          refine WL.val rfl rfl rfl (Run.extract rfl rfl rfl) ?_
          refine WL.val rfl rfl rfl (Run.extract rfl rfl rfl) ?_
          refine WL.val rfl rfl rfl (Run.assign rfl rfl) ?_
          refine WL.val rfl rfl rfl (Run.assign rfl rfl) ?_
          refine WL.nil ?_
          refine tkN ?_
          refine hK41 _ _ ?_
          clear hK41
          refine WC.seq (fun K47 hK47 => ?_)
          refine WC.regionH2 (fun w' => St _ _ _ w') (fun w' => St _ _ _ w') mixed (St.drew hs42) (St.drew hs42) (fun whs48 hs48 => ?_)
          replace hs48 : St _ _ _ _ := hs48
          refine WH.take 0 rfl (by kernel_rfl) rfl rfl rfl hs48 (fun w_ hs_ => (Run.move rfl rfl)) ?_
          refine WH.take 1 rfl (by kernel_rfl) rfl rfl rfl hs48 (fun w_ hs_ => (Run.move rfl rfl)) ?_
          refine WH.take 2 rfl (by kernel_rfl) rfl rfl rfl hs48 (fun w_ hs_ => (Run.move rfl rfl)) ?_
          refine WH.take 3 rfl (by kernel_rfl) rfl rfl rfl hs48 (fun w_ hs_ => (Run.add rfl rfl rfl ?_)) ?_
          · constructor <;> omega
          refine WH.take 5 rfl (by kernel_rfl) rfl rfl rfl hs48 (fun w_ hs_ => (Run.loadLA (hs_ : St _ _ _ _) 0 Try.isAgg40 Try.sizeOf40 rfl rfl rfl rfl rfl)) ?_
          refine WH.all [4] (by kernel_rfl) rfl (WHs.cons (i := 4) rfl ?_ WHs.nil)
          refine WL.call rfl rfl rfl (Run.call Try.call53 rfl rfl rfl) (c_spec_l13End _ _ _ _ (i + 1) _ (SlF.st0 f_t hs48) ?_ ?_) ?_
          · omega
          · omega
          rintro _ whs49 ⟨rfl, hs49⟩
          replace hs49 := hs48.call0 hs49
          refine ⟨_, rfl, ?_⟩
          refine WL.nil ⟨hs49, ?_⟩
          refine WH.all [6] (by kernel_rfl) rfl (WHs.cons (i := 6) rfl ?_ WHs.nil)
          refine WL.call rfl rfl rfl (Run.call Try.call79 rfl rfl rfl) (IH _ ?_ _ _ _ _ _ (i + 1 + a.flat.length) _ _ _ _ _ b _ (SlF.st0 f_t hs49) ?_ ?_ ?_ ?_ rfl) ?_
          · rw [← hm_]; simp only [Tr.flat, List.length_cons, List.length_append]; omega
          · exact hn
          · have := ha.sEnd; omega
          · exact hb
          · exact hse ▸ Fine.second hr hF.1 hs3
          rintro _ whs50 ⟨A51, c52, L153, rfl, hs50, ho54⟩
          replace hs50 := hs49.callF hs50
          refine ⟨_, rfl, ?_⟩
          replace hs50 := St.back [_, _, _, _] hs50
          refine WL.nil ⟨(St.drop (St.perm hs50 (L' := L153 ++ _) (perm_front (A := [_, _, _, _]) (List.Perm.refl _))) (List.sublist_append_right L153 _)), ?_⟩
          refine WH.take 7 rfl (by kernel_rfl) rfl rfl rfl (St.drop (St.perm hs50 (L' := L153 ++ _) (perm_front (A := [_, _, _, _]) (List.Perm.refl _))) (List.sublist_append_right L153 _)) (fun w_ hs_ => (Run.move rfl rfl)) ?_
          refine WH.take 8 rfl (by kernel_rfl) rfl rfl rfl (St.drop (St.perm hs50 (L' := L153 ++ _) (perm_front (A := [_, _, _, _]) (List.Perm.refl _))) (List.sublist_append_right L153 _)) (fun w_ hs_ => (Run.extract rfl rfl rfl)) ?_
          refine WH.take 9 rfl (by kernel_rfl) rfl rfl rfl (St.drop (St.perm hs50 (L' := L153 ++ _) (perm_front (A := [_, _, _, _]) (List.Perm.refl _))) (List.sublist_append_right L153 _)) (fun w_ hs_ => (Run.extract rfl rfl rfl)) ?_
          refine WH.take 10 rfl (by kernel_rfl) rfl rfl rfl (St.drop (St.perm hs50 (L' := L153 ++ _) (perm_front (A := [_, _, _, _]) (List.Perm.refl _))) (List.sublist_append_right L153 _)) (fun w_ hs_ => (Run.assign rfl rfl)) ?_
          refine WH.take 11 rfl (by kernel_rfl) rfl rfl rfl (St.drop (St.perm hs50 (L' := L153 ++ _) (perm_front (A := [_, _, _, _]) (List.Perm.refl _))) (List.sublist_append_right L153 _)) (fun w_ hs_ => (Run.assign rfl rfl)) ?_
          refine WH.done (by kernel_rfl) ?_
          refine tkN ?_
          refine hK47 _ _ ?_
          clear hK47
          refine WC.seq (fun K55 hK55 => ?_)
          refine WC.region ?_
          refine WL.val rfl rfl rfl (Run.move rfl rfl) ?_
          refine WL.val rfl rfl rfl (Run.move rfl rfl) ?_
          refine WL.appendG (St.perm hs50 (L' := L145 ++ _) (perm_front (A := [_, _, _, _]) (perm_front (A := L153) (List.Perm.refl _)))) ho46 (SlF.src (SlF.ofOwn ho54 (fun p_ hp_ => (hs50.own p_ (List.mem_append_right [_, _, _, _] (List.mem_append_left _ hp_))).1)) Try.underlying48) Try.underlying48 info_40 rfl rfl rfl rfl rfl rfl rfl rfl rfl rfl ?_ (fun A59 c60 L56 whs57 hs57 ho58 => ?_)
          · refine Nat.le_trans (Nat.add_le_add placeS_len placeS_len) ?_; omega
          replace hs57 := St.back [_, _, _, _] hs57
          refine WL.val rfl rfl rfl (Run.move rfl rfl) ?_
          refine WL.val rfl rfl rfl (Run.move rfl rfl) ?_
          apply WL.meetAnd 2 99 101 [(0, _), (1, _), (2, _), (5, _), (6, _), (7, _), (8, _), (9, _), (10, _), (11, _), (12, _), (13, _), (14, _), (15, _), (16, _), (17, _), (18, _), (19, _), (20, _), (21, _), (27, _), (28, _), (29, _), (30, _), (31, _), (32, _), (33, _), (34, _), (35, _), (36, _), (37, _), (38, _), (39, _), (40, _), (41, _), (42, _), (43, _), (44, _), (45, _), (46, _), (47, _), (48, _), (49, _), (50, _), (51, _), (52, _), (53, _), (77, _), (78, _), (79, _), (80, _), (81, _), (82, _), (83, _), (84, _), (85, _), (86, _), (87, _), (88, _), (89, _), (90, _), (91, _), (92, _), (93, _), (94, _), (97, _)] rfl hs57
          · intro g61 J62
            have qg61 := g61
            try simp only [decide_eq_true_eq, decide_eq_false_iff_not, Bool.not_eq_true', Bool.not_eq_false'] at qg61
            refine WL.val (wantT rfl g61) rfl rfl (Run.move rfl rfl) ?_
            refine WL.val rfl rfl rfl (Run.pickT rfl rfl g61 rfl) ?_
            exact WL.fin J62 hs57 rfl (andT g61) ⟨rfl, rfl, rfl, rfl, rfl, rfl, rfl, rfl, rfl, rfl, rfl, rfl, rfl, rfl, rfl, rfl, rfl, rfl, rfl, rfl, rfl, rfl, rfl, rfl, rfl, rfl, rfl, rfl, rfl, rfl, rfl, rfl, rfl, rfl, rfl, rfl, rfl, rfl, rfl, rfl, rfl, rfl, rfl, rfl, rfl, rfl, rfl, rfl, rfl, rfl, rfl, rfl, rfl, rfl, rfl, rfl, rfl, rfl, rfl, rfl, rfl, rfl, rfl, rfl, rfl, rfl, trivial⟩
          · intro g61 J62
            refine WL.skip (wantNT rfl g61) rfl rfl ?_
            refine WL.val rfl rfl rfl (Run.pickF rfl rfl g61 rfl) ?_
            exact WL.fin J62 hs57 rfl (andF g61) ⟨rfl, rfl, rfl, rfl, rfl, rfl, rfl, rfl, rfl, rfl, rfl, rfl, rfl, rfl, rfl, rfl, rfl, rfl, rfl, rfl, rfl, rfl, rfl, rfl, rfl, rfl, rfl, rfl, rfl, rfl, rfl, rfl, rfl, rfl, rfl, rfl, rfl, rfl, rfl, rfl, rfl, rfl, rfl, rfl, rfl, rfl, rfl, rfl, rfl, rfl, rfl, rfl, rfl, rfl, rfl, rfl, rfl, rfl, rfl, rfl, rfl, rfl, rfl, rfl, rfl, rfl, trivial⟩
          · intro whs63 hs63
            refine WL.val rfl rfl rfl (Run.assign rfl rfl) ?_
            refine WL.val rfl rfl rfl (Run.assign rfl rfl) ?_
            refine WL.nil ?_
            refine tkN ?_
            refine hK55 _ _ ?_
            clear hK55
            refine WC.ret ?_
            refine retV2 rfl (resV.tmp rfl) (resV.tmp rfl) ?_
            rw [hpl]
            exact ⟨_, _, _, rfl, (St.keep1 (St.perm hs63 (L' := L56 ++ _) (perm_front (A := [_, _, _, _]) (List.Perm.refl _)))), ho58⟩
      · have qh30 := h30
        try simp only [decide_eq_true_eq, decide_eq_false_iff_not, Bool.not_eq_true', Bool.not_eq_false', Bool.and_eq_true, Bool.or_eq_false_iff, within_iff, within_not] at qh30
        have hd : (gat encNode t i).Down = false := qh30
        refine WC.seq (fun K64 hK64 => ?_)
        refine WC.seq (fun K65 hK65 => ?_)
        refine WC.region ?_
        refine WL.val rfl rfl rfl (Run.field Try.runUnderlying40 rfl rfl rfl Try.sizeOf3 rfl) ?_
        refine WL.val rfl rfl rfl (Run.loadL hs27 3 Try.isAgg3 rfl rfl rfl rfl) ?_
        refine WL.val rfl rfl rfl (Run.lss rfl rfl rfl) ?_
        refine WL.nil ?_
        refine tkN ?_
        refine hK65 _ _ ?_
        clear hK65
        refine WC.cond rfl (fun h66 => ?_) (fun h66 => ?_)
        · have qh66 := h66
          try simp only [decide_eq_true_eq, decide_eq_false_iff_not, Bool.not_eq_true', Bool.not_eq_false', Bool.and_eq_true, Bool.or_eq_false_iff, within_iff, within_not] at qh66
          have hpl : placeS (.split (gat encNode t i) a b) (⟨r_Pane, r_X, r_Y, r_W, r_H⟩ : RectD) = ([], false) := by
            have : ¬ 3 ≤ sizeR (gat encNode t i) (⟨r_Pane, r_X, r_Y, r_W, r_H⟩ : RectD) := by simp only [sizeR, hd]; simp; omega
            simp only [placeS, if_neg this]
          refine WC.seq (fun K67 hK67 => ?_)
          refine WC.region ?_
          refine WL.val rfl rfl rfl (Run.assign rfl rfl) ?_
          refine WL.val rfl rfl rfl (Run.assign rfl rfl) ?_
          refine WL.nil ?_
          refine tkN ?_
          refine hK67 _ _ ?_
          clear hK67
          refine WC.ret ?_
          refine tkR ?_
          refine tkR ?_
          clear hK64 hK28
          refine retV2 rfl (resV.tmp rfl) (resV.tmp rfl) ?_
          rw [hpl]
          exact ⟨_, _, _, rfl, hs27.nil, OwnF.nil encRect 40⟩
        · have qh66 := h66
          try simp only [decide_eq_true_eq, decide_eq_false_iff_not, Bool.not_eq_true', Bool.not_eq_false', Bool.and_eq_true, Bool.or_eq_false_iff, within_iff, within_not] at qh66
          have hs3 : 3 ≤ sizeR (gat encNode t i) (⟨r_Pane, r_X, r_Y, r_W, r_H⟩ : RectD) := by simp only [sizeR, hd]; simp; omega
          have hfe : firstR (gat encNode t i) (⟨r_Pane, r_X, r_Y, r_W, r_H⟩ : RectD) = ⟨r_Pane, r_X, r_Y, min (gat encNode t i).First (r_W - 2), r_H⟩ := by simp [firstR, hd]
          have hse : secondR (gat encNode t i) (⟨r_Pane, r_X, r_Y, r_W, r_H⟩ : RectD) = ⟨r_Pane, r_X + min (gat encNode t i).First (r_W - 2) + 1, r_Y, r_W - min (gat encNode t i).First (r_W - 2) - 1, r_H⟩ := by simp [secondR, hd]
          have hpl : placeS (.split (gat encNode t i) a b) (⟨r_Pane, r_X, r_Y, r_W, r_H⟩ : RectD) = ((placeS a ⟨r_Pane, r_X, r_Y, min (gat encNode t i).First (r_W - 2), r_H⟩).1 ++ (placeS b ⟨r_Pane, r_X + min (gat encNode t i).First (r_W - 2) + 1, r_Y, r_W - min (gat encNode t i).First (r_W - 2) - 1, r_H⟩).1, (placeS a ⟨r_Pane, r_X, r_Y, min (gat encNode t i).First (r_W - 2), r_H⟩).2 && (placeS b ⟨r_Pane, r_X + min (gat encNode t i).First (r_W - 2) + 1, r_Y, r_W - min (gat encNode t i).First (r_W - 2) - 1, r_H⟩).2) := by simp only [placeS, if_pos hs3, hfe, hse]
          refine WC.skip ?_
          refine tkN ?_
          refine hK64 _ _ ?_
          clear hK64
          refine WC.seq (fun K68 hK68 => ?_)
          refine WC.region ?_
          refine WL.val rfl rfl rfl (Run.field Try.runUnderlying62 rfl rfl rfl Try.sizeOf3 rfl) ?_
          refine WL.val rfl rfl rfl (Run.loadL hs27 2 Try.isAgg3 rfl rfl rfl rfl) ?_
          refine WL.val rfl rfl rfl (Run.field Try.runUnderlying40 rfl rfl rfl Try.sizeOf3 rfl) ?_
          refine WL.val rfl rfl rfl (Run.loadL hs27 3 Try.isAgg3 rfl rfl rfl rfl) ?_
          refine WL.call rfl rfl rfl (Run.call Try.call82 rfl rfl rfl) (c_spec_l13First _ _ _ ?_) ?_
          · first | assumption | rfl | omega
          rintro _ whs69 ⟨rfl, hs69⟩
          replace hs69 := hs27.call0 hs69
          refine ⟨_, rfl, ?_⟩
          refine WL.val rfl rfl rfl (Run.field Try.runUnderlying40 rfl rfl rfl Try.sizeOf3 rfl) ?_
          refine WL.store hs69 1 Try.sizeOf3 rfl rfl rfl rfl rfl rfl rfl rfl rfl rfl (fun whs70 hs70 => ?_)
          refine WL.nil ?_
          refine tkN ?_
          refine hK68 _ _ ?_
          clear hK68
          refine WC.seq (fun K71 hK71 => ?_)
          refine WC.region ?_
          refine WL.val rfl rfl rfl (Run.field Try.runUnderlying40 rfl rfl rfl Try.sizeOf3 rfl) ?_
          refine WL.val rfl rfl rfl (Run.loadL hs70 3 Try.isAgg3 rfl rfl rfl rfl) ?_
          refine WL.val rfl rfl rfl (Run.field Try.runUnderlying40 rfl rfl rfl Try.sizeOf3 rfl) ?_
          refine WL.val rfl rfl rfl (Run.loadL hs70 1 Try.isAgg3 rfl rfl rfl rfl) ?_
          refine WL.val rfl rfl rfl (Run.add rfl rfl rfl ?_) ?_
          · constructor <;> omega
          refine WL.val rfl rfl rfl (Run.add rfl rfl rfl ?_) ?_
          · constructor <;> omega
          refine WL.val rfl rfl rfl (Run.field Try.runUnderlying40 rfl rfl rfl Try.sizeOf3 rfl) ?_
          refine WL.store hs70 0 Try.sizeOf3 rfl rfl rfl rfl rfl rfl rfl rfl rfl rfl (fun whs72 hs72 => ?_)
          refine WL.nil ?_
          refine tkN ?_
          refine hK71 _ _ ?_
          clear hK71
          refine WC.region ?_
          refine WL.val rfl rfl rfl (Run.field Try.runUnderlying40 rfl rfl rfl Try.sizeOf3 rfl) ?_
          refine WL.val rfl rfl rfl (Run.loadL hs72 3 Try.isAgg3 rfl rfl rfl rfl) ?_
          refine WL.val rfl rfl rfl (Run.field Try.runUnderlying40 rfl rfl rfl Try.sizeOf3 rfl) ?_
          refine WL.val rfl rfl rfl (Run.loadL hs72 1 Try.isAgg3 rfl rfl rfl rfl) ?_
          refine WL.val rfl rfl rfl (Run.sub rfl rfl rfl ?_) ?_
          · constructor <;> omega
          refine WL.val rfl rfl rfl (Run.sub rfl rfl rfl ?_) ?_
          · constructor <;> omega
          refine WL.val rfl rfl rfl (Run.field Try.runUnderlying40 rfl rfl rfl Try.sizeOf3 rfl) ?_
          refine WL.store hs72 0 Try.sizeOf3 rfl rfl rfl rfl rfl rfl rfl rfl rfl rfl (fun whs73 hs73 => ?_)
          refine WL.nil ?_
          refine tkN ?_
          refine hK28 _ _ ?_
          clear hK28
          refine WC.seq (fun K74 hK74 => ?_)
          refine WC.region ?_
          refine WL.val rfl rfl rfl (Run.move rfl rfl) ?_
          refine WL.val rfl rfl rfl (Run.move rfl rfl) ?_
          refine WL.val rfl rfl rfl (Run.add rfl rfl rfl ?_) ?_
          · constructor <;> omega
          refine WL.val rfl rfl rfl (Run.loadLA hs73 1 Try.isAgg40 Try.sizeOf40 rfl rfl rfl rfl rfl) ?_
          refine WL.call rfl rfl rfl (Run.call Try.call79 rfl rfl rfl) (IH _ ?_ _ _ _ _ _ (i + 1) _ _ _ _ _ a _ (SlF.st0 f_t hs73) ?_ ?_ ?_ ?_ rfl) ?_
          · rw [← hm_]; simp only [Tr.flat, List.length_cons, List.length_append]; omega
          · exact hn
          · rfl
          · exact ha
          · exact hfe ▸ Fine.first hr hF.1 hs3
          rintro _ whs75 ⟨A76, c77, L178, rfl, hs75, ho79⟩
          replace hs75 := hs73.callF hs75
          refine ⟨_, rfl, ?_⟩
          replace hs75 := St.back [_, _, _, _] hs75
          refine WL.val rfl rfl rfl (Run.move rfl rfl) ?_
          refine WL.val rfl rfl rfl (Run.extract rfl rfl rfl) ?_
          refine WL.val rfl rfl rfl (Run.extract rfl rfl rfl) ?_
          refine WL.val rfl rfl rfl (Run.assign rfl rfl) ?_
          refine WL.val rfl rfl rfl (Run.assign rfl rfl) ?_
          refine WL.nil ?_
          refine tkN ?_
          refine hK74 _ _ ?_
          clear hK74
          refine WC.seq (fun K80 hK80 => ?_)
          refine WC.regionH2 (fun w' => St _ _ _ w') (fun w' => St _ _ _ w') mixed (St.drew hs75) (St.drew hs75) (fun whs81 hs81 => ?_)
          replace hs81 : St _ _ _ _ := hs81
          refine WH.take 0 rfl (by kernel_rfl) rfl rfl rfl hs81 (fun w_ hs_ => (Run.move rfl rfl)) ?_
          refine WH.take 1 rfl (by kernel_rfl) rfl rfl rfl hs81 (fun w_ hs_ => (Run.move rfl rfl)) ?_
          refine WH.take 2 rfl (by kernel_rfl) rfl rfl rfl hs81 (fun w_ hs_ => (Run.move rfl rfl)) ?_
          refine WH.take 3 rfl (by kernel_rfl) rfl rfl rfl hs81 (fun w_ hs_ => (Run.add rfl rfl rfl ?_)) ?_
          · constructor <;> omega
          refine WH.take 5 rfl (by kernel_rfl) rfl rfl rfl hs81 (fun w_ hs_ => (Run.loadLA (hs_ : St _ _ _ _) 0 Try.isAgg40 Try.sizeOf40 rfl rfl rfl rfl rfl)) ?_
          refine WH.all [4] (by kernel_rfl) rfl (WHs.cons (i := 4) rfl ?_ WHs.nil)
          refine WL.call rfl rfl rfl (Run.call Try.call53 rfl rfl rfl) (c_spec_l13End _ _ _ _ (i + 1) _ (SlF.st0 f_t hs81) ?_ ?_) ?_
          · omega
          · omega
          rintro _ whs82 ⟨rfl, hs82⟩
          replace hs82 := hs81.call0 hs82
          refine ⟨_, rfl, ?_⟩
          refine WL.nil ⟨hs82, ?_⟩
          refine WH.all [6] (by kernel_rfl) rfl (WHs.cons (i := 6) rfl ?_ WHs.nil)
          refine WL.call rfl rfl rfl (Run.call Try.call79 rfl rfl rfl) (IH _ ?_ _ _ _ _ _ (i + 1 + a.flat.length) _ _ _ _ _ b _ (SlF.st0 f_t hs82) ?_ ?_ ?_ ?_ rfl) ?_
          · rw [← hm_]; simp only [Tr.flat, List.length_cons, List.length_append]; omega
          · exact hn
          · have := ha.sEnd; omega
          · exact hb
          · exact hse ▸ Fine.second hr hF.1 hs3
          rintro _ whs83 ⟨A84, c85, L186, rfl, hs83, ho87⟩
          replace hs83 := hs82.callF hs83
          refine ⟨_, rfl, ?_⟩
          replace hs83 := St.back [_, _, _, _] hs83
          refine WL.nil ⟨(St.drop (St.perm hs83 (L' := L186 ++ _) (perm_front (A := [_, _, _, _]) (List.Perm.refl _))) (List.sublist_append_right L186 _)), ?_⟩
          refine WH.take 7 rfl (by kernel_rfl) rfl rfl rfl (St.drop (St.perm hs83 (L' := L186 ++ _) (perm_front (A := [_, _, _, _]) (List.Perm.refl _))) (List.sublist_append_right L186 _)) (fun w_ hs_ => (Run.move rfl rfl)) ?_
          refine WH.take 8 rfl (by kernel_rfl) rfl rfl rfl (St.drop (St.perm hs83 (L' := L186 ++ _) (perm_front (A := [_, _, _, _]) (List.Perm.refl _))) (List.sublist_append_right L186 _)) (fun w_ hs_ => (Run.extract rfl rfl rfl)) ?_
          refine WH.take 9 rfl (by kernel_rfl) rfl rfl rfl (St.drop (St.perm hs83 (L' := L186 ++ _) (perm_front (A := [_, _, _, _]) (List.Perm.refl _))) (List.sublist_append_right L186 _)) (fun w_ hs_ => (Run.extract rfl rfl rfl)) ?_
          refine WH.take 10 rfl (by kernel_rfl) rfl rfl rfl (St.drop (St.perm hs83 (L' := L186 ++ _) (perm_front (A := [_, _, _, _]) (List.Perm.refl _))) (List.sublist_append_right L186 _)) (fun w_ hs_ => (Run.assign rfl rfl)) ?_
          refine WH.take 11 rfl (by kernel_rfl) rfl rfl rfl (St.drop (St.perm hs83 (L' := L186 ++ _) (perm_front (A := [_, _, _, _]) (List.Perm.refl _))) (List.sublist_append_right L186 _)) (fun w_ hs_ => (Run.assign rfl rfl)) ?_
          refine WH.done (by kernel_rfl) ?_
          refine tkN ?_
          refine hK80 _ _ ?_
          clear hK80
          refine WC.seq (fun K88 hK88 => ?_)
          refine WC.region ?_
          refine WL.val rfl rfl rfl (Run.move rfl rfl) ?_
          refine WL.val rfl rfl rfl (Run.move rfl rfl) ?_
          refine WL.appendG (St.perm hs83 (L' := L178 ++ _) (perm_front (A := [_, _, _, _]) (perm_front (A := L186) (List.Perm.refl _)))) ho79 (SlF.src (SlF.ofOwn ho87 (fun p_ hp_ => (hs83.own p_ (List.mem_append_right [_, _, _, _] (List.mem_append_left _ hp_))).1)) Try.underlying48) Try.underlying48 info_40 rfl rfl rfl rfl rfl rfl rfl rfl rfl rfl ?_ (fun A92 c93 L89 whs90 hs90 ho91 => ?_)
          · refine Nat.le_trans (Nat.add_le_add placeS_len placeS_len) ?_; omega
          replace hs90 := St.back [_, _, _, _] hs90
          refine WL.val rfl rfl rfl (Run.move rfl rfl) ?_
          refine WL.val rfl rfl rfl (Run.move rfl rfl) ?_
          apply WL.meetAnd 2 99 101 [(0, _), (1, _), (2, _), (5, _), (6, _), (7, _), (8, _), (9, _), (10, _), (11, _), (12, _), (13, _), (14, _), (15, _), (16, _), (17, _), (18, _), (19, _), (20, _), (21, _), (27, _), (28, _), (29, _), (30, _), (54, _), (55, _), (56, _), (57, _), (58, _), (59, _), (60, _), (61, _), (62, _), (63, _), (64, _), (65, _), (66, _), (67, _), (68, _), (69, _), (70, _), (71, _), (72, _), (73, _), (74, _), (75, _), (76, _), (77, _), (78, _), (79, _), (80, _), (81, _), (82, _), (83, _), (84, _), (85, _), (86, _), (87, _), (88, _), (89, _), (90, _), (91, _), (92, _), (93, _), (94, _), (97, _)] rfl hs90
          · intro g94 J95
            have qg94 := g94
            try simp only [decide_eq_true_eq, decide_eq_false_iff_not, Bool.not_eq_true', Bool.not_eq_false'] at qg94
            refine WL.val (wantT rfl g94) rfl rfl (Run.move rfl rfl) ?_
            refine WL.val rfl rfl rfl (Run.pickT rfl rfl g94 rfl) ?_
            exact WL.fin J95 hs90 rfl (andT g94) ⟨rfl, rfl, rfl, rfl, rfl, rfl, rfl, rfl, rfl, rfl, rfl, rfl, rfl, rfl, rfl, rfl, rfl, rfl, rfl, rfl, rfl, rfl, rfl, rfl, rfl, rfl, rfl, rfl, rfl, rfl, rfl, rfl, rfl, rfl, rfl, rfl, rfl, rfl, rfl, rfl, rfl, rfl, rfl, rfl, rfl, rfl, rfl, rfl, rfl, rfl, rfl, rfl, rfl, rfl, rfl, rfl, rfl, rfl, rfl, rfl, rfl, rfl, rfl, rfl, rfl, rfl, trivial⟩
          · intro g94 J95
            refine WL.skip (wantNT rfl g94) rfl rfl ?_
            refine WL.val rfl rfl rfl (Run.pickF rfl rfl g94 rfl) ?_
            exact WL.fin J95 hs90 rfl (andF g94) ⟨rfl, rfl, rfl, rfl, rfl, rfl, rfl, rfl, rfl, rfl, rfl, rfl, rfl, rfl, rfl, rfl, rfl, rfl, rfl, rfl, rfl, rfl, rfl, rfl, rfl, rfl, rfl, rfl, rfl, rfl, rfl, rfl, rfl, rfl, rfl, rfl, rfl, rfl, rfl, rfl, rfl, rfl, rfl, rfl, rfl, rfl, rfl, rfl, rfl, rfl, rfl, rfl, rfl, rfl, rfl, rfl, rfl, rfl, rfl, rfl, rfl, rfl, rfl, rfl, rfl, rfl, trivial⟩
          · intro whs96 hs96
            refine WL.val rfl rfl rfl (Run.assign rfl rfl) ?_
            refine WL.val rfl rfl rfl (Run.assign rfl rfl) ?_
            refine WL.nil ?_
            refine tkN ?_
            refine hK88 _ _ ?_
            clear hK88
            refine WC.ret ?_
            refine retV2 rfl (resV.tmp rfl) (resV.tmp rfl) ?_
            rw [hpl]
            exact ⟨_, _, _, rfl, (St.keep1 (St.perm hs96 (L' := L89 ++ _) (perm_front (A := [_, _, _, _]) (List.Perm.refl _)))), ho91⟩
theorem c_spec_l13Place (A_t : Option Addr) (n_t c_t : Nat) (t : List NodeD) (at_ : Int) (i : Nat) (r_Pane : Int) (r_X : Int) (r_Y : Int) (r_W : Int) (r_H : Int) (S : Tr) (w : World) (f_t : SlF encNode w A_t n_t t) (hn : n_t ≤ 268435456) (hat : at_ = (i : Int)) (hS : At t i S) (hr : Fine (⟨r_Pane, r_X, r_Y, r_W, r_H⟩ : RectD)) :
    Calls Try.prog 79 #[.slice A_t n_t c_t, i64 at_, .agg #[i64 r_Pane, i64 r_X, i64 r_Y, i64 r_W, i64 r_H]] w fun e w' => ∃ A c L1, e = .returned (.tuple #[.slice A ((placeS S (⟨r_Pane, r_X, r_Y, r_W, r_H⟩ : RectD)).1).length c, .bool (placeS S (⟨r_Pane, r_X, r_Y, r_W, r_H⟩ : RectD)).2]) ∧ St w [] L1 w' ∧ OwnF encRect 40 (.slice A ((placeS S (⟨r_Pane, r_X, r_Y, r_W, r_H⟩ : RectD)).1).length c) ((placeS S (⟨r_Pane, r_X, r_Y, r_W, r_H⟩ : RectD)).1) L1 := c_spec_l13Place_rec _ A_t n_t c_t t at_ i r_Pane r_X r_Y r_W r_H S w f_t hn hat hS hr rfl
end Go.Proofs.Ytghcicggamkjgaa
