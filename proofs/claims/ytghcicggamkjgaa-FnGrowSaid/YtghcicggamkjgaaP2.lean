/- Walks of Go functions, printed by a program (wip/gen). -/
import Derived.Test.YtghcicggamkjgaaN6
import Derived.Test.YtghcicggamkjgaaP1
namespace Go.Proofs.Ytghcicggamkjgaa
open Go Go.RowKit
set_option linter.unusedVariables false
set_option linter.unusedSimpArgs false
set_option maxHeartbeats 2000000 in
theorem c_impl_areasOf_1_rec (m_ : Nat) : ∀ (A_t : Option Addr) (n_t c_t : Nat) (t : List NodeD) (at_ : Int) (i : Nat) (r_Pane r_X r_Y r_W r_H : Int) (S : Tr) (b_t b_o b_f b_p : Nat) (A_o : Option Addr) (c_o : Nat) (zs : List RectD) (L_o : Hp) (w : World) (f_t : SlF encNode w A_t n_t t) (g_t : SlF encH w (some ⟨b_t, 0, none⟩) 1 [⟨A_t, n_t, c_t⟩]) (g_p : SlF encFn w (some ⟨b_p, 0, none⟩) 1 [⟨.func 104, [.pointer (some ⟨b_t, 0, none⟩), .pointer (some ⟨b_o, 0, none⟩), .pointer (some ⟨b_f, 0, none⟩), .pointer (some ⟨b_p, 0, none⟩)]⟩]) (o_o : OwnF encRect 40 (.slice A_o zs.length c_o) zs L_o) (hh : ∀ p, p ∈ [(b_o, Obj.cells (List.toArray [.slice A_o (zs).length c_o]) 48 (0, 0)), (b_f, Obj.cells (List.toArray [.bool true]) 4 (0, 0))] ++ L_o → w.heap[p.1]? = some p.2) (hd : (([(b_o, Obj.cells (List.toArray [.slice A_o (zs).length c_o]) 48 (0, 0)), (b_f, Obj.cells (List.toArray [.bool true]) 4 (0, 0))] ++ L_o).map (·.1)).Nodup) (s_t : 0 < n_t → (adr A_t).block ∉ (([(b_o, Obj.cells (List.toArray [.slice A_o (zs).length c_o]) 48 (0, 0)), (b_f, Obj.cells (List.toArray [.bool true]) 4 (0, 0))] ++ L_o).map (·.1))) (v_t : 0 < 1 → (adr (some ⟨b_t, 0, none⟩)).block ∉ (([(b_o, Obj.cells (List.toArray [.slice A_o (zs).length c_o]) 48 (0, 0)), (b_f, Obj.cells (List.toArray [.bool true]) 4 (0, 0))] ++ L_o).map (·.1))) (v_p : 0 < 1 → (adr (some ⟨b_p, 0, none⟩)).block ∉ (([(b_o, Obj.cells (List.toArray [.slice A_o (zs).length c_o]) 48 (0, 0)), (b_f, Obj.cells (List.toArray [.bool true]) 4 (0, 0))] ++ L_o).map (·.1))) (hn : n_t ≤ 268435456) (hat : at_ = (i : Int)) (hS : At t i S) (hr : Fine (⟨r_Pane, r_X, r_Y, r_W, r_H⟩ : RectD)) (hz : zs.length + S.flat.length ≤ 268435456) (hm_ : S.flat.length = m_), Calls Try.prog 104 #[i64 at_, .agg #[i64 r_Pane, i64 r_X, i64 r_Y, i64 r_W, i64 r_H], .pointer (some ⟨b_t, 0, none⟩), .pointer (some ⟨b_o, 0, none⟩), .pointer (some ⟨b_f, 0, none⟩), .pointer (some ⟨b_p, 0, none⟩)] w fun e w' => ∃ A c L1, e = .returned (.tuple #[]) ∧ St w (([(b_o, Obj.cells (List.toArray [.slice A_o (zs).length c_o]) 48 (0, 0)), (b_f, Obj.cells (List.toArray [.bool true]) 4 (0, 0))] ++ L_o).map (·.1)) ((b_o, Obj.cells (List.toArray [.slice A (zs ++ (putL S (⟨r_Pane, r_X, r_Y, r_W, r_H⟩ : RectD)).1).length c]) 48 (0, 0)) :: (b_f, Obj.cells (List.toArray [.bool (putL S (⟨r_Pane, r_X, r_Y, r_W, r_H⟩ : RectD)).2]) 4 (0, 0)) :: L1) w' ∧ OwnF encRect 40 (.slice A (zs ++ (putL S (⟨r_Pane, r_X, r_Y, r_W, r_H⟩ : RectD)).1).length c) (zs ++ (putL S (⟨r_Pane, r_X, r_Y, r_W, r_H⟩ : RectD)).1) L1 := by
  induction m_ using Nat.strongRecOn with
  | ind m_ IH =>
    intro A_t n_t c_t t at_ i r_Pane r_X r_Y r_W r_H S b_t b_o b_f b_p A_o c_o zs L_o w f_t g_t g_p o_o hh hd s_t v_t v_p hn hat hS hr hz hm_
    subst hat
    have hl := f_t.len
    have hlt := hS.lt
    have hnode := hS.ok (gat encNode t i) (by have := hS.head; exact List.mem_of_mem_head? this)
    have hpb := nodeOk_pane hnode
    obtain ⟨hr0, hr1, hr2, hr3, hr4, hr5, hr6⟩ := id hr
    simp only at hr0 hr1 hr2 hr3 hr4 hr5 hr6
    have hst0 := St.takeN w [(b_o, Obj.cells (List.toArray [.slice A_o (zs).length c_o]) 48 (0, 0)), (b_f, Obj.cells (List.toArray [.bool true]) 4 (0, 0))] L_o hh hd
    refine enter (vs := [.int .i64 (i : Int), .agg #[i64 r_Pane, i64 r_X, i64 r_Y, i64 r_W, i64 r_H], .pointer (some ⟨b_t, 0, none⟩), .pointer (some ⟨b_o, 0, none⟩), .pointer (some ⟨b_f, 0, none⟩), .pointer (some ⟨b_p, 0, none⟩)]) 56 Try.func104 rfl Try.ntmps104 rfl rfl ?_
    have hs1 := hst0
    refine WC.seq (fun K2 hK2 => ?_)
    refine WC.region ?_
    refine WL.box hs1 rfl rfl rfl rfl rfl rfl (fun b3 whs4 hs4 => ?_)
    refine WL.nil ?_
    refine tkN ?_
    refine hK2 _ _ ?_
    clear hK2
    refine WC.seq (fun K5 hK5 => ?_)
    refine WC.region ?_
    refine WL.val rfl rfl rfl (Run.load Try.isAgg25 rfl rfl (SlF.var (v := .slice A_t n_t c_t) (SlF.st g_t hs4 v_t) rfl)) ?_
    refine WL.val rfl rfl rfl (Run.move rfl rfl) ?_
    refine WL.val rfl rfl rfl (Run.idxK (i) Try.runUnderlying25 Try.sizeOf62 rfl rfl rfl ?_ ?_ ?_) ?_
    · exact SlF.some_ (SlF.st f_t hs4 s_t)
    · omega
    · omega
    refine WL.val rfl rfl rfl (Run.fieldO Try.runUnderlying62 rfl rfl rfl Try.sizeOf3 rfl) ?_
    refine WL.val rfl rfl rfl (Run.load Try.isAgg3 rfl rfl (SlF.fld (SlF.st f_t hs4 s_t) ?_ rfl)) ?_
    · omega
    refine WL.val rfl rfl rfl (Run.field Try.runUnderlying40 rfl rfl rfl Try.sizeOf3 rfl) ?_
    refine WL.store hs4 0 Try.sizeOf3 rfl rfl rfl rfl rfl rfl rfl rfl rfl rfl (fun whs6 hs6 => ?_)
    refine WL.nil ?_
    refine tkN ?_
    refine hK5 _ _ ?_
    clear hK5
    refine WC.seq (fun K7 hK7 => ?_)
    refine WC.region ?_
    refine WL.val rfl rfl rfl (Run.loadL hs6 1 Try.isAgg48 rfl rfl rfl rfl) ?_
    refine WL.val rfl rfl rfl (Run.loadLA hs6 0 Try.isAgg40 Try.sizeOf40 rfl rfl rfl rfl rfl) ?_
    refine WL.buildSlice hs6 Try.runUnderlying48 Try.sizeOf40 Try.zeroValue40 rfl rfl rfl rfl rfl rfl rfl rfl rfl rfl (fun b8 whs9 hs9 => ?_)
    refine WL.appendG (St.perm hs9 (L' := L_o ++ _) (perm_front (A := [_, _, _, _]) (List.Perm.refl _))) o_o (srcF (F := encRect) (ys := [⟨(gat encNode t i).Pane, r_X, r_Y, r_W, r_H⟩]) Try.underlying48 rfl rfl (hs9.own _ (nthL_mem (i := 0) rfl)).1) Try.underlying48 info_40 rfl rfl rfl rfl rfl rfl rfl rfl rfl rfl ?_ (fun A13 c14 L10 whs11 hs11 ho12 => ?_)
    · simp only [List.length_cons, List.length_nil]; omega
    replace hs11 := St.back [_, _, _, _] hs11
    refine WL.store hs11 2 Try.sizeOf48 rfl rfl rfl rfl rfl rfl rfl rfl rfl rfl (fun whs15 hs15 => ?_)
    refine WL.nil ?_
    refine tkN ?_
    refine hK7 _ _ ?_
    clear hK7
    refine WC.seq (fun K16 hK16 => ?_)
    refine WC.seq (fun K17 hK17 => ?_)
    refine WC.region ?_
    refine WL.val rfl rfl rfl (Run.load Try.isAgg25 rfl rfl (SlF.var (v := .slice A_t n_t c_t) (SlF.st g_t hs15 v_t) rfl)) ?_
    refine WL.val rfl rfl rfl (Run.move rfl rfl) ?_
    refine WL.val rfl rfl rfl (Run.idxK (i) Try.runUnderlying25 Try.sizeOf62 rfl rfl rfl ?_ ?_ ?_) ?_
    · exact SlF.some_ (SlF.st f_t hs15 s_t)
    · omega
    · omega
    refine WL.val rfl rfl rfl (Run.loadA Try.isAgg62 Try.sizeOf62 rfl rfl (SlF.whole (SlF.st f_t hs15 s_t) ?_)) ?_
    · omega
    refine WL.call rfl rfl rfl (Run.call Try.call84 rfl rfl rfl) (c_impl_Node_isLeaf _ _ _ _) ?_
    rintro _ whs18 ⟨rfl, hs18⟩
    replace hs18 := hs15.call0 hs18
    refine ⟨_, rfl, ?_⟩
    refine WL.val rfl rfl rfl (Run.move rfl rfl) ?_
    apply WL.meetOr 3 26 29 [(0, _), (1, _), (2, _), (3, _), (4, _), (5, _), (7, _), (11, _), (12, _), (13, _), (14, _), (15, _), (16, _), (17, _), (18, _), (19, _), (20, _)] rfl hs18
    · intro g19 J20
      have qg19 := g19
      try simp only [decide_eq_true_eq, decide_eq_false_iff_not, Bool.not_eq_true', Bool.not_eq_false'] at qg19
      refine WL.val (wantF rfl g19) rfl rfl (Run.loadL hs18 3 Try.isAgg4 rfl rfl rfl rfl) ?_
      refine WL.val (wantF rfl g19) rfl rfl (Run.not rfl rfl) ?_
      refine WL.val rfl rfl rfl (Run.pickF rfl rfl g19 rfl) ?_
      exact WL.fin J20 hs18 rfl (orF g19) ⟨rfl, rfl, rfl, rfl, rfl, rfl, rfl, rfl, rfl, rfl, rfl, rfl, rfl, rfl, rfl, rfl, rfl, trivial⟩
    · intro g19 J20
      refine WL.skip (wantNF rfl g19) rfl rfl ?_
      refine WL.skip (wantNF rfl g19) rfl rfl ?_
      refine WL.val rfl rfl rfl (Run.pickT rfl rfl g19 rfl) ?_
      exact WL.fin J20 hs18 rfl (orT g19) ⟨rfl, rfl, rfl, rfl, rfl, rfl, rfl, rfl, rfl, rfl, rfl, rfl, rfl, rfl, rfl, rfl, rfl, trivial⟩
    · intro whs21 hs21
      refine WL.nil ?_
      refine tkN ?_
      refine hK17 _ _ ?_
      clear hK17
      refine WC.cond rfl (fun h22 => ?_) (fun h22 => ?_)
      · have qh22 := h22
        try simp only [decide_eq_true_eq, decide_eq_false_iff_not, Bool.not_eq_true', Bool.not_eq_false', Bool.and_eq_true, Bool.or_eq_false_iff, within_iff, within_not] at qh22
        have hlf : isSplit t i = false := by simp at qh22; simp [isSplit]; omega
        have hSe := hS.of_leaf hlf
        subst hSe
        have hpl : putL (.leaf (gat encNode t i)) (⟨r_Pane, r_X, r_Y, r_W, r_H⟩ : RectD) = ([⟨(gat encNode t i).Pane, r_X, r_Y, r_W, r_H⟩], true) := by simp [putL]
        refine WC.ret ?_
        refine tkR ?_
        clear hK16
        refine retK0' rfl ?_
        rw [hpl]
        have hx_ := OwnF.eqOf (xs := zs ++ [⟨(gat encNode t i).Pane, r_X, r_Y, r_W, r_H⟩]) ho12 (by simp)
        rw [← hx_]
        exact ⟨_, _, _, rfl, St.keep1 (St.front (L1 := (b_o, _) :: (b_f, _) :: L10) [_, _] hs21), ho12⟩
      · have qh22 := h22
        try simp only [decide_eq_true_eq, decide_eq_false_iff_not, Bool.not_eq_true', Bool.not_eq_false', Bool.and_eq_true, Bool.or_eq_false_iff, within_iff, within_not] at qh22
        have hsp : isSplit t i = true := by simp at qh22; simp [isSplit]; omega
        obtain ⟨n, a, b, rfl⟩ := hS.of_split hsp
        obtain ⟨hn', ha, hb⟩ := hS.parts
        subst hn'
        have hF : 1 ≤ (gat encNode t i).First ∧ (gat encNode t i).First ≤ 120 := by
          have := hnode; rw [nodeOk, if_pos (by simpa [isSplit] using hsp), within_iff] at this; exact this
        have hle := hS.le
        simp only [Tr.flat, List.length_cons, List.length_append] at hle
        have hRR : (⟨r_Pane, r_X, r_Y, r_W, r_H⟩ : RectD) = (⟨(gat encNode t i).Pane, r_X, r_Y, r_W, r_H⟩ : RectD) := by
          have h1_ : (gat encNode t i).Pane = 0 := by simpa [isSplit] using hsp
          rw [h1_, hr0]
        refine WC.skip ?_
        refine tkN ?_
        refine hK16 _ _ ?_
        clear hK16
        refine WC.seq (fun K23 hK23 => ?_)
        apply WC.join2 (fun b24 b25 => (b24, .cells (List.toArray (encRect.enc (firstR (gat encNode t i) (⟨(gat encNode t i).Pane, r_X, r_Y, r_W, r_H⟩ : RectD)))) _ _) :: (b25, .cells (List.toArray (encRect.enc (secondR (gat encNode t i) (⟨(gat encNode t i).Pane, r_X, r_Y, r_W, r_H⟩ : RectD)))) _ _) :: (b8, _) :: (b3, _) :: (b_o, _) :: (b_f, _) :: _) (fun b24 b25 => [(0, _), (1, _), (2, _), (3, _), (4, _), (5, _), (7, _), (11, _), (12, _), (13, _), (14, _), (15, _), (16, _), (17, _), (18, _), (19, _), (20, _), (29, _), (8, _), (9, _), (10, _)])
        · refine WC.regionH2 (fun w' => St _ _ _ w') (fun w' => St _ _ _ w') mixed (St.drew hs21) (St.drew hs21) (fun whs26 hs26 => ?_)
          replace hs26 : St _ _ _ _ := hs26
          refine WH.take 0 rfl (by kernel_rfl) rfl rfl rfl hs26 (fun w_ hs_ => (Run.load Try.isAgg25 rfl rfl (SlF.var (v := .slice A_t n_t c_t) (SlF.st g_t (hs_ : St _ _ _ _) v_t) rfl))) ?_
          refine WH.take 1 rfl (by kernel_rfl) rfl rfl rfl hs26 (fun w_ hs_ => (Run.move rfl rfl)) ?_
          refine WH.take 2 rfl (by kernel_rfl) rfl rfl rfl hs26 (fun w_ hs_ => (Run.idxK (i) Try.runUnderlying25 Try.sizeOf62 rfl rfl rfl ?_ ?_ ?_)) ?_
          · exact SlF.some_ (SlF.st f_t (hs_ : St _ _ _ _) s_t)
          · omega
          · omega
          refine WH.take 3 rfl (by kernel_rfl) rfl rfl rfl hs26 (fun w_ hs_ => (Run.loadA Try.isAgg62 Try.sizeOf62 rfl rfl (SlF.whole (SlF.st f_t (hs_ : St _ _ _ _) s_t) ?_))) ?_
          · omega
          refine WH.take 4 rfl (by kernel_rfl) rfl rfl rfl hs26 (fun w_ hs_ => (Run.loadLA (hs_ : St _ _ _ _) 1 Try.isAgg40 Try.sizeOf40 rfl rfl rfl rfl rfl)) ?_
          refine WH.all [5, 10, 11] (by kernel_rfl) rfl (WHs.cons (i := 5) rfl ?_ (WHs.cons (i := 10) rfl ?_ (WHs.cons (i := 11) rfl ?_ WHs.nil)))
          · refine WL.call rfl rfl rfl (Run.call Try.call105 rfl rfl rfl) (c_impl_partsOf _ _ _ _ _ _ _ _ _ ?_) ?_
            · refine ⟨?_, ?_, ?_, ?_, ?_, ?_, ?_, ?_, ?_, ?_⟩ <;> omega
            rintro _ whs27 ⟨rfl, hs27⟩
            replace hs27 := hs26.call0 hs27
            refine ⟨_, rfl, ?_⟩
            refine WL.nil ⟨hs27, ?_⟩
            refine WH.take 6 rfl (by kernel_rfl) rfl rfl rfl hs27 (fun w_ hs_ => (Run.move rfl rfl)) ?_
            refine WH.take 7 rfl (by kernel_rfl) rfl rfl rfl hs27 (fun w_ hs_ => (Run.extract rfl rfl rfl)) ?_
            refine WH.take 8 rfl (by kernel_rfl) rfl rfl rfl hs27 (fun w_ hs_ => (Run.extract rfl rfl rfl)) ?_
            refine WH.take 9 rfl (by kernel_rfl) rfl rfl rfl hs27 (fun w_ hs_ => (Run.extract rfl rfl rfl)) ?_
            refine WH.all [10, 11] (by kernel_rfl) rfl (WHs.cons (i := 10) rfl ?_ (WHs.cons (i := 11) rfl ?_ WHs.nil))
            · refine WL.alloc hs27 Try.zeroValue40 rfl rfl rfl rfl rfl (fun b28 whs29 hs29 => ?_)
              refine WL.nil ⟨(St.drop hs29 (List.sublist_append_right [_] _)), ?_⟩
              refine WH.all [11] (by kernel_rfl) rfl (WHs.cons (i := 11) rfl ?_ WHs.nil)
              refine WL.alloc hs29 Try.zeroValue40 rfl rfl rfl rfl rfl (fun b30 whs31 hs31 => ?_)
              refine WL.nil ⟨(St.drop hs31 (List.sublist_append_right [_, _] _)), ?_⟩
              refine WH.all [12] (by kernel_rfl) rfl (WHs.cons (i := 12) rfl ?_ WHs.nil)
              refine WL.storeA hs31 1 Try.sizeOf40 rfl rfl rfl rfl rfl rfl rfl rfl rfl (Nat.le_of_ble_eq_true rfl) (.inl (Nat.le_of_ble_eq_true rfl)) (fun whs32 hs32 => ?_)
              refine WL.nil ⟨(St.drop hs32 (List.sublist_append_right [_, _] _)), ?_⟩
              refine WH.all [13] (by kernel_rfl) rfl (WHs.cons (i := 13) rfl ?_ WHs.nil)
              refine WL.storeA hs32 0 Try.sizeOf40 rfl rfl rfl rfl rfl rfl rfl rfl rfl (Nat.le_of_ble_eq_true rfl) (.inl (Nat.le_of_ble_eq_true rfl)) (fun whs33 hs33 => ?_)
              refine WL.nil ⟨(St.drop hs33 (List.sublist_append_right [_, _] _)), ?_⟩
              refine WH.take 14 rfl (by kernel_rfl) rfl rfl rfl (St.drop hs33 (List.sublist_append_right [_, _] _)) (fun w_ hs_ => (Run.assign rfl rfl)) ?_
              refine WH.done (by kernel_rfl) ?_
              exact ⟨rfl, b28, b30, (St.swap [] hs33), ⟨rfl, rfl, rfl, rfl, rfl, rfl, rfl, rfl, rfl, rfl, rfl, rfl, rfl, rfl, rfl, rfl, rfl, rfl, rfl, rfl, rfl, trivial⟩⟩
            · refine WL.alloc hs27 Try.zeroValue40 rfl rfl rfl rfl rfl (fun b34 whs35 hs35 => ?_)
              refine WL.nil ⟨(St.drop hs35 (List.sublist_append_right [_] _)), ?_⟩
              refine WH.all [10] (by kernel_rfl) rfl (WHs.cons (i := 10) rfl ?_ WHs.nil)
              refine WL.alloc hs35 Try.zeroValue40 rfl rfl rfl rfl rfl (fun b36 whs37 hs37 => ?_)
              refine WL.nil ⟨(St.drop hs37 (List.sublist_append_right [_, _] _)), ?_⟩
              refine WH.all [12] (by kernel_rfl) rfl (WHs.cons (i := 12) rfl ?_ WHs.nil)
              refine WL.storeA hs37 0 Try.sizeOf40 rfl rfl rfl rfl rfl rfl rfl rfl rfl (Nat.le_of_ble_eq_true rfl) (.inl (Nat.le_of_ble_eq_true rfl)) (fun whs38 hs38 => ?_)
              refine WL.nil ⟨(St.drop hs38 (List.sublist_append_right [_, _] _)), ?_⟩
              refine WH.all [13] (by kernel_rfl) rfl (WHs.cons (i := 13) rfl ?_ WHs.nil)
              refine WL.storeA hs38 1 Try.sizeOf40 rfl rfl rfl rfl rfl rfl rfl rfl rfl (Nat.le_of_ble_eq_true rfl) (.inl (Nat.le_of_ble_eq_true rfl)) (fun whs39 hs39 => ?_)
              refine WL.nil ⟨(St.drop hs39 (List.sublist_append_right [_, _] _)), ?_⟩
              refine WH.take 14 rfl (by kernel_rfl) rfl rfl rfl (St.drop hs39 (List.sublist_append_right [_, _] _)) (fun w_ hs_ => (Run.assign rfl rfl)) ?_
              refine WH.done (by kernel_rfl) ?_
              exact ⟨rfl, b36, b34, hs39, ⟨rfl, rfl, rfl, rfl, rfl, rfl, rfl, rfl, rfl, rfl, rfl, rfl, rfl, rfl, rfl, rfl, rfl, rfl, rfl, rfl, rfl, trivial⟩⟩
          · refine WL.alloc hs26 Try.zeroValue40 rfl rfl rfl rfl rfl (fun b40 whs41 hs41 => ?_)
            refine WL.nil ⟨(St.drop hs41 (List.sublist_append_right [_] _)), ?_⟩
            refine WH.all [5, 11] (by kernel_rfl) rfl (WHs.cons (i := 5) rfl ?_ (WHs.cons (i := 11) rfl ?_ WHs.nil))
            · refine WL.call rfl rfl rfl (Run.call Try.call105 rfl rfl rfl) (c_impl_partsOf _ _ _ _ _ _ _ _ _ ?_) ?_
              · refine ⟨?_, ?_, ?_, ?_, ?_, ?_, ?_, ?_, ?_, ?_⟩ <;> omega
              rintro _ whs42 ⟨rfl, hs42⟩
              replace hs42 := hs41.call0 hs42
              refine ⟨_, rfl, ?_⟩
              refine WL.nil ⟨(St.drop hs42 (List.sublist_append_right [_] _)), ?_⟩
              refine WH.take 6 rfl (by kernel_rfl) rfl rfl rfl (St.drop hs42 (List.sublist_append_right [_] _)) (fun w_ hs_ => (Run.move rfl rfl)) ?_
              refine WH.take 7 rfl (by kernel_rfl) rfl rfl rfl (St.drop hs42 (List.sublist_append_right [_] _)) (fun w_ hs_ => (Run.extract rfl rfl rfl)) ?_
              refine WH.take 8 rfl (by kernel_rfl) rfl rfl rfl (St.drop hs42 (List.sublist_append_right [_] _)) (fun w_ hs_ => (Run.extract rfl rfl rfl)) ?_
              refine WH.take 9 rfl (by kernel_rfl) rfl rfl rfl (St.drop hs42 (List.sublist_append_right [_] _)) (fun w_ hs_ => (Run.extract rfl rfl rfl)) ?_
              refine WH.all [11] (by kernel_rfl) rfl (WHs.cons (i := 11) rfl ?_ WHs.nil)
              refine WL.alloc hs42 Try.zeroValue40 rfl rfl rfl rfl rfl (fun b43 whs44 hs44 => ?_)
              refine WL.nil ⟨(St.drop hs44 (List.sublist_append_right [_, _] _)), ?_⟩
              refine WH.all [12] (by kernel_rfl) rfl (WHs.cons (i := 12) rfl ?_ WHs.nil)
              refine WL.storeA hs44 1 Try.sizeOf40 rfl rfl rfl rfl rfl rfl rfl rfl rfl (Nat.le_of_ble_eq_true rfl) (.inl (Nat.le_of_ble_eq_true rfl)) (fun whs45 hs45 => ?_)
              refine WL.nil ⟨(St.drop hs45 (List.sublist_append_right [_, _] _)), ?_⟩
              refine WH.all [13] (by kernel_rfl) rfl (WHs.cons (i := 13) rfl ?_ WHs.nil)
              refine WL.storeA hs45 0 Try.sizeOf40 rfl rfl rfl rfl rfl rfl rfl rfl rfl (Nat.le_of_ble_eq_true rfl) (.inl (Nat.le_of_ble_eq_true rfl)) (fun whs46 hs46 => ?_)
              refine WL.nil ⟨(St.drop hs46 (List.sublist_append_right [_, _] _)), ?_⟩
              refine WH.take 14 rfl (by kernel_rfl) rfl rfl rfl (St.drop hs46 (List.sublist_append_right [_, _] _)) (fun w_ hs_ => (Run.assign rfl rfl)) ?_
              refine WH.done (by kernel_rfl) ?_
              exact ⟨rfl, b40, b43, (St.swap [] hs46), ⟨rfl, rfl, rfl, rfl, rfl, rfl, rfl, rfl, rfl, rfl, rfl, rfl, rfl, rfl, rfl, rfl, rfl, rfl, rfl, rfl, rfl, trivial⟩⟩
            · refine WL.alloc hs41 Try.zeroValue40 rfl rfl rfl rfl rfl (fun b47 whs48 hs48 => ?_)
              refine WL.nil ⟨(St.drop hs48 (List.sublist_append_right [_, _] _)), ?_⟩
              refine WH.all [5] (by kernel_rfl) rfl (WHs.cons (i := 5) rfl ?_ WHs.nil)
              refine WL.call rfl rfl rfl (Run.call Try.call105 rfl rfl rfl) (c_impl_partsOf _ _ _ _ _ _ _ _ _ ?_) ?_
              · refine ⟨?_, ?_, ?_, ?_, ?_, ?_, ?_, ?_, ?_, ?_⟩ <;> omega
              rintro _ whs49 ⟨rfl, hs49⟩
              replace hs49 := hs48.call0 hs49
              refine ⟨_, rfl, ?_⟩
              refine WL.nil ⟨(St.drop hs49 (List.sublist_append_right [_, _] _)), ?_⟩
              refine WH.take 6 rfl (by kernel_rfl) rfl rfl rfl (St.drop hs49 (List.sublist_append_right [_, _] _)) (fun w_ hs_ => (Run.move rfl rfl)) ?_
              refine WH.take 7 rfl (by kernel_rfl) rfl rfl rfl (St.drop hs49 (List.sublist_append_right [_, _] _)) (fun w_ hs_ => (Run.extract rfl rfl rfl)) ?_
              refine WH.take 8 rfl (by kernel_rfl) rfl rfl rfl (St.drop hs49 (List.sublist_append_right [_, _] _)) (fun w_ hs_ => (Run.extract rfl rfl rfl)) ?_
              refine WH.take 9 rfl (by kernel_rfl) rfl rfl rfl (St.drop hs49 (List.sublist_append_right [_, _] _)) (fun w_ hs_ => (Run.extract rfl rfl rfl)) ?_
              refine WH.all [12] (by kernel_rfl) rfl (WHs.cons (i := 12) rfl ?_ WHs.nil)
              refine WL.storeA hs49 1 Try.sizeOf40 rfl rfl rfl rfl rfl rfl rfl rfl rfl (Nat.le_of_ble_eq_true rfl) (.inl (Nat.le_of_ble_eq_true rfl)) (fun whs50 hs50 => ?_)
              refine WL.nil ⟨(St.drop hs50 (List.sublist_append_right [_, _] _)), ?_⟩
              refine WH.all [13] (by kernel_rfl) rfl (WHs.cons (i := 13) rfl ?_ WHs.nil)
              refine WL.storeA hs50 0 Try.sizeOf40 rfl rfl rfl rfl rfl rfl rfl rfl rfl (Nat.le_of_ble_eq_true rfl) (.inl (Nat.le_of_ble_eq_true rfl)) (fun whs51 hs51 => ?_)
              refine WL.nil ⟨(St.drop hs51 (List.sublist_append_right [_, _] _)), ?_⟩
              refine WH.take 14 rfl (by kernel_rfl) rfl rfl rfl (St.drop hs51 (List.sublist_append_right [_, _] _)) (fun w_ hs_ => (Run.assign rfl rfl)) ?_
              refine WH.done (by kernel_rfl) ?_
              exact ⟨rfl, b40, b47, (St.swap [] hs51), ⟨rfl, rfl, rfl, rfl, rfl, rfl, rfl, rfl, rfl, rfl, rfl, rfl, rfl, rfl, rfl, rfl, rfl, rfl, rfl, rfl, rfl, trivial⟩⟩
          · refine WL.alloc hs26 Try.zeroValue40 rfl rfl rfl rfl rfl (fun b52 whs53 hs53 => ?_)
            refine WL.nil ⟨(St.drop hs53 (List.sublist_append_right [_] _)), ?_⟩
            refine WH.all [5, 10] (by kernel_rfl) rfl (WHs.cons (i := 5) rfl ?_ (WHs.cons (i := 10) rfl ?_ WHs.nil))
            · refine WL.call rfl rfl rfl (Run.call Try.call105 rfl rfl rfl) (c_impl_partsOf _ _ _ _ _ _ _ _ _ ?_) ?_
              · refine ⟨?_, ?_, ?_, ?_, ?_, ?_, ?_, ?_, ?_, ?_⟩ <;> omega
              rintro _ whs54 ⟨rfl, hs54⟩
              replace hs54 := hs53.call0 hs54
              refine ⟨_, rfl, ?_⟩
              refine WL.nil ⟨(St.drop hs54 (List.sublist_append_right [_] _)), ?_⟩
              refine WH.take 6 rfl (by kernel_rfl) rfl rfl rfl (St.drop hs54 (List.sublist_append_right [_] _)) (fun w_ hs_ => (Run.move rfl rfl)) ?_
              refine WH.take 7 rfl (by kernel_rfl) rfl rfl rfl (St.drop hs54 (List.sublist_append_right [_] _)) (fun w_ hs_ => (Run.extract rfl rfl rfl)) ?_
              refine WH.take 8 rfl (by kernel_rfl) rfl rfl rfl (St.drop hs54 (List.sublist_append_right [_] _)) (fun w_ hs_ => (Run.extract rfl rfl rfl)) ?_
              refine WH.take 9 rfl (by kernel_rfl) rfl rfl rfl (St.drop hs54 (List.sublist_append_right [_] _)) (fun w_ hs_ => (Run.extract rfl rfl rfl)) ?_
              refine WH.all [10] (by kernel_rfl) rfl (WHs.cons (i := 10) rfl ?_ WHs.nil)
              refine WL.alloc hs54 Try.zeroValue40 rfl rfl rfl rfl rfl (fun b55 whs56 hs56 => ?_)
              refine WL.nil ⟨(St.drop hs56 (List.sublist_append_right [_, _] _)), ?_⟩
              refine WH.all [12] (by kernel_rfl) rfl (WHs.cons (i := 12) rfl ?_ WHs.nil)
              refine WL.storeA hs56 0 Try.sizeOf40 rfl rfl rfl rfl rfl rfl rfl rfl rfl (Nat.le_of_ble_eq_true rfl) (.inl (Nat.le_of_ble_eq_true rfl)) (fun whs57 hs57 => ?_)
              refine WL.nil ⟨(St.drop hs57 (List.sublist_append_right [_, _] _)), ?_⟩
              refine WH.all [13] (by kernel_rfl) rfl (WHs.cons (i := 13) rfl ?_ WHs.nil)
              refine WL.storeA hs57 1 Try.sizeOf40 rfl rfl rfl rfl rfl rfl rfl rfl rfl (Nat.le_of_ble_eq_true rfl) (.inl (Nat.le_of_ble_eq_true rfl)) (fun whs58 hs58 => ?_)
              refine WL.nil ⟨(St.drop hs58 (List.sublist_append_right [_, _] _)), ?_⟩
              refine WH.take 14 rfl (by kernel_rfl) rfl rfl rfl (St.drop hs58 (List.sublist_append_right [_, _] _)) (fun w_ hs_ => (Run.assign rfl rfl)) ?_
              refine WH.done (by kernel_rfl) ?_
              exact ⟨rfl, b55, b52, hs58, ⟨rfl, rfl, rfl, rfl, rfl, rfl, rfl, rfl, rfl, rfl, rfl, rfl, rfl, rfl, rfl, rfl, rfl, rfl, rfl, rfl, rfl, trivial⟩⟩
            · refine WL.alloc hs53 Try.zeroValue40 rfl rfl rfl rfl rfl (fun b59 whs60 hs60 => ?_)
              refine WL.nil ⟨(St.drop hs60 (List.sublist_append_right [_, _] _)), ?_⟩
              refine WH.all [5] (by kernel_rfl) rfl (WHs.cons (i := 5) rfl ?_ WHs.nil)
              refine WL.call rfl rfl rfl (Run.call Try.call105 rfl rfl rfl) (c_impl_partsOf _ _ _ _ _ _ _ _ _ ?_) ?_
              · refine ⟨?_, ?_, ?_, ?_, ?_, ?_, ?_, ?_, ?_, ?_⟩ <;> omega
              rintro _ whs61 ⟨rfl, hs61⟩
              replace hs61 := hs60.call0 hs61
              refine ⟨_, rfl, ?_⟩
              refine WL.nil ⟨(St.drop hs61 (List.sublist_append_right [_, _] _)), ?_⟩
              refine WH.take 6 rfl (by kernel_rfl) rfl rfl rfl (St.drop hs61 (List.sublist_append_right [_, _] _)) (fun w_ hs_ => (Run.move rfl rfl)) ?_
              refine WH.take 7 rfl (by kernel_rfl) rfl rfl rfl (St.drop hs61 (List.sublist_append_right [_, _] _)) (fun w_ hs_ => (Run.extract rfl rfl rfl)) ?_
              refine WH.take 8 rfl (by kernel_rfl) rfl rfl rfl (St.drop hs61 (List.sublist_append_right [_, _] _)) (fun w_ hs_ => (Run.extract rfl rfl rfl)) ?_
              refine WH.take 9 rfl (by kernel_rfl) rfl rfl rfl (St.drop hs61 (List.sublist_append_right [_, _] _)) (fun w_ hs_ => (Run.extract rfl rfl rfl)) ?_
              refine WH.all [12] (by kernel_rfl) rfl (WHs.cons (i := 12) rfl ?_ WHs.nil)
              refine WL.storeA hs61 0 Try.sizeOf40 rfl rfl rfl rfl rfl rfl rfl rfl rfl (Nat.le_of_ble_eq_true rfl) (.inl (Nat.le_of_ble_eq_true rfl)) (fun whs62 hs62 => ?_)
              refine WL.nil ⟨(St.drop hs62 (List.sublist_append_right [_, _] _)), ?_⟩
              refine WH.all [13] (by kernel_rfl) rfl (WHs.cons (i := 13) rfl ?_ WHs.nil)
              refine WL.storeA hs62 1 Try.sizeOf40 rfl rfl rfl rfl rfl rfl rfl rfl rfl (Nat.le_of_ble_eq_true rfl) (.inl (Nat.le_of_ble_eq_true rfl)) (fun whs63 hs63 => ?_)
              refine WL.nil ⟨(St.drop hs63 (List.sublist_append_right [_, _] _)), ?_⟩
              refine WH.take 14 rfl (by kernel_rfl) rfl rfl rfl (St.drop hs63 (List.sublist_append_right [_, _] _)) (fun w_ hs_ => (Run.assign rfl rfl)) ?_
              refine WH.done (by kernel_rfl) ?_
              exact ⟨rfl, b59, b52, hs63, ⟨rfl, rfl, rfl, rfl, rfl, rfl, rfl, rfl, rfl, rfl, rfl, rfl, rfl, rfl, rfl, rfl, rfl, rfl, rfl, rfl, rfl, trivial⟩⟩
        · rintro f_hs64 whs64 ⟨b24, b25, hs64, hG65⟩
          replace hs64 : St _ _ _ _ := hs64
          refine tkN ?_
          refine hK23 _ _ ?_
          refine WC.sub _ hG65 ?_
          clear hK23
          refine WC.seq (fun K66 hK66 => ?_)
          refine WC.seq (fun K67 hK67 => ?_)
          refine WC.region ?_
          refine WL.val rfl rfl rfl (Run.move rfl rfl) ?_
          refine WL.store hs64 5 Try.sizeOf4 rfl rfl rfl rfl rfl rfl rfl rfl rfl rfl (fun whs68 hs68 => ?_)
          refine WL.nil ?_
          refine tkN ?_
          refine hK67 _ _ ?_
          clear hK67
          refine WC.seq (fun K69 hK69 => ?_)
          refine WC.region ?_
          refine WL.val rfl rfl rfl (Run.move rfl rfl) ?_
          refine WL.val rfl rfl rfl (Run.not rfl rfl) ?_
          refine WL.nil ?_
          refine tkN ?_
          refine hK69 _ _ ?_
          clear hK69
          refine WC.cond rfl (fun h70 => ?_) (fun h70 => ?_)
          · have qh70 := h70
            try simp only [decide_eq_true_eq, decide_eq_false_iff_not, Bool.not_eq_true', Bool.not_eq_false', Bool.and_eq_true, Bool.or_eq_false_iff, within_iff, within_not] at qh70
            have hs3 : ¬ 3 ≤ sizeR (gat encNode t i) (⟨(gat encNode t i).Pane, r_X, r_Y, r_W, r_H⟩ : RectD) := by simpa using h70
            have hpl : putL (.split (gat encNode t i) a b) (⟨r_Pane, r_X, r_Y, r_W, r_H⟩ : RectD) = ([⟨(gat encNode t i).Pane, r_X, r_Y, r_W, r_H⟩], false) := by rw [hRR]; simp only [putL, if_neg hs3]
            have hdec : decide (3 ≤ sizeR (gat encNode t i) (⟨(gat encNode t i).Pane, r_X, r_Y, r_W, r_H⟩ : RectD)) = false := decide_eq_false hs3
            rw [hdec] at hs68
            refine WC.ret ?_
            refine tkR ?_
            clear hK66
            refine retK0' rfl ?_
            rw [hpl]
            have hx_ := OwnF.eqOf (xs := zs ++ [⟨(gat encNode t i).Pane, r_X, r_Y, r_W, r_H⟩]) ho12 (by simp)
            rw [← hx_]
            exact ⟨_, _, _, rfl, St.keep1 (St.front (L1 := (b_o, _) :: (b_f, _) :: L10) [_, _, _, _] hs68), ho12⟩
          · have qh70 := h70
            try simp only [decide_eq_true_eq, decide_eq_false_iff_not, Bool.not_eq_true', Bool.not_eq_false', Bool.and_eq_true, Bool.or_eq_false_iff, within_iff, within_not] at qh70
            have hs3 : 3 ≤ sizeR (gat encNode t i) (⟨(gat encNode t i).Pane, r_X, r_Y, r_W, r_H⟩ : RectD) := by simpa using h70
            have hdec : decide (3 ≤ sizeR (gat encNode t i) (⟨(gat encNode t i).Pane, r_X, r_Y, r_W, r_H⟩ : RectD)) = true := decide_eq_true hs3
            rw [hdec] at hs68
            refine WC.skip ?_
            refine tkN ?_
            refine hK66 _ _ ?_
            clear hK66
            refine WC.seq (fun K71 hK71 => ?_)
            refine WC.region ?_
            refine WL.val rfl rfl rfl (Run.load Try.isAgg109 rfl rfl (SlF.var (SlF.st g_p hs68 v_p) rfl)) ?_
            refine WL.val rfl rfl rfl (Run.move rfl rfl) ?_
            refine WL.val rfl rfl rfl (Run.add rfl rfl rfl ?_) ?_
            · constructor <;> omega
            refine WL.val rfl rfl rfl (Run.loadLA hs68 0 Try.isAgg40 Try.sizeOf40 rfl rfl rfl rfl rfl) ?_
            have hF72 := St.front (L1 := (b_o, _) :: (b_f, _) :: L10) [_, _, _, _] hs68
            refine WL.call rfl rfl rfl (Run.callC Try.call104 rfl rfl rfl) (IH _ ?_ _ _ _ _ _ (i + 1) _ _ _ _ _ a _ _ _ _ _ _ _ _ _ (SlF.st f_t hF72 s_t) (SlF.st g_t hF72 v_t) (SlF.st g_p hF72 v_p) ho12 (St.ownA hF72) (St.nodupL hF72) (St.sepT hF72 f_t s_t) (St.sepT hF72 g_t v_t) (St.sepT hF72 g_p v_p) ?_ ?_ ?_ ?_ ?_ rfl) ?_
            · rw [← hm_]; simp only [Tr.flat, List.length_cons, List.length_append]; omega
            · exact hn
            · rfl
            · exact ha
            · exact Fine.first (hRR ▸ hr) hF.1 hs3
            · simp only [List.length_append, List.length_cons, List.length_nil]; simp only [Tr.flat, List.length_cons, List.length_append] at hz; omega
            rintro _ whs76 ⟨A73, c74, L75, rfl, hs76, ho77⟩
            replace hs76 := St.lend hF72 hs76
            replace hs76 := St.back [_, _, _, _] hs76
            refine ⟨_, rfl, ?_⟩
            refine WL.nil ?_
            refine tkN ?_
            refine hK71 _ _ ?_
            clear hK71
            refine WC.seq (fun K78 hK78 => ?_)
            refine WC.region ?_
            refine WL.val rfl rfl rfl (Run.loadL hs76 5 Try.isAgg4 rfl rfl rfl rfl) ?_
            refine WL.nil ?_
            refine tkN ?_
            refine hK78 _ _ ?_
            clear hK78
            refine WC.cond rfl (fun h79 => ?_) (fun h79 => ?_)
            · have qh79 := h79
              try simp only [decide_eq_true_eq, decide_eq_false_iff_not, Bool.not_eq_true', Bool.not_eq_false', Bool.and_eq_true, Bool.or_eq_false_iff, within_iff, within_not] at qh79
              have hpl : putL (.split (gat encNode t i) a b) (⟨r_Pane, r_X, r_Y, r_W, r_H⟩ : RectD) = (⟨(gat encNode t i).Pane, r_X, r_Y, r_W, r_H⟩ :: ((putL a (firstR (gat encNode t i) (⟨(gat encNode t i).Pane, r_X, r_Y, r_W, r_H⟩ : RectD))).1 ++ (putL b (secondR (gat encNode t i) (⟨(gat encNode t i).Pane, r_X, r_Y, r_W, r_H⟩ : RectD))).1), (putL b (secondR (gat encNode t i) (⟨(gat encNode t i).Pane, r_X, r_Y, r_W, r_H⟩ : RectD))).2) := by rw [hRR]; simp only [putL, if_pos hs3, if_pos h79]
              rw [h79] at hs76
              refine WC.regionH2 (fun w' => St _ _ _ w') (fun w' => St _ _ _ w') mixed (St.drew (St.drop (St.perm (St.drop hs76 (List.Sublist.cons_cons _ (List.Sublist.cons_cons _ (List.Sublist.cons_cons _ (List.Sublist.cons_cons _ (List.Sublist.cons _ (List.Sublist.cons _ (List.Sublist.refl _)))))))) (L' := L75 ++ _) (perm_front (A := [_, _, _, _]) (List.Perm.refl _))) (List.sublist_append_right L75 _))) (St.drew hs76) (fun whs80 hs80 => ?_)
              replace hs80 : St _ _ _ _ := hs80
              refine WH.take 0 rfl (by kernel_rfl) rfl rfl rfl (St.drop (St.perm (St.drop hs80 (List.Sublist.cons_cons _ (List.Sublist.cons_cons _ (List.Sublist.cons_cons _ (List.Sublist.cons_cons _ (List.Sublist.cons _ (List.Sublist.cons _ (List.Sublist.refl _)))))))) (L' := L75 ++ _) (perm_front (A := [_, _, _, _]) (List.Perm.refl _))) (List.sublist_append_right L75 _)) (fun w_ hs_ => (Run.load Try.isAgg109 rfl rfl (SlF.var (SlF.st g_p (hs_ : St _ _ _ _) v_p) rfl))) ?_
              refine WH.take 1 rfl (by kernel_rfl) rfl rfl rfl (St.drop (St.perm (St.drop hs80 (List.Sublist.cons_cons _ (List.Sublist.cons_cons _ (List.Sublist.cons_cons _ (List.Sublist.cons_cons _ (List.Sublist.cons _ (List.Sublist.cons _ (List.Sublist.refl _)))))))) (L' := L75 ++ _) (perm_front (A := [_, _, _, _]) (List.Perm.refl _))) (List.sublist_append_right L75 _)) (fun w_ hs_ => (Run.load Try.isAgg25 rfl rfl (SlF.var (v := .slice A_t n_t c_t) (SlF.st g_t (hs_ : St _ _ _ _) v_t) rfl))) ?_
              refine WH.take 2 rfl (by kernel_rfl) rfl rfl rfl (St.drop (St.perm (St.drop hs80 (List.Sublist.cons_cons _ (List.Sublist.cons_cons _ (List.Sublist.cons_cons _ (List.Sublist.cons_cons _ (List.Sublist.cons _ (List.Sublist.cons _ (List.Sublist.refl _)))))))) (L' := L75 ++ _) (perm_front (A := [_, _, _, _]) (List.Perm.refl _))) (List.sublist_append_right L75 _)) (fun w_ hs_ => (Run.move rfl rfl)) ?_
              refine WH.take 3 rfl (by kernel_rfl) rfl rfl rfl (St.drop (St.perm (St.drop hs80 (List.Sublist.cons_cons _ (List.Sublist.cons_cons _ (List.Sublist.cons_cons _ (List.Sublist.cons_cons _ (List.Sublist.cons _ (List.Sublist.cons _ (List.Sublist.refl _)))))))) (L' := L75 ++ _) (perm_front (A := [_, _, _, _]) (List.Perm.refl _))) (List.sublist_append_right L75 _)) (fun w_ hs_ => (Run.add rfl rfl rfl ?_)) ?_
              · constructor <;> omega
              refine WH.take 5 rfl (by kernel_rfl) rfl rfl rfl (St.drop (St.perm (St.drop hs80 (List.Sublist.cons_cons _ (List.Sublist.cons_cons _ (List.Sublist.cons_cons _ (List.Sublist.cons_cons _ (List.Sublist.cons _ (List.Sublist.cons _ (List.Sublist.refl _)))))))) (L' := L75 ++ _) (perm_front (A := [_, _, _, _]) (List.Perm.refl _))) (List.sublist_append_right L75 _)) (fun w_ hs_ => (Run.loadLA (hs_ : St _ _ _ _) 1 Try.isAgg40 Try.sizeOf40 rfl rfl rfl rfl rfl)) ?_
              refine WH.all [4] (by kernel_rfl) rfl (WHs.cons (i := 4) rfl ?_ WHs.nil)
              refine WL.call rfl rfl rfl (Run.call Try.call56 rfl rfl rfl) (c_impl_endOf _ _ _ _ _ _ (SlF.st f_t hs80 s_t) ?_) ?_
              · first | assumption | rfl | omega
              rintro _ whs81 ⟨rfl, hs81⟩
              replace hs81 := hs80.call0 hs81
              refine ⟨_, rfl, ?_⟩
              refine WL.nil ⟨(St.drop (St.perm (St.drop hs81 (List.Sublist.cons_cons _ (List.Sublist.cons_cons _ (List.Sublist.cons_cons _ (List.Sublist.cons_cons _ (List.Sublist.cons _ (List.Sublist.cons _ (List.Sublist.refl _)))))))) (L' := L75 ++ _) (perm_front (A := [_, _, _, _]) (List.Perm.refl _))) (List.sublist_append_right L75 _)), ?_⟩
              refine WH.all [6] (by kernel_rfl) rfl (WHs.cons (i := 6) rfl ?_ WHs.nil)
              have hF82 := St.front (L1 := (b_o, _) :: (b_f, _) :: L75) [_, _, _, _] hs81
              refine WL.call rfl rfl rfl (Run.callC Try.call104 rfl rfl rfl) (IH _ ?_ _ _ _ _ _ (i + 1 + a.flat.length) _ _ _ _ _ b _ _ _ _ _ _ _ _ _ (SlF.st f_t hF82 s_t) (SlF.st g_t hF82 v_t) (SlF.st g_p hF82 v_p) ho77 (St.ownA hF82) (St.nodupL hF82) (St.sepT hF82 f_t s_t) (St.sepT hF82 g_t v_t) (St.sepT hF82 g_p v_p) ?_ ?_ ?_ ?_ ?_ rfl) ?_
              · rw [← hm_]; simp only [Tr.flat, List.length_cons, List.length_append]; omega
              · exact hn
              · have h_ : endI t ((i : Int) + 1) = (i + 1 + a.flat.length : Nat) := ha.endI
                omega
              · exact hb
              · exact Fine.second (hRR ▸ hr) hF.1 hs3
              · simp only [List.length_append, List.length_cons, List.length_nil]; simp only [Tr.flat, List.length_cons, List.length_append] at hz
                refine Nat.le_trans (Nat.add_le_add_right (Nat.add_le_add_left putL_len _) _) ?_
                omega
              rintro _ whs86 ⟨A83, c84, L85, rfl, hs86, ho87⟩
              replace hs86 := St.lend hF82 hs86
              replace hs86 := St.back [_, _, _, _] hs86
              refine ⟨_, rfl, ?_⟩
              refine WL.nil ⟨(St.drop (St.perm (St.drop hs86 (List.Sublist.cons_cons _ (List.Sublist.cons_cons _ (List.Sublist.cons_cons _ (List.Sublist.cons_cons _ (List.Sublist.cons _ (List.Sublist.cons _ (List.Sublist.refl _)))))))) (L' := L85 ++ _) (perm_front (A := [_, _, _, _]) (List.Perm.refl _))) (List.sublist_append_right L85 _)), ?_⟩
              refine WH.done (by kernel_rfl) ?_
              refine retK0 rfl ?_
              rw [hpl]
              have hx_ := OwnF.eqOf (xs := zs ++ (⟨(gat encNode t i).Pane, r_X, r_Y, r_W, r_H⟩ :: ((putL a (firstR (gat encNode t i) (⟨(gat encNode t i).Pane, r_X, r_Y, r_W, r_H⟩ : RectD))).1 ++ (putL b (secondR (gat encNode t i) (⟨(gat encNode t i).Pane, r_X, r_Y, r_W, r_H⟩ : RectD))).1))) ho87 (by simp)
              rw [← hx_]
              exact ⟨_, _, _, rfl, St.keep1 (St.front (L1 := (b_o, _) :: (b_f, _) :: L85) [_, _, _, _] hs86), ho87⟩
            · have qh79 := h79
              try simp only [decide_eq_true_eq, decide_eq_false_iff_not, Bool.not_eq_true', Bool.not_eq_false', Bool.and_eq_true, Bool.or_eq_false_iff, within_iff, within_not] at qh79
              have hpl : putL (.split (gat encNode t i) a b) (⟨r_Pane, r_X, r_Y, r_W, r_H⟩ : RectD) = (⟨(gat encNode t i).Pane, r_X, r_Y, r_W, r_H⟩ :: (putL a (firstR (gat encNode t i) (⟨(gat encNode t i).Pane, r_X, r_Y, r_W, r_H⟩ : RectD))).1, false) := by
                have : ¬ (putL a (firstR (gat encNode t i) (⟨(gat encNode t i).Pane, r_X, r_Y, r_W, r_H⟩ : RectD))).2 = true := by simpa using h79
                rw [hRR]; simp only [putL, if_pos hs3, if_neg this]
              rw [h79] at hs76
              refine WC.skip ?_
              refine retK0 rfl ?_
              rw [hpl]
              have hx_ := OwnF.eqOf (xs := zs ++ (⟨(gat encNode t i).Pane, r_X, r_Y, r_W, r_H⟩ :: (putL a (firstR (gat encNode t i) (⟨(gat encNode t i).Pane, r_X, r_Y, r_W, r_H⟩ : RectD))).1)) ho77 (by simp)
              rw [← hx_]
              exact ⟨_, _, _, rfl, St.keep1 (St.front (L1 := (b_o, _) :: (b_f, _) :: L75) [_, _, _, _] hs76), ho77⟩
theorem c_impl_areasOf_1 (A_t : Option Addr) (n_t c_t : Nat) (t : List NodeD) (at_ : Int) (i : Nat) (r_Pane r_X r_Y r_W r_H : Int) (S : Tr) (b_t b_o b_f b_p : Nat) (A_o : Option Addr) (c_o : Nat) (zs : List RectD) (L_o : Hp) (w : World) (f_t : SlF encNode w A_t n_t t) (g_t : SlF encH w (some ⟨b_t, 0, none⟩) 1 [⟨A_t, n_t, c_t⟩]) (g_p : SlF encFn w (some ⟨b_p, 0, none⟩) 1 [⟨.func 104, [.pointer (some ⟨b_t, 0, none⟩), .pointer (some ⟨b_o, 0, none⟩), .pointer (some ⟨b_f, 0, none⟩), .pointer (some ⟨b_p, 0, none⟩)]⟩]) (o_o : OwnF encRect 40 (.slice A_o zs.length c_o) zs L_o) (hh : ∀ p, p ∈ [(b_o, Obj.cells (List.toArray [.slice A_o (zs).length c_o]) 48 (0, 0)), (b_f, Obj.cells (List.toArray [.bool true]) 4 (0, 0))] ++ L_o → w.heap[p.1]? = some p.2) (hd : (([(b_o, Obj.cells (List.toArray [.slice A_o (zs).length c_o]) 48 (0, 0)), (b_f, Obj.cells (List.toArray [.bool true]) 4 (0, 0))] ++ L_o).map (·.1)).Nodup) (s_t : 0 < n_t → (adr A_t).block ∉ (([(b_o, Obj.cells (List.toArray [.slice A_o (zs).length c_o]) 48 (0, 0)), (b_f, Obj.cells (List.toArray [.bool true]) 4 (0, 0))] ++ L_o).map (·.1))) (v_t : 0 < 1 → (adr (some ⟨b_t, 0, none⟩)).block ∉ (([(b_o, Obj.cells (List.toArray [.slice A_o (zs).length c_o]) 48 (0, 0)), (b_f, Obj.cells (List.toArray [.bool true]) 4 (0, 0))] ++ L_o).map (·.1))) (v_p : 0 < 1 → (adr (some ⟨b_p, 0, none⟩)).block ∉ (([(b_o, Obj.cells (List.toArray [.slice A_o (zs).length c_o]) 48 (0, 0)), (b_f, Obj.cells (List.toArray [.bool true]) 4 (0, 0))] ++ L_o).map (·.1))) (hn : n_t ≤ 268435456) (hat : at_ = (i : Int)) (hS : At t i S) (hr : Fine (⟨r_Pane, r_X, r_Y, r_W, r_H⟩ : RectD)) (hz : zs.length + S.flat.length ≤ 268435456) :
    Calls Try.prog 104 #[i64 at_, .agg #[i64 r_Pane, i64 r_X, i64 r_Y, i64 r_W, i64 r_H], .pointer (some ⟨b_t, 0, none⟩), .pointer (some ⟨b_o, 0, none⟩), .pointer (some ⟨b_f, 0, none⟩), .pointer (some ⟨b_p, 0, none⟩)] w fun e w' => ∃ A c L1, e = .returned (.tuple #[]) ∧ St w (([(b_o, Obj.cells (List.toArray [.slice A_o (zs).length c_o]) 48 (0, 0)), (b_f, Obj.cells (List.toArray [.bool true]) 4 (0, 0))] ++ L_o).map (·.1)) ((b_o, Obj.cells (List.toArray [.slice A (zs ++ (putL S (⟨r_Pane, r_X, r_Y, r_W, r_H⟩ : RectD)).1).length c]) 48 (0, 0)) :: (b_f, Obj.cells (List.toArray [.bool (putL S (⟨r_Pane, r_X, r_Y, r_W, r_H⟩ : RectD)).2]) 4 (0, 0)) :: L1) w' ∧ OwnF encRect 40 (.slice A (zs ++ (putL S (⟨r_Pane, r_X, r_Y, r_W, r_H⟩ : RectD)).1).length c) (zs ++ (putL S (⟨r_Pane, r_X, r_Y, r_W, r_H⟩ : RectD)).1) L1 := c_impl_areasOf_1_rec _ A_t n_t c_t t at_ i r_Pane r_X r_Y r_W r_H S b_t b_o b_f b_p A_o c_o zs L_o w f_t g_t g_p o_o hh hd s_t v_t v_p hn hat hS hr hz rfl
end Go.Proofs.Ytghcicggamkjgaa
