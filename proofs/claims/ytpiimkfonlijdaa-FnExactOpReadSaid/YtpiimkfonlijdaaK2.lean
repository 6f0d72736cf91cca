/- Walks of Go functions, printed by a program (wip/gen). -/
import Derived.Test.YtpiimkfonlijdaaK1
namespace Go.Proofs.Ytpiimkfonlijdaa
open Go Go.RowKit
set_option linter.unusedVariables false
set_option linter.unusedSimpArgs false
theorem eq_57 {d : Nat} (x y : AttrD) (w : World) : (Op.equalIn (d + 2) 57 (.agg (encAttr.enc x).toArray) (.agg (encAttr.enc y).toArray)).run Try.prog w = .ok (decide (x = y)) w := by
  obtain ⟨R, h, e⟩ : ∃ R, (Op.equalIn (d + 2) 57 (.agg (encAttr.enc x).toArray) (.agg (encAttr.enc y).toArray)).run Try.prog w = .ok R w ∧ R = decide (x = y) := ⟨_, equalIn_struct Try.underlying57 rfl (by kernel_rfl) (eqFields_cons rfl (part_one Try.isAgg3 rfl) (part_one Try.isAgg3 rfl) (equalIn_int Try.underlying3) (eqFields_cons rfl (part_one Try.isAgg3 rfl) (part_one Try.isAgg3 rfl) (equalIn_int Try.underlying3) (eqFields_cons rfl (part_one Try.isAgg4 rfl) (part_one Try.isAgg4 rfl) (equalIn_bool' Try.underlying4) (eqFields_cons rfl (part_one Try.isAgg4 rfl) (part_one Try.isAgg4 rfl) (equalIn_bool' Try.underlying4) (eqFields_cons rfl (part_one Try.isAgg4 rfl) (part_one Try.isAgg4 rfl) (equalIn_bool' Try.underlying4) eqFields_nil))))), by rw [Bool.eq_iff_iff]; simp [AttrD.iff']⟩
  rw [h, e]
theorem eq_81 {d : Nat} (x y : CellD) (w : World) : (Op.equalIn (d + 3) 81 (.agg (encCell.enc x).toArray) (.agg (encCell.enc y).toArray)).run Try.prog w = .ok (decide (x = y)) w := by
  obtain ⟨R, h, e⟩ : ∃ R, (Op.equalIn (d + 3) 81 (.agg (encCell.enc x).toArray) (.agg (encCell.enc y).toArray)).run Try.prog w = .ok R w ∧ R = decide (x = y) := ⟨_, equalIn_struct Try.underlying81 rfl (by kernel_rfl) (eqFields_cons rfl (part_one Try.isAgg3 rfl) (part_one Try.isAgg3 rfl) (equalIn_int Try.underlying3) (eqFields_cons rfl (part_agg Try.isAgg57 Try.sizeOf57 rfl) (part_agg Try.isAgg57 Try.sizeOf57 rfl) (eq_57 _ _ _) eqFields_nil)), by rw [Bool.eq_iff_iff]; simp [AttrD.iff', CellD.iff']⟩
  rw [h, e]
theorem c_impl_putCells (v_b : Value) (b : List UInt8) (L_b : Hp) (A_l : Option Addr) (n_l c_l : Nat) (l : List CellD) (w : World) (o_b : OwnF encB 5 v_b b L_b) (h_b : ∀ p, p ∈ L_b → w.heap[p.1]? = some p.2) (f_l : SlF encCell w A_l n_l l) (s_l : 0 < n_l → (adr A_l).block ∉ L_b.map (·.1)) (hn : n_l ≤ 4000) (hc : cellsOk l = true) (hx : b.length + 15 * n_l ≤ 268000000) :
    Calls Try.prog 59 #[v_b, .slice A_l n_l c_l] w fun e w' => ∃ A c L1, e = .returned (.slice A (b ++ cellsB l).length c) ∧ St w (L_b.map (·.1)) L1 w' ∧ OwnF encB 5 (.slice A (b ++ cellsB l).length c) (b ++ cellsB l) L1 := by
  obtain ⟨A_b, c_b, rfl⟩ := o_b.shape
  have hbl := cellsB_len (l := l) (by rw [f_l.len]; exact hn) hc
  refine enter (vs := [.slice A_b b.length c_b, .slice A_l n_l c_l]) 49 Try.func59 rfl Try.ntmps59 rfl rfl ?_
  have hs1 := St.lent1 w L_b o_b h_b
  refine WC.seq (fun K2 hK2 => ?_)
  refine WC.region ?_
  refine WL.val rfl rfl rfl (Run.assign rfl rfl) ?_
  refine WL.nil ?_
  refine tkN ?_
  refine hK2 _ _ ?_
  clear hK2
  refine WC.seq (fun K3 hK3 => ?_)
  refine WC.seq (fun K4 hK4 => ?_)
  refine WC.region ?_
  refine WL.val rfl rfl rfl (Run.assign rfl rfl) ?_
  refine WL.nil ?_
  refine tkN ?_
  refine hK4 _ _ ?_
  clear hK4
  refine WC.block ?_
  refine WC.loopO [(1, _), (4, _)] ⟨rfl, rfl, trivial⟩ hs1 (fun k_ f L_ => ∃ (zs : List UInt8) (i : Nat) (A5 : Option Addr) (c6 : Nat), k_ = n_l - i ∧ (i ≤ n_l) ∧ (b ++ cellsB l = zs ++ cellsGo 0 (l.drop i)) ∧ OwnF encB 5 (.slice A5 (zs.length) c6) (zs) L_ ∧ Sub [(0, .slice A5 (zs.length) c6), (5, .int .i64 i)] f) (((fun (zs : List UInt8) (i : Nat) => n_l - i) (b) (0))) ?_ ?_
  · refine ⟨b, 0, _, _, rfl, ?_, ?_, o_b, ⟨rfl, rfl, trivial⟩⟩
    · exact Nat.zero_le _
    · rfl
  · clear hs1
    rintro _ f w L7 ⟨zs, i, A5, c6, rfl, p0, p1, ho8, hG⟩ hF hs9
    refine WC.sub _ (hG.app hF) ?_
    clear hG hF
    have hblen := congrArg List.length p1
    have hll := f_l.len
    simp only [List.length_append] at hblen
    refine WC.seq (fun K10 hK10 => ?_)
    refine WC.seq (fun K11 hK11 => ?_)
    refine WC.region ?_
    refine WL.val rfl rfl rfl (Run.move rfl rfl) ?_
    refine WL.val rfl rfl rfl (Run.move rfl rfl) ?_
    refine WL.val rfl rfl rfl (Run.lenSl Try.runUnderlying35 rfl rfl) ?_
    refine WL.val rfl rfl rfl (Run.lss rfl rfl rfl) ?_
    refine WL.nil ?_
    refine tkN ?_
    refine hK11 _ _ ?_
    clear hK11
    refine WC.cond rfl (fun h12 => ?_) (fun h12 => ?_)
    · have qh12 := h12
      try simp only [decide_eq_true_eq, decide_eq_false_iff_not, Bool.not_eq_true', Bool.not_eq_false', Bool.and_eq_true, Bool.or_eq_false_iff, within_iff, within_not] at qh12
      refine WC.skip ?_
      refine tkN ?_
      refine hK10 _ _ ?_
      clear hK10
      refine WC.block ?_
      refine WC.seq (fun K13 hK13 => ?_)
      refine WC.region ?_
      refine WL.val rfl rfl rfl (Run.move rfl rfl) ?_
      refine WL.val rfl rfl rfl (Run.assign rfl rfl) ?_
      refine WL.nil ?_
      refine tkN ?_
      refine hK13 _ _ ?_
      clear hK13
      refine WC.seq (fun K14 hK14 => ?_)
      refine WC.block ?_
      refine WC.loopS [(0, _), (1, _), (4, _), (5, _), (7, _), (8, _), (9, _), (10, _), (11, _)] ⟨rfl, rfl, rfl, rfl, rfl, rfl, rfl, rfl, rfl, trivial⟩ hs9 (fun k_ f w' => ∃ (j : Nat), k_ = n_l - j ∧ (i ≤ j) ∧ (j ≤ n_l) ∧ (∀ k, i ≤ k → k < j → gat encCell l k = gat encCell l i) ∧ Sub [(6, .int .i64 j)] f) ((fun (j : Nat) => n_l - j) (i)) ?_ ?_
      · refine ⟨i, rfl, ?_, ?_, ?_, ⟨rfl, trivial⟩⟩
        · exact Nat.le_refl _
        · omega
        · exact fun k h1 h2 => absurd h1 (by omega)
      · clear hs9
        rintro _ f w ⟨j, rfl, r0, r1, r2, hG⟩ hF hs15
        refine WC.sub _ (hG.app hF) ?_
        clear hG hF
        refine WC.seq (fun K16 hK16 => ?_)
        refine WC.seq (fun K17 hK17 => ?_)
        refine WC.regionQ (fun w' => St _ _ _ w') mixed (by kernel_rfl) hs15.drew ?_
        refine WQ.val rfl rfl rfl (fun w_ hs_ => (Run.move rfl rfl)) ?_
        refine WQ.val rfl rfl rfl (fun w_ hs_ => (Run.move rfl rfl)) ?_
        refine WQ.val rfl rfl rfl (fun w_ hs_ => (Run.lenSl Try.runUnderlying35 rfl rfl)) ?_
        refine WQ.val rfl rfl rfl (fun w_ hs_ => (Run.lss rfl rfl rfl)) ?_
        refine WQ.val rfl rfl rfl (fun w_ hs_ => (Run.move rfl rfl)) ?_
        apply WQ.meetAnd 10 16 26 [(0, _), (1, _), (4, _), (5, _), (6, _), (7, _), (8, _), (9, _), (10, _), (11, _)] rfl
        · intro g18 J19
          have qg18 := g18
          try simp only [decide_eq_true_eq, decide_eq_false_iff_not, Bool.not_eq_true', Bool.not_eq_false'] at qg18
          refine WQ.val (wantT rfl g18) rfl rfl (fun w_ hs_ => (Run.move rfl rfl)) ?_
          refine WQ.val (wantT rfl g18) rfl rfl (fun w_ hs_ => (Run.move rfl rfl)) ?_
          refine WQ.val (wantT rfl g18) rfl rfl (fun w_ hs_ => (Run.idxN Try.runUnderlying35 Try.sizeOf81 rfl rfl rfl ?_ ?_ ?_)) ?_
          · exact SlF.some_ (SlF.st f_l (hs_ : St _ _ _ _) s_l)
          · omega
          · omega
          refine WQ.val (wantT rfl g18) rfl rfl (fun w_ hs_ => (Run.loadA Try.isAgg81 Try.sizeOf81 rfl rfl (SlF.whole (SlF.st f_l (hs_ : St _ _ _ _) s_l) ?_))) ?_
          · omega
          refine WQ.val (wantT rfl g18) rfl rfl (fun w_ hs_ => (Run.move rfl rfl)) ?_
          refine WQ.val (wantT rfl g18) rfl rfl (fun w_ hs_ => (Run.move rfl rfl)) ?_
          refine WQ.val (wantT rfl g18) rfl rfl (fun w_ hs_ => (Run.idxN Try.runUnderlying35 Try.sizeOf81 rfl rfl rfl ?_ ?_ ?_)) ?_
          · exact SlF.some_ (SlF.st f_l (hs_ : St _ _ _ _) s_l)
          · omega
          · omega
          refine WQ.val (wantT rfl g18) rfl rfl (fun w_ hs_ => (Run.loadA Try.isAgg81 Try.sizeOf81 rfl rfl (SlF.whole (SlF.st f_l (hs_ : St _ _ _ _) s_l) ?_))) ?_
          · omega
          refine WQ.val (wantT rfl g18) rfl rfl (fun w_ hs_ => (Run.eqlA (eq_81 _ _) (by kernel_rfl) rfl rfl rfl)) ?_
          refine WQ.val rfl rfl rfl (fun w_ hs_ => (Run.pickT rfl rfl g18 rfl)) ?_
          exact WQ.fin J19 rfl (andT g18) ⟨rfl, rfl, rfl, rfl, rfl, rfl, rfl, rfl, rfl, rfl, trivial⟩
        · intro g18 J19
          refine WQ.skip (wantNT rfl g18) rfl rfl ?_
          refine WQ.skip (wantNT rfl g18) rfl rfl ?_
          refine WQ.skip (wantNT rfl g18) rfl rfl ?_
          refine WQ.skip (wantNT rfl g18) rfl rfl ?_
          refine WQ.skip (wantNT rfl g18) rfl rfl ?_
          refine WQ.skip (wantNT rfl g18) rfl rfl ?_
          refine WQ.skip (wantNT rfl g18) rfl rfl ?_
          refine WQ.skip (wantNT rfl g18) rfl rfl ?_
          refine WQ.skip (wantNT rfl g18) rfl rfl ?_
          refine WQ.val rfl rfl rfl (fun w_ hs_ => (Run.pickF rfl rfl g18 rfl)) ?_
          exact WQ.fin J19 rfl (andF g18) ⟨rfl, rfl, rfl, rfl, rfl, rfl, rfl, rfl, rfl, rfl, trivial⟩
        · refine WQ.nil (fun whs20 hs20 => ?_)
          replace hs20 : St _ _ _ _ := hs20
          refine tkN ?_
          refine hK17 _ _ ?_
          clear hK17
          refine WC.cond rfl (fun h21 => ?_) (fun h21 => ?_)
          · have qh21 := h21
            try simp only [decide_eq_true_eq, decide_eq_false_iff_not, Bool.not_eq_true', Bool.not_eq_false', Bool.and_eq_true, Bool.or_eq_false_iff, within_iff, within_not] at qh21
            refine WC.skip ?_
            refine tkN ?_
            refine hK16 _ _ ?_
            clear hK16
            refine WC.block ?_
            refine WC.region ?_
            refine WL.val rfl rfl rfl (Run.move rfl rfl) ?_
            refine WL.val rfl rfl rfl (Run.add rfl rfl rfl ?_) ?_
            · constructor <;> omega
            refine WL.val rfl rfl rfl (Run.assign rfl rfl) ?_
            refine WL.nil ?_
            refine ibN ?_
            refine tkN ?_
            refine ⟨⟨rfl, rfl, rfl, rfl, rfl, rfl, rfl, rfl, rfl, trivial⟩, hs20, _, ?_, j + 1, rfl, ?_, ?_, ?_, ⟨rfl, trivial⟩⟩
            · omega
            · omega
            · omega
            · intro k h1 h2; rcases Nat.lt_or_ge k j with h_ | h_
              · exact r2 k h1 h_
              · obtain rfl : k = j := by omega
                exact (qh21).2
          · have qh21 := h21
            try simp only [decide_eq_true_eq, decide_eq_false_iff_not, Bool.not_eq_true', Bool.not_eq_false', Bool.and_eq_true, Bool.or_eq_false_iff, within_iff, within_not] at qh21
            have hij : i < j := by
              rcases Nat.lt_or_ge i j with h_ | h_
              · exact h_
              · obtain rfl : j = i := by omega
                exact absurd qh21 (by simp; omega)
            have hcb := cellOk_bounds (cellsOk_gat (i := i) hc (by omega))
            have hcx : 0 ≤ attrNum ⟨(gat encCell l i).A.Fg, (gat encCell l i).A.Bg, (gat encCell l i).A.Bold, (gat encCell l i).A.Under, (gat encCell l i).A.Turn⟩ ∧ attrNum ⟨(gat encCell l i).A.Fg, (gat encCell l i).A.Bg, (gat encCell l i).A.Bold, (gat encCell l i).A.Under, (gat encCell l i).A.Turn⟩ ≤ 647 := hcb.2.2.2
            have hvx := varL_len (attrNum ⟨(gat encCell l i).A.Fg, (gat encCell l i).A.Bg, (gat encCell l i).A.Bold, (gat encCell l i).A.Under, (gat encCell l i).A.Turn⟩).toNat (by omega)
            have hrun := cellsGo_run (j - i - 1) 0 i (l := l) (by omega) (fun k hk => r2 _ (by omega) (by omega)) (fun hlt => by
              rw [show i + (j - i - 1) + 1 = j from by omega] at hlt ⊢
              intro he
              simp [he] at qh21
              omega)
            rw [show i + (j - i - 1) + 1 = j from by omega, show 0 + (j - i - 1) + 1 = j - i from by omega] at hrun
            have hjn : ((j : Int) - (i : Int)).toNat = j - i := by omega
            have hv1 := varL_len ((j : Int) - (i : Int)).toNat (by omega)
            have hv2 := varL_len (gat encCell l i).R.toNat (by omega)
            refine WC.exit ?_
            refine tkE ?_
            refine tkE ?_
            refine ibE ?_
            refine tkN ?_
            refine hK14 _ _ ?_
            clear hK14
            refine WC.seq (fun K22 hK22 => ?_)
            refine WC.regionH2 (fun w' => St _ _ _ w') (fun w' => St _ _ _ w') mixed (St.drew (St.drop hs20 (List.sublist_append_right L7 _))) (St.drew hs20) (fun whs23 hs23 => ?_)
            replace hs23 : St _ _ _ _ := hs23
            refine WH.take 0 rfl (by kernel_rfl) rfl rfl rfl (St.drop hs23 (List.sublist_append_right L7 _)) (fun w_ hs_ => (Run.move rfl rfl)) ?_
            refine WH.take 1 rfl (by kernel_rfl) rfl rfl rfl (St.drop hs23 (List.sublist_append_right L7 _)) (fun w_ hs_ => (Run.move rfl rfl)) ?_
            refine WH.take 2 rfl (by kernel_rfl) rfl rfl rfl (St.drop hs23 (List.sublist_append_right L7 _)) (fun w_ hs_ => (Run.move rfl rfl)) ?_
            refine WH.take 3 rfl (by kernel_rfl) rfl rfl rfl (St.drop hs23 (List.sublist_append_right L7 _)) (fun w_ hs_ => (Run.sub rfl rfl rfl ?_)) ?_
            · constructor <;> omega
            refine WH.take 5 rfl (by kernel_rfl) rfl rfl rfl (St.drop hs23 (List.sublist_append_right L7 _)) (fun w_ hs_ => (Run.move rfl rfl)) ?_
            refine WH.take 6 rfl (by kernel_rfl) rfl rfl rfl (St.drop hs23 (List.sublist_append_right L7 _)) (fun w_ hs_ => (Run.move rfl rfl)) ?_
            refine WH.take 7 rfl (by kernel_rfl) rfl rfl rfl (St.drop hs23 (List.sublist_append_right L7 _)) (fun w_ hs_ => (Run.idxN Try.runUnderlying35 Try.sizeOf81 rfl rfl rfl ?_ ?_ ?_)) ?_
            · exact SlF.some_ (SlF.st f_l (hs_ : St _ _ _ _) s_l)
            · omega
            · omega
            refine WH.take 8 rfl (by kernel_rfl) rfl rfl rfl (St.drop hs23 (List.sublist_append_right L7 _)) (fun w_ hs_ => (Run.fieldO Try.runUnderlying81 rfl rfl rfl Try.sizeOf3 rfl)) ?_
            refine WH.take 9 rfl (by kernel_rfl) rfl rfl rfl (St.drop hs23 (List.sublist_append_right L7 _)) (fun w_ hs_ => (Run.load Try.isAgg3 rfl rfl (SlF.fld (SlF.st f_l (hs_ : St _ _ _ _) s_l) ?_ rfl))) ?_
            · omega
            refine WH.take 11 rfl (by kernel_rfl) rfl rfl rfl (St.drop hs23 (List.sublist_append_right L7 _)) (fun w_ hs_ => (Run.move rfl rfl)) ?_
            refine WH.take 12 rfl (by kernel_rfl) rfl rfl rfl (St.drop hs23 (List.sublist_append_right L7 _)) (fun w_ hs_ => (Run.move rfl rfl)) ?_
            refine WH.take 13 rfl (by kernel_rfl) rfl rfl rfl (St.drop hs23 (List.sublist_append_right L7 _)) (fun w_ hs_ => (Run.idxN Try.runUnderlying35 Try.sizeOf81 rfl rfl rfl ?_ ?_ ?_)) ?_
            · exact SlF.some_ (SlF.st f_l (hs_ : St _ _ _ _) s_l)
            · omega
            · omega
            refine WH.take 14 rfl (by kernel_rfl) rfl rfl rfl (St.drop hs23 (List.sublist_append_right L7 _)) (fun w_ hs_ => (Run.fieldO Try.runUnderlying81 rfl rfl rfl Try.sizeOf57 rfl)) ?_
            refine WH.take 15 rfl (by kernel_rfl) rfl rfl rfl (St.drop hs23 (List.sublist_append_right L7 _)) (fun w_ hs_ => (Run.loadA Try.isAgg57 Try.sizeOf57 rfl rfl (SlF.part (SlF.st f_l (hs_ : St _ _ _ _) s_l) ?_ rfl rfl))) ?_
            · omega
            refine WH.all [4] (by kernel_rfl) rfl (WHs.cons (i := 4) rfl ?_ WHs.nil)
            refine WL.call rfl rfl rfl (Run.call Try.call99 rfl rfl rfl) (c_impl_putVar _ _ _ _ _ ho8 (fun p_ hp_ => (hs23.own p_ (List.mem_append_left _ hp_)).1) ?_ ?_ ?_) ?_
            · first | omega | exact hcb.1 | exact hcx.1
            · first | omega
            · first | omega | (simp only [List.length_append]; omega)
            rintro _ whs24 ⟨A25, c26, L127, rfl, hs24, ho28⟩
            replace hs24 := St.lend hs23 hs24
            refine ⟨_, rfl, ?_⟩
            refine WL.nil ⟨(St.drop hs24 (List.sublist_append_right L127 _)), ?_⟩
            refine WH.all [10] (by kernel_rfl) rfl (WHs.cons (i := 10) rfl ?_ WHs.nil)
            refine WL.call rfl rfl rfl (Run.call Try.call99 rfl rfl rfl) (c_impl_putVar _ _ _ _ _ ho28 (fun p_ hp_ => (hs24.own p_ (List.mem_append_left _ hp_)).1) ?_ ?_ ?_) ?_
            · first | omega | exact hcb.1 | exact hcx.1
            · first | omega
            · first | omega | (simp only [List.length_append]; omega)
            rintro _ whs29 ⟨A30, c31, L132, rfl, hs29, ho33⟩
            replace hs29 := St.lend hs24 hs29
            refine ⟨_, rfl, ?_⟩
            refine WL.nil ⟨(St.drop hs29 (List.sublist_append_right L132 _)), ?_⟩
            refine WH.all [16] (by kernel_rfl) rfl (WHs.cons (i := 16) rfl ?_ WHs.nil)
            refine WL.call rfl rfl rfl (Run.call Try.call100 rfl rfl rfl) (c_impl_AttrNum _ _ _ _ _ _) ?_
            rintro _ whs34 ⟨rfl, hs34⟩
            replace hs34 := hs29.call0 hs34
            refine ⟨_, rfl, ?_⟩
            refine WL.nil ⟨(St.drop hs34 (List.sublist_append_right L132 _)), ?_⟩
            refine WH.all [17] (by kernel_rfl) rfl (WHs.cons (i := 17) rfl ?_ WHs.nil)
            refine WL.call rfl rfl rfl (Run.call Try.call99 rfl rfl rfl) (c_impl_putVar _ _ _ _ _ ho33 (fun p_ hp_ => (hs34.own p_ (List.mem_append_left _ hp_)).1) ?_ ?_ ?_) ?_
            · first | omega | exact hcb.1 | exact hcx.1
            · first | omega
            · first | omega | (simp only [List.length_append]; omega)
            rintro _ whs35 ⟨A36, c37, L138, rfl, hs35, ho39⟩
            replace hs35 := St.lend hs34 hs35
            refine ⟨_, rfl, ?_⟩
            refine WL.nil ⟨(St.drop hs35 (List.sublist_append_right L138 _)), ?_⟩
            refine WH.take 18 rfl (by kernel_rfl) rfl rfl rfl (St.drop hs35 (List.sublist_append_right L138 _)) (fun w_ hs_ => (Run.assign rfl rfl)) ?_
            refine WH.done (by kernel_rfl) ?_
            refine tkN ?_
            refine hK22 _ _ ?_
            clear hK22
            refine WC.region ?_
            refine WL.val rfl rfl rfl (Run.move rfl rfl) ?_
            refine WL.val rfl rfl rfl (Run.assign rfl rfl) ?_
            refine WL.nil ?_
            refine ibN ?_
            refine tkN ?_
            refine ⟨⟨rfl, rfl, trivial⟩, _, hs35, _, ?_, _, j, _, _, rfl, ?_, ?_, ho39, ⟨rfl, rfl, trivial⟩⟩
            · omega
            · omega
            · rw [p1, hrun, List.append_assoc, List.append_assoc, List.append_assoc]; simp only [runB, hjn, List.append_assoc]
    · have qh12 := h12
      try simp only [decide_eq_true_eq, decide_eq_false_iff_not, Bool.not_eq_true', Bool.not_eq_false', Bool.and_eq_true, Bool.or_eq_false_iff, within_iff, within_not] at qh12
      refine WC.exit ?_
      refine tkE ?_
      refine tkE ?_
      refine ibE ?_
      refine tkN ?_
      refine hK3 _ _ ?_
      clear hK3
      refine WC.seq (fun K40 hK40 => ?_)
      refine WC.region ?_
      refine WL.val rfl rfl rfl (Run.move rfl rfl) ?_
      refine WL.val rfl rfl rfl (Run.assign rfl rfl) ?_
      refine WL.nil ?_
      refine tkN ?_
      refine hK40 _ _ ?_
      clear hK40
      refine WC.ret ?_
      refine retV1 rfl (resV.tmp rfl) ?_
      have hx_ := OwnF.eqOf (xs := b ++ cellsB l) ho8 (by rw [p1, List.drop_eq_nil_of_le (by omega)]; simp [cellsGo])
      rw [← hx_]
      first | exact ⟨_, _, _, rfl, (St.keep1 hs9), ho8⟩ | exact ⟨A5, c6, _, by rw [OwnF.len_ ho8], (St.keep1 hs9), by rw [OwnF.len_ ho8]; exact ho8⟩
theorem c_impl_CellsBytes (A_l : Option Addr) (n_l c_l : Nat) (l : List CellD) (w : World) (f_l : SlF encCell w A_l n_l l) (hn : n_l ≤ 1099511627776) :
    Calls Try.prog 18 #[.slice A_l n_l c_l] w fun e w' => ∃ A c L1, e = .returned (.tuple #[.slice A (cellsOut l).length c, .bool (cellsFine l)]) ∧ St w [] L1 w' ∧ OwnF encB 5 (.slice A (cellsOut l).length c) (cellsOut l) L1 := by
  have hll := f_l.len
  refine enter (vs := [.slice A_l n_l c_l]) 14 Try.func18 rfl Try.ntmps18 rfl rfl ?_
  have hs1 := St.init w
  refine WC.seq (fun K2 hK2 => ?_)
  refine WC.region ?_
  refine WL.val rfl rfl rfl (Run.assign rfl rfl) ?_
  refine WL.val rfl rfl rfl (Run.assign rfl rfl) ?_
  refine WL.nil ?_
  refine tkN ?_
  refine hK2 _ _ ?_
  clear hK2
  refine WC.seq (fun K3 hK3 => ?_)
  refine WC.seq (fun K4 hK4 => ?_)
  refine WC.region ?_
  refine WL.val rfl rfl rfl (Run.move rfl rfl) ?_
  refine WL.val rfl rfl rfl (Run.lenSl Try.runUnderlying35 rfl rfl) ?_
  refine WL.val rfl rfl rfl (Run.gtr rfl rfl rfl) ?_
  refine WL.val rfl rfl rfl (Run.move rfl rfl) ?_
  apply WL.meetOr 4 7 11 [(0, _), (2, _), (3, _)] rfl hs1
  · intro g5 J6
    have qg5 := g5
    try simp only [decide_eq_true_eq, decide_eq_false_iff_not, Bool.not_eq_true', Bool.not_eq_false'] at qg5
    refine WL.val (wantF rfl g5) rfl rfl (Run.move rfl rfl) ?_
    refine WL.call (wantF rfl g5) rfl rfl (Run.call Try.call58 rfl rfl rfl) (c_impl_areCells _ _ _ _ _ (SlF.st0 f_l hs1) ?_) ?_
    · first | assumption | rfl | omega
    rintro _ whs7 ⟨rfl, hs7⟩
    replace hs7 := hs1.call0 hs7
    refine ⟨_, rfl, ?_⟩
    refine WL.val (wantF rfl g5) rfl rfl (Run.not rfl rfl) ?_
    refine WL.val rfl rfl rfl (Run.pickF rfl rfl g5 rfl) ?_
    exact WL.fin J6 hs7 rfl (orF g5) ⟨rfl, rfl, rfl, trivial⟩
  · intro g5 J6
    refine WL.skip (wantNF rfl g5) rfl rfl ?_
    refine WL.skip (wantNF rfl g5) rfl rfl ?_
    refine WL.skip (wantNF rfl g5) rfl rfl ?_
    refine WL.val rfl rfl rfl (Run.pickT rfl rfl g5 rfl) ?_
    exact WL.fin J6 hs1 rfl (orT g5) ⟨rfl, rfl, rfl, trivial⟩
  · intro whs8 hs8
    refine WL.nil ?_
    refine tkN ?_
    refine hK4 _ _ ?_
    clear hK4
    refine WC.cond rfl (fun h9 => ?_) (fun h9 => ?_)
    · have qh9 := h9
      try simp only [decide_eq_true_eq, decide_eq_false_iff_not, Bool.not_eq_true', Bool.not_eq_false', Bool.and_eq_true, Bool.or_eq_false_iff, within_iff, within_not] at qh9
      have hf : cellsFine l = false := by
        rw [← Bool.not_eq_true]; intro hf_; simp [cellsFine] at hf_; simp [hf_] at qh9; omega
      refine WC.seq (fun K10 hK10 => ?_)
      refine WC.region ?_
      refine WL.val rfl rfl rfl (Run.assign rfl rfl) ?_
      refine WL.val rfl rfl rfl (Run.assign rfl rfl) ?_
      refine WL.nil ?_
      refine tkN ?_
      refine hK10 _ _ ?_
      clear hK10
      refine WC.ret ?_
      refine tkR ?_
      clear hK3
      refine retV2 rfl (resV.tmp rfl) (resV.tmp rfl) ?_
      rw [hf]
      have hx_ := OwnF.eqOf (xs := cellsOut l) (OwnF.nil encB 5) (by simp [cellsOut, hf])
      rw [← hx_]
      exact ⟨_, _, _, rfl, hs8.nil, (OwnF.nil encB 5)⟩
    · have qh9 := h9
      try simp only [decide_eq_true_eq, decide_eq_false_iff_not, Bool.not_eq_true', Bool.not_eq_false', Bool.and_eq_true, Bool.or_eq_false_iff, within_iff, within_not] at qh9
      have hq : l.length ≤ 4000 ∧ cellsOk l = true := by simp at qh9; exact ⟨by omega, qh9.2⟩
      have hf : cellsFine l = true := by simp [cellsFine, hq]
      refine WC.skip ?_
      refine tkN ?_
      refine hK3 _ _ ?_
      clear hK3
      refine WC.seq (fun K11 hK11 => ?_)
      refine WC.region ?_
      refine WL.val rfl rfl rfl (Run.move rfl rfl) ?_
      refine WL.call rfl rfl rfl (Run.call Try.call59 rfl rfl rfl) (c_impl_putCells _ _ _ _ _ _ _ _ (OwnF.nil _ _) (by simp) (SlF.st0 f_l hs8) sep_nil ?_ ?_ ?_) ?_
      · omega
      · exact hq.2
      · simp; omega
      rintro _ whs12 ⟨A13, c14, L115, rfl, hs12, ho16⟩
      replace hs12 := St.lend (A := []) hs8 hs12
      refine ⟨_, rfl, ?_⟩
      refine WL.val rfl rfl rfl (Run.assign rfl rfl) ?_
      refine WL.val rfl rfl rfl (Run.assign rfl rfl) ?_
      refine WL.nil ?_
      refine tkN ?_
      refine hK11 _ _ ?_
      clear hK11
      refine WC.ret ?_
      refine retV2 rfl (resV.tmp rfl) (resV.tmp rfl) ?_
      rw [hf]
      have hx_ := OwnF.eqOf (xs := cellsOut l) ho16 (by simp [cellsOut, hf])
      rw [← hx_]
      first | exact ⟨_, _, _, rfl, (St.keep1 hs12), ho16⟩ | exact ⟨A13, c14, _, by rw [OwnF.len_ ho16], (St.keep1 hs12), by rw [OwnF.len_ ho16]; exact ho16⟩
theorem c_spec_CellsBytes (A_l : Option Addr) (n_l c_l : Nat) (l : List CellD) (w : World) (f_l : SlF encCell w A_l n_l l) (hn : n_l ≤ 1099511627776) :
    Calls Try.prog 16 #[.slice A_l n_l c_l] w fun e w' => ∃ A c L1, e = .returned (.tuple #[.slice A (cellsOut l).length c, .bool (cellsFine l)]) ∧ St w [] L1 w' ∧ OwnF encB 5 (.slice A (cellsOut l).length c) (cellsOut l) L1 := by
  have hll := f_l.len
  refine enter (vs := [.slice A_l n_l c_l]) 61 Try.func16 rfl Try.ntmps16 rfl rfl ?_
  have hs1 := St.init w
  refine WC.seq (fun K2 hK2 => ?_)
  refine WC.region ?_
  refine WL.val rfl rfl rfl (Run.assign rfl rfl) ?_
  refine WL.val rfl rfl rfl (Run.assign rfl rfl) ?_
  refine WL.nil ?_
  refine tkN ?_
  refine hK2 _ _ ?_
  clear hK2
  refine WC.seq (fun K3 hK3 => ?_)
  refine WC.seq (fun K4 hK4 => ?_)
  refine WC.region ?_
  refine WL.val rfl rfl rfl (Run.move rfl rfl) ?_
  refine WL.val rfl rfl rfl (Run.lenSl Try.runUnderlying35 rfl rfl) ?_
  refine WL.val rfl rfl rfl (Run.gtr rfl rfl rfl) ?_
  refine WL.nil ?_
  refine tkN ?_
  refine hK4 _ _ ?_
  clear hK4
  refine WC.cond rfl (fun h5 => ?_) (fun h5 => ?_)
  · have qh5 := h5
    try simp only [decide_eq_true_eq, decide_eq_false_iff_not, Bool.not_eq_true', Bool.not_eq_false', Bool.and_eq_true, Bool.or_eq_false_iff, within_iff, within_not] at qh5
    have hf : cellsFine l = false := by simp [cellsFine]; omega
    refine WC.seq (fun K6 hK6 => ?_)
    refine WC.region ?_
    refine WL.val rfl rfl rfl (Run.assign rfl rfl) ?_
    refine WL.val rfl rfl rfl (Run.assign rfl rfl) ?_
    refine WL.nil ?_
    refine tkN ?_
    refine hK6 _ _ ?_
    clear hK6
    refine WC.ret ?_
    refine tkR ?_
    clear hK3
    refine retV2 rfl (resV.tmp rfl) (resV.tmp rfl) ?_
    rw [hf]
    have hx_ := OwnF.eqOf (xs := cellsOut l) (OwnF.nil encB 5) (by simp [cellsOut, hf])
    rw [← hx_]
    exact ⟨_, _, _, rfl, hs1.nil, (OwnF.nil encB 5)⟩
  · have qh5 := h5
    try simp only [decide_eq_true_eq, decide_eq_false_iff_not, Bool.not_eq_true', Bool.not_eq_false', Bool.and_eq_true, Bool.or_eq_false_iff, within_iff, within_not] at qh5
    refine WC.skip ?_
    refine tkN ?_
    refine hK3 _ _ ?_
    clear hK3
    refine WC.seq (fun K7 hK7 => ?_)
    refine WC.region ?_
    refine WL.buildF (F := encB) hs1 ([]) Try.runUnderlying22 Try.sizeOf5 Try.zeroValue5 rfl rfl rfl rfl rfl rfl rfl rfl rfl rfl rfl rfl (fun A11 c12 L8 whs9 hs9 ho10 => ?_)
    refine WL.val rfl rfl rfl (Run.assign rfl rfl) ?_
    refine WL.nil ?_
    refine tkN ?_
    refine hK7 _ _ ?_
    clear hK7
    refine WC.seq (fun K13 hK13 => ?_)
    refine WC.region ?_
    refine WL.val rfl rfl rfl (Run.assign rfl rfl) ?_
    refine WL.nil ?_
    refine tkN ?_
    refine hK13 _ _ ?_
    clear hK13
    refine WC.seq (fun K14 hK14 => ?_)
    refine WC.seq (fun K15 hK15 => ?_)
    refine WC.region ?_
    refine WL.val rfl rfl rfl (Run.move rfl rfl) ?_
    refine WL.val rfl rfl rfl (Run.lenSl Try.runUnderlying35 rfl rfl) ?_
    refine WL.val rfl rfl rfl (Run.move rfl rfl) ?_
    refine WL.nil ?_
    refine tkN ?_
    refine hK15 _ _ ?_
    clear hK15
    refine WC.block ?_
    refine WC.loopO [(0, _), (8, _), (9, _), (10, _), (11, _), (12, _), (13, _)] ⟨rfl, rfl, rfl, rfl, rfl, rfl, rfl, trivial⟩ hs9 (fun k_ f L_ => ∃ (zs : List UInt8) (i m : Nat) (A16 : Option Addr) (c17 : Nat), k_ = n_l - i ∧ (i ≤ n_l) ∧ (m ≤ i) ∧ (zs.length ≤ 15 * i) ∧ (cellsB l = zs ++ cellsGo m (l.drop i)) ∧ (∀ k, k < i → cellOk (gat encCell l k) = true) ∧ OwnF encB 5 (.slice A16 (zs.length) c17) (zs) L_ ∧ Sub [(4, .slice A16 (zs.length) c17), (14, .int .i64 i), (5, .int .i64 m)] f) (((fun (zs : List UInt8) (i m : Nat) => n_l - i) ([]) (0) (0))) ?_ ?_
    · refine ⟨[], 0, 0, _, _, rfl, ?_, ?_, ?_, ?_, ?_, ho10, ⟨rfl, rfl, rfl, trivial⟩⟩
      · exact Nat.zero_le _
      · exact Nat.le_refl _
      · simp
      · rfl
      · exact fun k hk => absurd hk (by omega)
    · clear hs9
      rintro _ f w L18 ⟨zs, i, m, A16, c17, rfl, p0, p1, p2, p3, p4, ho19, hG⟩ hF hs20
      refine WC.sub _ (hG.app hF) ?_
      clear hG hF
      refine WC.seq (fun K21 hK21 => ?_)
      refine WC.region ?_
      refine WL.val rfl rfl rfl (Run.lss rfl rfl rfl) ?_
      refine WL.nil ?_
      refine tkN ?_
      refine hK21 _ _ ?_
      clear hK21
      refine WC.seq (fun K22 hK22 => ?_)
      refine WC.cond rfl (fun h23 => ?_) (fun h23 => ?_)
      · have qh23 := h23
        try simp only [decide_eq_true_eq, decide_eq_false_iff_not, Bool.not_eq_true', Bool.not_eq_false', Bool.and_eq_true, Bool.or_eq_false_iff, within_iff, within_not] at qh23
        refine WC.skip ?_
        refine tkN ?_
        refine hK22 _ _ ?_
        clear hK22
        refine WC.seq (fun K24 hK24 => ?_)
        refine WC.block ?_
        refine WC.seq (fun K25 hK25 => ?_)
        refine WC.region ?_
        refine WL.val rfl rfl rfl (Run.move rfl rfl) ?_
        refine WL.val rfl rfl rfl (Run.idxN Try.runUnderlying35 Try.sizeOf81 rfl rfl rfl ?_ ?_ ?_) ?_
        · exact SlF.some_ (SlF.st0 f_l hs20)
        · omega
        · omega
        refine WL.val rfl rfl rfl (Run.loadA Try.isAgg81 Try.sizeOf81 rfl rfl (SlF.whole (SlF.st0 f_l hs20) ?_)) ?_
        · omega
        refine WL.alloc hs20 Try.zeroValue81 rfl rfl rfl rfl rfl (fun b26 whs27 hs27 => ?_)
        refine WL.val rfl rfl rfl (Run.assign rfl rfl) ?_
        refine WL.storeA hs27 0 Try.sizeOf81 rfl rfl rfl rfl rfl rfl rfl rfl rfl (Nat.le_of_ble_eq_true rfl) (.inl (Nat.le_of_ble_eq_true rfl)) (fun whs28 hs28 => ?_)
        refine WL.nil ?_
        refine tkN ?_
        refine hK25 _ _ ?_
        clear hK25
        refine WC.seq (fun K29 hK29 => ?_)
        refine WC.seq (fun K30 hK30 => ?_)
        refine WC.region ?_
        refine WL.val rfl rfl rfl (Run.loadLA hs28 0 Try.isAgg81 Try.sizeOf81 rfl rfl rfl rfl rfl) ?_
        refine WL.call rfl rfl rfl (Run.call Try.call54 rfl rfl rfl) (c_spec_CellOk _ _ _ _ _ _ _) ?_
        rintro _ whs31 ⟨rfl, hs31⟩
        replace hs31 := hs28.call0 hs31
        refine ⟨_, rfl, ?_⟩
        refine WL.val rfl rfl rfl (Run.not rfl rfl) ?_
        refine WL.nil ?_
        refine tkN ?_
        refine hK30 _ _ ?_
        clear hK30
        refine WC.cond rfl (fun h32 => ?_) (fun h32 => ?_)
        · have qh32 := h32
          try simp only [decide_eq_true_eq, decide_eq_false_iff_not, Bool.not_eq_true', Bool.not_eq_false', Bool.and_eq_true, Bool.or_eq_false_iff, within_iff, within_not] at qh32
          have hf : cellsFine l = false := by simp [cellsFine, cellsOk_not (l := l) (i := i) (by omega) qh32]
          refine WC.seq (fun K33 hK33 => ?_)
          refine WC.region ?_
          refine WL.val rfl rfl rfl (Run.assign rfl rfl) ?_
          refine WL.val rfl rfl rfl (Run.assign rfl rfl) ?_
          refine WL.nil ?_
          refine tkN ?_
          refine hK33 _ _ ?_
          clear hK33
          refine WC.ret ?_
          refine tkR ?_
          refine ibR ?_
          refine tkR ?_
          refine tkR ?_
          refine ibR ?_
          refine tkR ?_
          clear hK29 hK24 hK14
          refine retV2 rfl (resV.tmp rfl) (resV.tmp rfl) ?_
          rw [hf]
          have hx_ := OwnF.eqOf (xs := cellsOut l) (OwnF.nil encB 5) (by simp [cellsOut, hf])
          rw [← hx_]
          exact ⟨_, _, _, rfl, hs31.nil, (OwnF.nil encB 5)⟩
        · have qh32 := h32
          try simp only [decide_eq_true_eq, decide_eq_false_iff_not, Bool.not_eq_true', Bool.not_eq_false', Bool.and_eq_true, Bool.or_eq_false_iff, within_iff, within_not] at qh32
          have hci : cellOk (gat encCell l i) = true := qh32
          have hcb := cellOk_bounds hci
          have hcx : 0 ≤ attrNum ⟨(gat encCell l i).A.Fg, (gat encCell l i).A.Bg, (gat encCell l i).A.Bold, (gat encCell l i).A.Under, (gat encCell l i).A.Turn⟩ ∧ attrNum ⟨(gat encCell l i).A.Fg, (gat encCell l i).A.Bg, (gat encCell l i).A.Bold, (gat encCell l i).A.Under, (gat encCell l i).A.Turn⟩ ≤ 647 := hcb.2.2.2
          have hvx := varL_len (attrNum ⟨(gat encCell l i).A.Fg, (gat encCell l i).A.Bg, (gat encCell l i).A.Bold, (gat encCell l i).A.Under, (gat encCell l i).A.Turn⟩).toNat (by omega)
          refine WC.skip ?_
          refine tkN ?_
          refine hK29 _ _ ?_
          clear hK29
          refine WC.seq (fun K34 hK34 => ?_)
          refine WC.region ?_
          refine WL.val rfl rfl rfl (Run.move rfl rfl) ?_
          refine WL.val rfl rfl rfl (Run.add rfl rfl rfl ?_) ?_
          · constructor <;> omega
          refine WL.val rfl rfl rfl (Run.assign rfl rfl) ?_
          refine WL.nil ?_
          refine tkN ?_
          refine hK34 _ _ ?_
          clear hK34
          refine WC.seq (fun K35 hK35 => ?_)
          refine WC.seq (fun K36 hK36 => ?_)
          refine WC.regionQ (fun w' => St _ _ _ w') mixed (by kernel_rfl) hs31.drew ?_
          refine WQ.val rfl rfl rfl (fun w_ hs_ => (Run.move rfl rfl)) ?_
          refine WQ.val rfl rfl rfl (fun w_ hs_ => (Run.add rfl rfl rfl ?_)) ?_
          · constructor <;> omega
          refine WQ.val rfl rfl rfl (fun w_ hs_ => (Run.move rfl rfl)) ?_
          refine WQ.val rfl rfl rfl (fun w_ hs_ => (Run.lenSl Try.runUnderlying35 rfl rfl)) ?_
          refine WQ.val rfl rfl rfl (fun w_ hs_ => (Run.lss rfl rfl rfl)) ?_
          refine WQ.val rfl rfl rfl (fun w_ hs_ => (Run.move rfl rfl)) ?_
          apply WQ.meetAnd 8 29 37 [(0, _), (4, _), (5, _), (6, _), (7, _), (8, _), (9, _), (10, _), (11, _), (12, _), (13, _), (14, _), (15, _), (16, _), (17, _), (18, _), (19, _), (20, _), (21, _), (22, _), (23, _)] rfl
          · intro g37 J38
            have qg37 := g37
            try simp only [decide_eq_true_eq, decide_eq_false_iff_not, Bool.not_eq_true', Bool.not_eq_false'] at qg37
            refine WQ.val (wantT rfl g37) rfl rfl (fun w_ hs_ => (Run.move rfl rfl)) ?_
            refine WQ.val (wantT rfl g37) rfl rfl (fun w_ hs_ => (Run.move rfl rfl)) ?_
            refine WQ.val (wantT rfl g37) rfl rfl (fun w_ hs_ => (Run.add rfl rfl rfl ?_)) ?_
            · constructor <;> omega
            refine WQ.val (wantT rfl g37) rfl rfl (fun w_ hs_ => (Run.idxK (i + 1) Try.runUnderlying35 Try.sizeOf81 rfl rfl rfl ?_ ?_ ?_)) ?_
            · exact SlF.some_ (SlF.st0 f_l (hs_ : St _ _ _ _))
            · omega
            · omega
            refine WQ.val (wantT rfl g37) rfl rfl (fun w_ hs_ => (Run.loadA Try.isAgg81 Try.sizeOf81 rfl rfl (SlF.whole (SlF.st0 f_l (hs_ : St _ _ _ _)) ?_))) ?_
            · omega
            refine WQ.val (wantT rfl g37) rfl rfl (fun w_ hs_ => (Run.loadLA (hs_ : St _ _ _ _) 0 Try.isAgg81 Try.sizeOf81 rfl rfl rfl rfl rfl)) ?_
            refine WQ.val (wantT rfl g37) rfl rfl (fun w_ hs_ => (Run.eqlA (eq_81 _ _) (by kernel_rfl) rfl rfl rfl)) ?_
            refine WQ.val rfl rfl rfl (fun w_ hs_ => (Run.pickT rfl rfl g37 rfl)) ?_
            exact WQ.fin J38 rfl (andT g37) ⟨rfl, rfl, rfl, rfl, rfl, rfl, rfl, rfl, rfl, rfl, rfl, rfl, rfl, rfl, rfl, rfl, rfl, rfl, rfl, rfl, rfl, trivial⟩
          · intro g37 J38
            refine WQ.skip (wantNT rfl g37) rfl rfl ?_
            refine WQ.skip (wantNT rfl g37) rfl rfl ?_
            refine WQ.skip (wantNT rfl g37) rfl rfl ?_
            refine WQ.skip (wantNT rfl g37) rfl rfl ?_
            refine WQ.skip (wantNT rfl g37) rfl rfl ?_
            refine WQ.skip (wantNT rfl g37) rfl rfl ?_
            refine WQ.skip (wantNT rfl g37) rfl rfl ?_
            refine WQ.val rfl rfl rfl (fun w_ hs_ => (Run.pickF rfl rfl g37 rfl)) ?_
            exact WQ.fin J38 rfl (andF g37) ⟨rfl, rfl, rfl, rfl, rfl, rfl, rfl, rfl, rfl, rfl, rfl, rfl, rfl, rfl, rfl, rfl, rfl, rfl, rfl, rfl, rfl, trivial⟩
          · refine WQ.nil (fun whs39 hs39 => ?_)
            replace hs39 : St _ _ _ _ := hs39
            refine tkN ?_
            refine hK36 _ _ ?_
            clear hK36
            refine WC.cond rfl (fun h40 => ?_) (fun h40 => ?_)
            · have qh40 := h40
              try simp only [decide_eq_true_eq, decide_eq_false_iff_not, Bool.not_eq_true', Bool.not_eq_false', Bool.and_eq_true, Bool.or_eq_false_iff, within_iff, within_not] at qh40
              have hnx : i + 1 < l.length ∧ gat encCell l (i + 1) = gat encCell l i := by
                try simp only [Bool.and_eq_true, decide_eq_true_eq] at qh40
                exact ⟨by omega, qh40.2⟩
              refine WC.exit ?_
              refine tkE ?_
              refine ibE ?_
              refine tkN ?_
              refine hK24 _ _ ?_
              clear hK24
              refine WC.region ?_
              refine WL.val rfl rfl rfl (Run.add rfl rfl rfl ?_) ?_
              · constructor <;> omega
              refine WL.val rfl rfl rfl (Run.move rfl rfl) ?_
              refine WL.nil ?_
              refine tkN ?_
              replace hs39 := St.drop hs39 (List.sublist_append_right [_] _)
              refine ⟨⟨rfl, rfl, rfl, rfl, rfl, rfl, rfl, trivial⟩, _, hs39, _, ?_, _, i + 1, (m + 1), _, _, rfl, ?_, ?_, ?_, ?_, ?_, ho19, ⟨rfl, rfl, rfl, trivial⟩⟩
              · omega
              · omega
              · omega
              · first | omega | (simp only [List.length_append]; omega)
              · first | (rw [p3, cellsGo_step (by omega), if_pos hnx]) | (rw [p3, cellsGo_step (by omega), if_neg hnx, runB]; simp only [List.append_assoc]; rfl)
              · intro k hk; rcases Nat.lt_or_ge k i with h_ | h_
                · exact p4 k h_
                · obtain rfl : k = i := by omega
                  exact hci
            · have qh40 := h40
              try simp only [decide_eq_true_eq, decide_eq_false_iff_not, Bool.not_eq_true', Bool.not_eq_false', Bool.and_eq_true, Bool.or_eq_false_iff, within_iff, within_not] at qh40
              have hnx : ¬ (i + 1 < l.length ∧ gat encCell l (i + 1) = gat encCell l i) := by
                rintro ⟨ha_, hb_⟩; try simp only [Bool.and_eq_false_imp, decide_eq_true_eq, decide_eq_false_iff_not] at qh40
                exact qh40 (by omega) hb_
              have hv1 := varL_len ((m : Int) + 1).toNat (by omega)
              have hv2 := varL_len (gat encCell l i).R.toNat (by omega)
              have hv3 := varL_len (attrNum (gat encCell l i).A).toNat (by omega)
              refine WC.skip ?_
              refine tkN ?_
              refine hK35 _ _ ?_
              clear hK35
              refine WC.seq (fun K41 hK41 => ?_)
              refine WC.region ?_
              refine WL.val rfl rfl rfl (Run.move rfl rfl) ?_
              refine WL.val rfl rfl rfl (Run.move rfl rfl) ?_
              refine WL.call rfl rfl rfl (Run.call Try.call55 rfl rfl rfl) (c_spec_PutVar _ _ _ _ _ _ (SlF.ofOwn ho19 (fun p_ hp_ => (hs39.own p_ (List.mem_append_right [_] (List.mem_append_left _ hp_))).1)) ?_ ?_ ?_) ?_
              · first | omega | exact hcb.1 | exact hcx.1
              · omega
              · first | omega | (simp only [List.length_append]; omega)
              rintro _ whs42 ⟨A43, c44, L145, rfl, hs42, ho46⟩
              replace hs42 := hs39.callF hs42
              refine ⟨_, rfl, ?_⟩
              replace hs42 := St.back [_] hs42
              refine WL.val rfl rfl rfl (Run.move rfl rfl) ?_
              refine WL.val rfl rfl rfl (Run.extract rfl rfl rfl) ?_
              refine WL.val rfl rfl rfl (Run.extract rfl rfl rfl) ?_
              refine WL.val rfl rfl rfl (Run.assign rfl rfl) ?_
              refine WL.nil ?_
              refine tkN ?_
              refine hK41 _ _ ?_
              clear hK41
              refine WC.seq (fun K47 hK47 => ?_)
              refine WC.region ?_
              refine WL.val rfl rfl rfl (Run.move rfl rfl) ?_
              refine WL.val rfl rfl rfl (Run.field Try.runUnderlying81 rfl rfl rfl Try.sizeOf3 rfl) ?_
              refine WL.val rfl rfl rfl (Run.loadL hs42 0 Try.isAgg3 rfl rfl rfl rfl) ?_
              refine WL.call rfl rfl rfl (Run.call Try.call55 rfl rfl rfl) (c_spec_PutVar _ _ _ _ _ _ (SlF.ofOwn ho46 (fun p_ hp_ => (hs42.own p_ (List.mem_append_right [_] (List.mem_append_left _ hp_))).1)) ?_ ?_ ?_) ?_
              · first | omega | exact hcb.1 | exact hcx.1
              · omega
              · first | omega | (simp only [List.length_append]; omega)
              rintro _ whs48 ⟨A49, c50, L151, rfl, hs48, ho52⟩
              replace hs48 := hs42.callF hs48
              refine ⟨_, rfl, ?_⟩
              replace hs48 := St.back [_] hs48
              refine WL.val rfl rfl rfl (Run.move rfl rfl) ?_
              refine WL.val rfl rfl rfl (Run.extract rfl rfl rfl) ?_
              refine WL.val rfl rfl rfl (Run.extract rfl rfl rfl) ?_
              refine WL.val rfl rfl rfl (Run.assign rfl rfl) ?_
              refine WL.nil ?_
              refine tkN ?_
              refine hK47 _ _ ?_
              clear hK47
              refine WC.seq (fun K53 hK53 => ?_)
              refine WC.region ?_
              refine WL.val rfl rfl rfl (Run.move rfl rfl) ?_
              refine WL.val rfl rfl rfl (Run.field Try.runUnderlying81 rfl rfl rfl Try.sizeOf57 rfl) ?_
              refine WL.val rfl rfl rfl (Run.loadLA hs48 0 Try.isAgg57 Try.sizeOf57 rfl rfl rfl rfl rfl) ?_
              refine WL.call rfl rfl rfl (Run.call Try.call56 rfl rfl rfl) (c_spec_AttrNum _ _ _ _ _ _) ?_
              rintro _ whs54 ⟨rfl, hs54⟩
              replace hs54 := hs48.call0 hs54
              refine ⟨_, rfl, ?_⟩
              refine WL.call rfl rfl rfl (Run.call Try.call55 rfl rfl rfl) (c_spec_PutVar _ _ _ _ _ _ (SlF.ofOwn ho52 (fun p_ hp_ => (hs54.own p_ (List.mem_append_right [_] (List.mem_append_left _ hp_))).1)) ?_ ?_ ?_) ?_
              · first | omega | exact hcb.1 | exact hcx.1
              · omega
              · first | omega | (simp only [List.length_append]; omega)
              rintro _ whs55 ⟨A56, c57, L158, rfl, hs55, ho59⟩
              replace hs55 := hs54.callF hs55
              refine ⟨_, rfl, ?_⟩
              replace hs55 := St.back [_] hs55
              refine WL.val rfl rfl rfl (Run.move rfl rfl) ?_
              refine WL.val rfl rfl rfl (Run.extract rfl rfl rfl) ?_
              refine WL.val rfl rfl rfl (Run.extract rfl rfl rfl) ?_
              refine WL.val rfl rfl rfl (Run.assign rfl rfl) ?_
              refine WL.nil ?_
              refine tkN ?_
              refine hK53 _ _ ?_
              clear hK53
              refine WC.region ?_
              refine WL.val rfl rfl rfl (Run.assign rfl rfl) ?_
              refine WL.nil ?_
              refine ibN ?_
              refine tkN ?_
              refine hK24 _ _ ?_
              clear hK24
              refine WC.region ?_
              refine WL.val rfl rfl rfl (Run.add rfl rfl rfl ?_) ?_
              · constructor <;> omega
              refine WL.val rfl rfl rfl (Run.move rfl rfl) ?_
              refine WL.nil ?_
              refine tkN ?_
              replace hs55 := St.drop hs55 (List.sublist_append_right [_] _)
              replace hs55 := St.drop (St.perm hs55 (L' := L151 ++ _) (perm_front (A := L158) (List.Perm.refl _))) (List.sublist_append_right L151 _)
              replace hs55 := St.drop (St.perm hs55 (L' := L145 ++ _) (perm_front (A := L158) (List.Perm.refl _))) (List.sublist_append_right L145 _)
              replace hs55 := St.drop (St.perm hs55 (L' := L18 ++ _) (perm_front (A := L158) (List.Perm.refl _))) (List.sublist_append_right L18 _)
              refine ⟨⟨rfl, rfl, rfl, rfl, rfl, rfl, rfl, trivial⟩, _, hs55, _, ?_, _, i + 1, 0, _, _, rfl, ?_, ?_, ?_, ?_, ?_, ho59, ⟨rfl, rfl, rfl, trivial⟩⟩
              · omega
              · omega
              · omega
              · first | omega | (simp only [List.length_append]; omega)
              · first | (rw [p3, cellsGo_step (by omega), if_pos hnx]) | (rw [p3, cellsGo_step (by omega), if_neg hnx, runB]; simp only [List.append_assoc]; rfl)
              · intro k hk; rcases Nat.lt_or_ge k i with h_ | h_
                · exact p4 k h_
                · obtain rfl : k = i := by omega
                  exact hci
      · have qh23 := h23
        try simp only [decide_eq_true_eq, decide_eq_false_iff_not, Bool.not_eq_true', Bool.not_eq_false', Bool.and_eq_true, Bool.or_eq_false_iff, within_iff, within_not] at qh23
        have hok : cellsOk l = true := cellsOk_all (fun k hk => p4 k (by omega))
        have hf : cellsFine l = true := by simp [cellsFine, hok]; omega
        refine WC.exit ?_
        refine tkE ?_
        refine tkE ?_
        refine ibE ?_
        refine tkN ?_
        refine hK14 _ _ ?_
        clear hK14
        refine WC.seq (fun K60 hK60 => ?_)
        refine WC.region ?_
        refine WL.val rfl rfl rfl (Run.move rfl rfl) ?_
        refine WL.val rfl rfl rfl (Run.assign rfl rfl) ?_
        refine WL.val rfl rfl rfl (Run.assign rfl rfl) ?_
        refine WL.nil ?_
        refine tkN ?_
        refine hK60 _ _ ?_
        clear hK60
        refine WC.ret ?_
        refine retV2 rfl (resV.tmp rfl) (resV.tmp rfl) ?_
        rw [hf]
        have hx_ := OwnF.eqOf (xs := cellsOut l) ho19 (by simp only [cellsOut, hf, if_true]; rw [p3, List.drop_eq_nil_of_le (by omega)]; simp [cellsGo])
        rw [← hx_]
        first | exact ⟨_, _, _, rfl, (St.keep1 hs20), ho19⟩ | exact ⟨A16, c17, _, by rw [OwnF.len_ ho19], (St.keep1 hs20), by rw [OwnF.len_ ho19]; exact ho19⟩
end Go.Proofs.Ytpiimkfonlijdaa
