/- Walks of Go functions, printed by a program (wip/gen). -/
import Derived.Test.YtghcicggamkjgaaP5
namespace Go.Proofs.Ytghcicggamkjgaa
open Go Go.RowKit
set_option linter.unusedVariables false
set_option linter.unusedSimpArgs false
theorem c_laws_eqRect (a_Pane : Int) (a_X : Int) (a_Y : Int) (a_W : Int) (a_H : Int) (b_Pane : Int) (b_X : Int) (b_Y : Int) (b_W : Int) (b_H : Int) (w : World) (hab : (⟨a_Pane, a_X, a_Y, a_W, a_H⟩ : RectD) = (⟨b_Pane, b_X, b_Y, b_W, b_H⟩ : RectD)) :
    Calls Try.prog 37 #[.agg #[i64 a_Pane, i64 a_X, i64 a_Y, i64 a_W, i64 a_H], .agg #[i64 b_Pane, i64 b_X, i64 b_Y, i64 b_W, i64 b_H]] w fun e w' => e = .returned (.bool true) ∧ St w [] [] w' := by
  cases hab
  refine enter (vs := [.agg #[i64 a_Pane, i64 a_X, i64 a_Y, i64 a_W, i64 a_H], .agg #[i64 a_Pane, i64 a_X, i64 a_Y, i64 a_W, i64 a_H]]) 30 Try.func37 rfl Try.ntmps37 rfl rfl ?_
  have hs1 := St.init w
  refine WC.seq (fun K2 hK2 => ?_)
  refine WC.region ?_
  refine WL.box hs1 rfl rfl rfl rfl rfl rfl (fun b3 whs4 hs4 => ?_)
  refine WL.box hs4 rfl rfl rfl rfl rfl rfl (fun b5 whs6 hs6 => ?_)
  refine WL.val rfl rfl rfl (Run.assign rfl rfl) ?_
  refine WL.nil ?_
  refine tkN ?_
  refine hK2 _ _ ?_
  clear hK2
  refine WC.seq (fun K7 hK7 => ?_)
  refine WC.seq (fun K8 hK8 => ?_)
  refine WC.region ?_
  refine WL.val rfl rfl rfl (Run.field Try.runUnderlying40 rfl rfl rfl Try.sizeOf3 rfl) ?_
  refine WL.val rfl rfl rfl (Run.loadL hs6 1 Try.isAgg3 rfl rfl rfl rfl) ?_
  refine WL.val rfl rfl rfl (Run.field Try.runUnderlying40 rfl rfl rfl Try.sizeOf3 rfl) ?_
  refine WL.val rfl rfl rfl (Run.loadL hs6 0 Try.isAgg3 rfl rfl rfl rfl) ?_
  refine WL.val rfl rfl rfl (Run.neq rfl rfl rfl) ?_
  refine WL.nil ?_
  refine tkN ?_
  refine hK8 _ _ ?_
  clear hK8
  refine WC.condF rfl (by simp) ?_
  refine WC.skip ?_
  refine tkN ?_
  refine hK7 _ _ ?_
  clear hK7
  refine WC.seq (fun K10 hK10 => ?_)
  refine WC.seq (fun K11 hK11 => ?_)
  refine WC.region ?_
  refine WL.val rfl rfl rfl (Run.field Try.runUnderlying40 rfl rfl rfl Try.sizeOf3 rfl) ?_
  refine WL.val rfl rfl rfl (Run.loadL hs6 1 Try.isAgg3 rfl rfl rfl rfl) ?_
  refine WL.val rfl rfl rfl (Run.field Try.runUnderlying40 rfl rfl rfl Try.sizeOf3 rfl) ?_
  refine WL.val rfl rfl rfl (Run.loadL hs6 0 Try.isAgg3 rfl rfl rfl rfl) ?_
  refine WL.val rfl rfl rfl (Run.neq rfl rfl rfl) ?_
  refine WL.nil ?_
  refine tkN ?_
  refine hK11 _ _ ?_
  clear hK11
  refine WC.condF rfl (by simp) ?_
  refine WC.skip ?_
  refine tkN ?_
  refine hK10 _ _ ?_
  clear hK10
  refine WC.seq (fun K13 hK13 => ?_)
  refine WC.seq (fun K14 hK14 => ?_)
  refine WC.region ?_
  refine WL.val rfl rfl rfl (Run.field Try.runUnderlying40 rfl rfl rfl Try.sizeOf3 rfl) ?_
  refine WL.val rfl rfl rfl (Run.loadL hs6 1 Try.isAgg3 rfl rfl rfl rfl) ?_
  refine WL.val rfl rfl rfl (Run.field Try.runUnderlying40 rfl rfl rfl Try.sizeOf3 rfl) ?_
  refine WL.val rfl rfl rfl (Run.loadL hs6 0 Try.isAgg3 rfl rfl rfl rfl) ?_
  refine WL.val rfl rfl rfl (Run.neq rfl rfl rfl) ?_
  refine WL.nil ?_
  refine tkN ?_
  refine hK14 _ _ ?_
  clear hK14
  refine WC.condF rfl (by simp) ?_
  refine WC.skip ?_
  refine tkN ?_
  refine hK13 _ _ ?_
  clear hK13
  refine WC.seq (fun K16 hK16 => ?_)
  refine WC.seq (fun K17 hK17 => ?_)
  refine WC.region ?_
  refine WL.val rfl rfl rfl (Run.field Try.runUnderlying40 rfl rfl rfl Try.sizeOf3 rfl) ?_
  refine WL.val rfl rfl rfl (Run.loadL hs6 1 Try.isAgg3 rfl rfl rfl rfl) ?_
  refine WL.val rfl rfl rfl (Run.field Try.runUnderlying40 rfl rfl rfl Try.sizeOf3 rfl) ?_
  refine WL.val rfl rfl rfl (Run.loadL hs6 0 Try.isAgg3 rfl rfl rfl rfl) ?_
  refine WL.val rfl rfl rfl (Run.neq rfl rfl rfl) ?_
  refine WL.nil ?_
  refine tkN ?_
  refine hK17 _ _ ?_
  clear hK17
  refine WC.condF rfl (by simp) ?_
  refine WC.skip ?_
  refine tkN ?_
  refine hK16 _ _ ?_
  clear hK16
  refine WC.seq (fun K19 hK19 => ?_)
  refine WC.seq (fun K20 hK20 => ?_)
  refine WC.region ?_
  refine WL.val rfl rfl rfl (Run.field Try.runUnderlying40 rfl rfl rfl Try.sizeOf3 rfl) ?_
  refine WL.val rfl rfl rfl (Run.loadL hs6 1 Try.isAgg3 rfl rfl rfl rfl) ?_
  refine WL.val rfl rfl rfl (Run.field Try.runUnderlying40 rfl rfl rfl Try.sizeOf3 rfl) ?_
  refine WL.val rfl rfl rfl (Run.loadL hs6 0 Try.isAgg3 rfl rfl rfl rfl) ?_
  refine WL.val rfl rfl rfl (Run.neq rfl rfl rfl) ?_
  refine WL.nil ?_
  refine tkN ?_
  refine hK20 _ _ ?_
  clear hK20
  refine WC.condF rfl (by simp) ?_
  refine WC.skip ?_
  refine tkN ?_
  refine hK19 _ _ ?_
  clear hK19
  refine WC.seq (fun K22 hK22 => ?_)
  refine WC.region ?_
  refine WL.val rfl rfl rfl (Run.assign rfl rfl) ?_
  refine WL.nil ?_
  refine tkN ?_
  refine hK22 _ _ ?_
  clear hK22
  refine WC.ret ?_
  refine retV1 rfl (resV.tmp rfl) ?_
  refine ⟨congrArg Ending.returned ?_, hs6.nil⟩
  rfl
theorem c_laws_eqRectS (A_a : Option Addr) (n_a c_a : Nat) (a : List RectD) (A_b : Option Addr) (n_b c_b : Nat) (b : List RectD) (w : World) (f_a : SlF encRect w A_a n_a a) (f_b : SlF encRect w A_b n_b b) (hn : n_a ≤ 1099511627776) (hab : a = b) :
    Calls Try.prog 43 #[.slice A_a n_a c_a, .slice A_b n_b c_b] w fun e w' => e = .returned (.bool true) ∧ St w [] [] w' := by
  subst hab
  obtain rfl : n_a = n_b := f_a.len.symm.trans f_b.len
  refine enter (vs := [.slice A_a n_a c_a, .slice A_b n_a c_b]) 27 Try.func43 rfl Try.ntmps43 rfl rfl ?_
  have hs1 := St.init w
  refine WC.seq (fun K2 hK2 => ?_)
  refine WC.region ?_
  refine WL.val rfl rfl rfl (Run.assign rfl rfl) ?_
  refine WL.nil ?_
  refine tkN ?_
  refine hK2 _ _ ?_
  clear hK2
  refine WC.seq (fun K3 hK3 => ?_)
  refine WC.seq (fun K4 hK4 => ?_)
  refine WC.region ?_
  refine WL.val rfl rfl rfl (Run.move rfl rfl) ?_
  refine WL.val rfl rfl rfl (Run.lenSl Try.runUnderlying48 rfl rfl) ?_
  refine WL.val rfl rfl rfl (Run.move rfl rfl) ?_
  refine WL.val rfl rfl rfl (Run.lenSl Try.runUnderlying48 rfl rfl) ?_
  refine WL.val rfl rfl rfl (Run.neq rfl rfl rfl) ?_
  refine WL.nil ?_
  refine tkN ?_
  refine hK4 _ _ ?_
  clear hK4
  refine WC.condF rfl (by simp) ?_
  refine WC.skip ?_
  refine tkN ?_
  refine hK3 _ _ ?_
  clear hK3
  refine WC.seq (fun K6 hK6 => ?_)
  refine WC.seq (fun K7 hK7 => ?_)
  refine WC.region ?_
  refine WL.val rfl rfl rfl (Run.assign rfl rfl) ?_
  refine WL.nil ?_
  refine tkN ?_
  refine hK7 _ _ ?_
  clear hK7
  refine WC.block ?_
  refine WC.loopS [(0, _), (1, _), (6, _), (7, _), (8, _), (9, _), (10, _)] ⟨rfl, rfl, rfl, rfl, rfl, rfl, rfl, trivial⟩ hs1 (fun k_ f w' => ∃ (i : Nat), k_ = n_a - i ∧ (i ≤ n_a) ∧ Sub [(5, .int .i64 i)] f) ((fun (i : Nat) => n_a - i) (0)) ?_ ?_
  · refine ⟨0, rfl, ?_, ⟨rfl, trivial⟩⟩
    · exact Nat.zero_le _
  · clear hs1
    rintro _ f w ⟨i, rfl, p0, hG⟩ hF hs8
    refine WC.sub _ (hG.app hF) ?_
    clear hG hF
    refine WC.seq (fun K9 hK9 => ?_)
    refine WC.seq (fun K10 hK10 => ?_)
    refine WC.region ?_
    refine WL.val rfl rfl rfl (Run.move rfl rfl) ?_
    refine WL.val rfl rfl rfl (Run.move rfl rfl) ?_
    refine WL.val rfl rfl rfl (Run.lenSl Try.runUnderlying48 rfl rfl) ?_
    refine WL.val rfl rfl rfl (Run.lss rfl rfl rfl) ?_
    refine WL.nil ?_
    refine tkN ?_
    refine hK10 _ _ ?_
    clear hK10
    refine WC.cond rfl (fun h11 => ?_) (fun h11 => ?_)
    · have qh11 := h11
      try simp only [decide_eq_true_eq, decide_eq_false_iff_not, Bool.not_eq_true', Bool.not_eq_false', Bool.and_eq_true, Bool.or_eq_false_iff, within_iff, within_not] at qh11
      refine WC.skip ?_
      refine tkN ?_
      refine hK9 _ _ ?_
      clear hK9
      refine WC.seq (fun K12 hK12 => ?_)
      refine WC.block ?_
      refine WC.seq (fun K13 hK13 => ?_)
      refine WC.regionQ (fun w' => St _ _ _ w') mixed (by kernel_rfl) hs8.drew ?_
      refine WQ.val rfl rfl rfl (fun w_ hs_ => (Run.move rfl rfl)) ?_
      refine WQ.val rfl rfl rfl (fun w_ hs_ => (Run.move rfl rfl)) ?_
      refine WQ.val rfl rfl rfl (fun w_ hs_ => (Run.idxN Try.runUnderlying48 Try.sizeOf40 rfl rfl rfl ?_ ?_ ?_)) ?_
      · exact SlF.some_ (SlF.st0 f_a (hs_ : St _ _ _ _))
      · omega
      · omega
      refine WQ.val rfl rfl rfl (fun w_ hs_ => (Run.loadA Try.isAgg40 Try.sizeOf40 rfl rfl (SlF.whole (SlF.st0 f_a (hs_ : St _ _ _ _)) ?_))) ?_
      · omega
      refine WQ.val rfl rfl rfl (fun w_ hs_ => (Run.move rfl rfl)) ?_
      refine WQ.val rfl rfl rfl (fun w_ hs_ => (Run.move rfl rfl)) ?_
      refine WQ.val rfl rfl rfl (fun w_ hs_ => (Run.idxN Try.runUnderlying48 Try.sizeOf40 rfl rfl rfl ?_ ?_ ?_)) ?_
      · exact SlF.some_ (SlF.st0 f_b (hs_ : St _ _ _ _))
      · omega
      · omega
      refine WQ.val rfl rfl rfl (fun w_ hs_ => (Run.loadA Try.isAgg40 Try.sizeOf40 rfl rfl (SlF.whole (SlF.st0 f_b (hs_ : St _ _ _ _)) ?_))) ?_
      · omega
      refine WQ.call rfl rfl rfl (fun w_ hs_ => (Run.call Try.call37 rfl rfl rfl)) (fun w_ hs_ => (c_laws_eqRect _ _ _ _ _ _ _ _ _ _ _ ?_).mono fun e_ w_ h_ => ⟨h_.1, (hs_ : St _ _ _ _).call0 h_.2⟩) ?_
      · first | assumption | rfl | omega
      refine WQ.val rfl rfl rfl (fun w_ hs_ => (Run.not rfl rfl)) ?_
      refine WQ.nil (fun whs14 hs14 => ?_)
      replace hs14 : St _ _ _ _ := hs14
      refine tkN ?_
      refine hK13 _ _ ?_
      clear hK13
      refine WC.condF rfl (by simp) ?_
      refine WC.skip ?_
      refine ibN ?_
      refine tkN ?_
      refine hK12 _ _ ?_
      clear hK12
      refine WC.region ?_
      refine WL.val rfl rfl rfl (Run.move rfl rfl) ?_
      refine WL.val rfl rfl rfl (Run.add rfl rfl rfl ?_) ?_
      · constructor <;> omega
      refine WL.val rfl rfl rfl (Run.assign rfl rfl) ?_
      refine WL.nil ?_
      refine tkN ?_
      refine ⟨⟨rfl, rfl, rfl, rfl, rfl, rfl, rfl, trivial⟩, hs14, _, ?_, i + 1, rfl, ?_, ⟨rfl, trivial⟩⟩
      · omega
      · omega
    · have qh11 := h11
      try simp only [decide_eq_true_eq, decide_eq_false_iff_not, Bool.not_eq_true', Bool.not_eq_false', Bool.and_eq_true, Bool.or_eq_false_iff, within_iff, within_not] at qh11
      refine WC.exit ?_
      refine tkE ?_
      refine tkE ?_
      refine ibE ?_
      refine tkN ?_
      refine hK6 _ _ ?_
      clear hK6
      refine WC.seq (fun K16 hK16 => ?_)
      refine WC.region ?_
      refine WL.val rfl rfl rfl (Run.assign rfl rfl) ?_
      refine WL.nil ?_
      refine tkN ?_
      refine hK16 _ _ ?_
      clear hK16
      refine WC.ret ?_
      refine retV1 rfl (resV.tmp rfl) ?_
      refine ⟨congrArg Ending.returned ?_, hs8.nil⟩
      rfl
theorem c_laws_markRectS (v_a : Value) (a : List RectD) (L_a : Hp) (k : Int) (w : World) (o_a : OwnF encRect 40 v_a a L_a) (h_a : ∀ p, p ∈ L_a → w.heap[p.1]? = some p.2) (h1 : 0 ≤ k) (h2 : k ≤ 1099511627776) (h3 : a.length ≤ 1099511627776) :
    Calls Try.prog 44 #[v_a, i64 k] w fun e w' => ∃ L1, e = .returned (.int .i64 (k + 5 * a.length)) ∧ St w (L_a.map (·.1)) L1 w' ∧ OwnF encRect 40 v_a (marks mkRect 5 k a.length) L1 := by
  obtain ⟨A_a, c_a, rfl⟩ := o_a.shape
  refine enter (vs := [.slice A_a a.length c_a, i64 k]) 48 Try.func44 rfl Try.ntmps44 rfl rfl ?_
  have hs1 := St.lent1 w L_a o_a h_a
  refine WC.seq (fun K2 hK2 => ?_)
  refine WC.region ?_
  refine WL.val rfl rfl rfl (Run.assign rfl rfl) ?_
  refine WL.nil ?_
  refine tkN ?_
  refine hK2 _ _ ?_
  clear hK2
  refine WC.seq (fun K3 hK3 => ?_)
  refine WC.seq (fun K4 hK4 => ?_)
  refine WC.region ?_
  refine WL.val rfl rfl rfl (Run.assign rfl rfl) ?_
  refine WL.nil ?_
  refine tkN ?_
  refine hK4 _ _ ?_
  clear hK4
  refine WC.block ?_
  refine WC.loopO [(4, _)] ⟨rfl, trivial⟩ hs1 (fun k_ f L_ => ∃ (i : Nat) (q : Int), k_ = a.length - i ∧ (i ≤ a.length) ∧ (q = k + 5 * i) ∧ OwnF encRect 40 (.slice A_a (a.length) c_a) (fillM mkRect 5 k a i) L_ ∧ Sub [(0, .slice A_a (a.length) c_a), (5, .int .i64 i), (1, .int .i64 q)] f) (((fun (i : Nat) (q : Int) => a.length - i) (0) (k))) ?_ ?_
  · refine ⟨0, k, rfl, ?_, ?_, (fillM_zero.symm ▸ o_a), ⟨rfl, rfl, rfl, trivial⟩⟩
    · exact Nat.zero_le _
    · simp
  · clear hs1
    rintro _ f w L7 ⟨i, q, rfl, p0, p1, ho8, hG⟩ hF hs9
    refine WC.sub _ (hG.app hF) ?_
    clear hG hF
    have hfl : (fillM mkRect 5 k a i).length = a.length := fillM_len p0
    have hq : k + ((5 : Nat) : Int) * (i : Int) = q := by omega
    refine WC.seq (fun K10 hK10 => ?_)
    refine WC.seq (fun K11 hK11 => ?_)
    refine WC.region ?_
    refine WL.val rfl rfl rfl (Run.move rfl rfl) ?_
    refine WL.val rfl rfl rfl (Run.move rfl rfl) ?_
    refine WL.val rfl rfl rfl (Run.lenSl Try.runUnderlying48 rfl rfl) ?_
    refine WL.val rfl rfl rfl (Run.lss rfl rfl rfl) ?_
    refine WL.nil ?_
    refine tkN ?_
    refine hK11 _ _ ?_
    clear hK11
    refine WC.cond rfl (fun h12 => ?_) (fun h12 => ?_)
    · have qh12 := h12
      try simp only [decide_eq_true_eq, decide_eq_false_iff_not, Bool.not_eq_true', Bool.not_eq_false', Bool.and_eq_true, Bool.or_eq_false_iff, within_iff, within_not] at qh12
      refine WC.skip ?_
      refine tkN ?_
      refine hK10 _ _ ?_
      clear hK10
      refine WC.seq (fun K13 hK13 => ?_)
      refine WC.block ?_
      refine WC.seq (fun K14 hK14 => ?_)
      refine WC.region ?_
      refine WL.val rfl rfl rfl (Run.move rfl rfl) ?_
      refine WL.val rfl rfl rfl (Run.move rfl rfl) ?_
      refine WL.val rfl rfl rfl (Run.move rfl rfl) ?_
      refine WL.val rfl rfl rfl (Run.idxN Try.runUnderlying48 Try.sizeOf40 rfl rfl rfl ?_ ?_ ?_) ?_
      · exact SlF.some_ (SlF.ofOwn ho8 (fun p_ hp_ => (hs9.own p_ (List.mem_append_left _ hp_)).1))
      · omega
      · omega
      refine WL.val rfl rfl rfl (Run.fieldO Try.runUnderlying40 rfl rfl rfl Try.sizeOf3 rfl) ?_
      refine WL.storeF (x' := ⟨q, (gat encRect (fillM mkRect 5 k a i) i).X, (gat encRect (fillM mkRect 5 k a i) i).Y, (gat encRect (fillM mkRect 5 k a i) i).W, (gat encRect (fillM mkRect 5 k a i) i).H⟩) hs9 ho8 Try.sizeOf3 rfl rfl rfl rfl rfl rfl rfl rfl rfl ?_ (by first | rfl | (rw [gat_set (by (try simp only [List.length_set]); omega) rfl]; rfl)) (fun L15 whs16 hs16 ho17 _ => ?_)
      · omega
      refine WL.nil ?_
      refine tkN ?_
      refine hK14 _ _ ?_
      clear hK14
      refine WC.seq (fun K18 hK18 => ?_)
      refine WC.region ?_
      refine WL.val rfl rfl rfl (Run.move rfl rfl) ?_
      refine WL.val rfl rfl rfl (Run.add rfl rfl rfl ?_) ?_
      · constructor <;> omega
      refine WL.val rfl rfl rfl (Run.assign rfl rfl) ?_
      refine WL.nil ?_
      refine tkN ?_
      refine hK18 _ _ ?_
      clear hK18
      refine WC.seq (fun K19 hK19 => ?_)
      refine WC.region ?_
      refine WL.val rfl rfl rfl (Run.move rfl rfl) ?_
      refine WL.val rfl rfl rfl (Run.move rfl rfl) ?_
      refine WL.val rfl rfl rfl (Run.move rfl rfl) ?_
      refine WL.val rfl rfl rfl (Run.idxN Try.runUnderlying48 Try.sizeOf40 rfl rfl rfl ?_ ?_ ?_) ?_
      · exact SlF.some_ (SlF.ofOwn ho17 (fun p_ hp_ => (hs16.own p_ (List.mem_append_left _ hp_)).1))
      · omega
      · omega
      refine WL.val rfl rfl rfl (Run.fieldO Try.runUnderlying40 rfl rfl rfl Try.sizeOf3 rfl) ?_
      refine WL.storeF (x' := ⟨q, (q + 1), (gat encRect (fillM mkRect 5 k a i) i).Y, (gat encRect (fillM mkRect 5 k a i) i).W, (gat encRect (fillM mkRect 5 k a i) i).H⟩) hs16 ho17 Try.sizeOf3 rfl rfl rfl rfl rfl rfl rfl rfl rfl ?_ (by first | rfl | (rw [gat_set (by (try simp only [List.length_set]); omega) rfl]; rfl)) (fun L20 whs21 hs21 ho22 _ => ?_)
      · omega
      refine WL.nil ?_
      refine tkN ?_
      refine hK19 _ _ ?_
      clear hK19
      refine WC.seq (fun K23 hK23 => ?_)
      refine WC.region ?_
      refine WL.val rfl rfl rfl (Run.move rfl rfl) ?_
      refine WL.val rfl rfl rfl (Run.add rfl rfl rfl ?_) ?_
      · constructor <;> omega
      refine WL.val rfl rfl rfl (Run.assign rfl rfl) ?_
      refine WL.nil ?_
      refine tkN ?_
      refine hK23 _ _ ?_
      clear hK23
      refine WC.seq (fun K24 hK24 => ?_)
      refine WC.region ?_
      refine WL.val rfl rfl rfl (Run.move rfl rfl) ?_
      refine WL.val rfl rfl rfl (Run.move rfl rfl) ?_
      refine WL.val rfl rfl rfl (Run.move rfl rfl) ?_
      refine WL.val rfl rfl rfl (Run.idxN Try.runUnderlying48 Try.sizeOf40 rfl rfl rfl ?_ ?_ ?_) ?_
      · exact SlF.some_ (SlF.ofOwn ho22 (fun p_ hp_ => (hs21.own p_ (List.mem_append_left _ hp_)).1))
      · omega
      · omega
      refine WL.val rfl rfl rfl (Run.fieldO Try.runUnderlying40 rfl rfl rfl Try.sizeOf3 rfl) ?_
      refine WL.storeF (x' := ⟨q, (q + 1), (q + 1 + 1), (gat encRect (fillM mkRect 5 k a i) i).W, (gat encRect (fillM mkRect 5 k a i) i).H⟩) hs21 ho22 Try.sizeOf3 rfl rfl rfl rfl rfl rfl rfl rfl rfl ?_ (by first | rfl | (rw [gat_set (by (try simp only [List.length_set]); omega) rfl]; rfl)) (fun L25 whs26 hs26 ho27 _ => ?_)
      · omega
      refine WL.nil ?_
      refine tkN ?_
      refine hK24 _ _ ?_
      clear hK24
      refine WC.seq (fun K28 hK28 => ?_)
      refine WC.region ?_
      refine WL.val rfl rfl rfl (Run.move rfl rfl) ?_
      refine WL.val rfl rfl rfl (Run.add rfl rfl rfl ?_) ?_
      · constructor <;> omega
      refine WL.val rfl rfl rfl (Run.assign rfl rfl) ?_
      refine WL.nil ?_
      refine tkN ?_
      refine hK28 _ _ ?_
      clear hK28
      refine WC.seq (fun K29 hK29 => ?_)
      refine WC.region ?_
      refine WL.val rfl rfl rfl (Run.move rfl rfl) ?_
      refine WL.val rfl rfl rfl (Run.move rfl rfl) ?_
      refine WL.val rfl rfl rfl (Run.move rfl rfl) ?_
      refine WL.val rfl rfl rfl (Run.idxN Try.runUnderlying48 Try.sizeOf40 rfl rfl rfl ?_ ?_ ?_) ?_
      · exact SlF.some_ (SlF.ofOwn ho27 (fun p_ hp_ => (hs26.own p_ (List.mem_append_left _ hp_)).1))
      · omega
      · omega
      refine WL.val rfl rfl rfl (Run.fieldO Try.runUnderlying40 rfl rfl rfl Try.sizeOf3 rfl) ?_
      refine WL.storeF (x' := ⟨q, (q + 1), (q + 1 + 1), (q + 1 + 1 + 1), (gat encRect (fillM mkRect 5 k a i) i).H⟩) hs26 ho27 Try.sizeOf3 rfl rfl rfl rfl rfl rfl rfl rfl rfl ?_ (by first | rfl | (rw [gat_set (by (try simp only [List.length_set]); omega) rfl]; rfl)) (fun L30 whs31 hs31 ho32 _ => ?_)
      · omega
      refine WL.nil ?_
      refine tkN ?_
      refine hK29 _ _ ?_
      clear hK29
      refine WC.seq (fun K33 hK33 => ?_)
      refine WC.region ?_
      refine WL.val rfl rfl rfl (Run.move rfl rfl) ?_
      refine WL.val rfl rfl rfl (Run.add rfl rfl rfl ?_) ?_
      · constructor <;> omega
      refine WL.val rfl rfl rfl (Run.assign rfl rfl) ?_
      refine WL.nil ?_
      refine tkN ?_
      refine hK33 _ _ ?_
      clear hK33
      refine WC.seq (fun K34 hK34 => ?_)
      refine WC.region ?_
      refine WL.val rfl rfl rfl (Run.move rfl rfl) ?_
      refine WL.val rfl rfl rfl (Run.move rfl rfl) ?_
      refine WL.val rfl rfl rfl (Run.move rfl rfl) ?_
      refine WL.val rfl rfl rfl (Run.idxN Try.runUnderlying48 Try.sizeOf40 rfl rfl rfl ?_ ?_ ?_) ?_
      · exact SlF.some_ (SlF.ofOwn ho32 (fun p_ hp_ => (hs31.own p_ (List.mem_append_left _ hp_)).1))
      · omega
      · omega
      refine WL.val rfl rfl rfl (Run.fieldO Try.runUnderlying40 rfl rfl rfl Try.sizeOf3 rfl) ?_
      refine WL.storeF (x' := ⟨q, (q + 1), (q + 1 + 1), (q + 1 + 1 + 1), (q + 1 + 1 + 1 + 1)⟩) hs31 ho32 Try.sizeOf3 rfl rfl rfl rfl rfl rfl rfl rfl rfl ?_ (by first | rfl | (rw [gat_set (by (try simp only [List.length_set]); omega) rfl]; rfl)) (fun L35 whs36 hs36 ho37 _ => ?_)
      · omega
      refine WL.nil ?_
      refine tkN ?_
      refine hK34 _ _ ?_
      clear hK34
      refine WC.region ?_
      refine WL.val rfl rfl rfl (Run.move rfl rfl) ?_
      refine WL.val rfl rfl rfl (Run.add rfl rfl rfl ?_) ?_
      · constructor <;> omega
      refine WL.val rfl rfl rfl (Run.assign rfl rfl) ?_
      refine WL.nil ?_
      refine ibN ?_
      refine tkN ?_
      refine hK13 _ _ ?_
      clear hK13
      refine WC.region ?_
      refine WL.val rfl rfl rfl (Run.move rfl rfl) ?_
      refine WL.val rfl rfl rfl (Run.add rfl rfl rfl ?_) ?_
      · constructor <;> omega
      refine WL.val rfl rfl rfl (Run.assign rfl rfl) ?_
      refine WL.nil ?_
      refine tkN ?_
      try simp only [List.set_set] at ho37
      rw [fillM_set (i := i) (by omega) (by rw [hq]; rfl) (by simp)] at ho37
      refine ⟨⟨rfl, trivial⟩, _, hs36, _, ?_, i + 1, _, rfl, ?_, ?_, ho37, ⟨rfl, rfl, rfl, trivial⟩⟩
      · omega
      · omega
      · omega
    · have qh12 := h12
      try simp only [decide_eq_true_eq, decide_eq_false_iff_not, Bool.not_eq_true', Bool.not_eq_false', Bool.and_eq_true, Bool.or_eq_false_iff, within_iff, within_not] at qh12
      refine WC.exit ?_
      refine tkE ?_
      refine tkE ?_
      refine ibE ?_
      refine tkN ?_
      refine hK3 _ _ ?_
      clear hK3
      refine WC.seq (fun K38 hK38 => ?_)
      refine WC.region ?_
      refine WL.val rfl rfl rfl (Run.move rfl rfl) ?_
      refine WL.val rfl rfl rfl (Run.assign rfl rfl) ?_
      refine WL.nil ?_
      refine tkN ?_
      refine hK38 _ _ ?_
      clear hK38
      refine WC.ret ?_
      refine retV1 rfl (resV.tmp rfl) ?_
      have hx_ := OwnF.eqOf (xs := marks mkRect 5 k a.length) ho8 (fillM_full (by omega))
      have hi_ : i = a.length := by omega
      refine ⟨_, ?_, (St.keep1 hs9), hx_ ▸ ho8⟩
      rw [p1, hi_]
theorem c_laws_heldRectS (A_a : Option Addr) (n_a c_a : Nat) (a : List RectD) (k : Int) (w : World) (f_a : SlF encRect w A_a n_a a) (h1 : 0 ≤ k) (h2 : k ≤ 1099511627776) (h3 : n_a ≤ 1099511627776) (hm : a = marks mkRect 5 k n_a) :
    Calls Try.prog 45 #[.slice A_a n_a c_a, i64 k] w fun e w' => e = .returned (.int .i64 (k + 5 * n_a)) ∧ St w [] [] w' := by
  refine enter (vs := [.slice A_a n_a c_a, i64 k]) 58 Try.func45 rfl Try.ntmps45 rfl rfl ?_
  have hs1 := St.init w
  refine WC.seq (fun K2 hK2 => ?_)
  refine WC.region ?_
  refine WL.val rfl rfl rfl (Run.assign rfl rfl) ?_
  refine WL.nil ?_
  refine tkN ?_
  refine hK2 _ _ ?_
  clear hK2
  refine WC.seq (fun K3 hK3 => ?_)
  refine WC.seq (fun K4 hK4 => ?_)
  refine WC.region ?_
  refine WL.val rfl rfl rfl (Run.assign rfl rfl) ?_
  refine WL.nil ?_
  refine tkN ?_
  refine hK4 _ _ ?_
  clear hK4
  refine WC.block ?_
  refine WC.loopS [(0, _)] ⟨rfl, trivial⟩ hs1 (fun k_ f w' => ∃ (i : Nat) (q : Int), k_ = n_a - i ∧ (i ≤ n_a) ∧ (q = k + 5 * i) ∧ Sub [(5, .int .i64 i), (1, .int .i64 q)] f) ((fun (i : Nat) (q : Int) => n_a - i) (0) (k)) ?_ ?_
  · refine ⟨0, k, rfl, ?_, ?_, ⟨rfl, rfl, trivial⟩⟩
    · exact Nat.zero_le _
    · simp
  · clear hs1
    rintro _ f w ⟨i, q, rfl, p0, p1, hG⟩ hF hs5
    refine WC.sub _ (hG.app hF) ?_
    clear hG hF
    have hq : k + ((5 : Nat) : Int) * (i : Int) = q := by omega
    refine WC.seq (fun K6 hK6 => ?_)
    refine WC.seq (fun K7 hK7 => ?_)
    refine WC.region ?_
    refine WL.val rfl rfl rfl (Run.move rfl rfl) ?_
    refine WL.val rfl rfl rfl (Run.move rfl rfl) ?_
    refine WL.val rfl rfl rfl (Run.lenSl Try.runUnderlying48 rfl rfl) ?_
    refine WL.val rfl rfl rfl (Run.lss rfl rfl rfl) ?_
    refine WL.nil ?_
    refine tkN ?_
    refine hK7 _ _ ?_
    clear hK7
    refine WC.cond rfl (fun h8 => ?_) (fun h8 => ?_)
    · have qh8 := h8
      try simp only [decide_eq_true_eq, decide_eq_false_iff_not, Bool.not_eq_true', Bool.not_eq_false', Bool.and_eq_true, Bool.or_eq_false_iff, within_iff, within_not] at qh8
      have hg : gat encRect a i = mkRect q := by rw [hm, marks_gat (by omega), hq]
      refine WC.skip ?_
      refine tkN ?_
      refine hK6 _ _ ?_
      clear hK6
      refine WC.seq (fun K9 hK9 => ?_)
      refine WC.block ?_
      refine WC.seq (fun K10 hK10 => ?_)
      refine WC.seq (fun K11 hK11 => ?_)
      refine WC.region ?_
      refine WL.val rfl rfl rfl (Run.move rfl rfl) ?_
      refine WL.val rfl rfl rfl (Run.move rfl rfl) ?_
      refine WL.val rfl rfl rfl (Run.idxN Try.runUnderlying48 Try.sizeOf40 rfl rfl rfl ?_ ?_ ?_) ?_
      · exact SlF.some_ (SlF.st0 f_a hs5)
      · omega
      · omega
      refine WL.val rfl rfl rfl (Run.fieldO Try.runUnderlying40 rfl rfl rfl Try.sizeOf3 rfl) ?_
      refine WL.val rfl rfl rfl (Run.load Try.isAgg3 rfl rfl (SlF.fld (SlF.st0 f_a hs5) ?_ rfl)) ?_
      · omega
      refine WL.val rfl rfl rfl (Run.move rfl rfl) ?_
      refine WL.val rfl rfl rfl (Run.neq rfl rfl rfl) ?_
      refine WL.nil ?_
      refine tkN ?_
      refine hK11 _ _ ?_
      clear hK11
      refine WC.condF rfl (by simp [hg, mkRect]) ?_
      refine WC.skip ?_
      refine tkN ?_
      refine hK10 _ _ ?_
      clear hK10
      refine WC.seq (fun K13 hK13 => ?_)
      refine WC.region ?_
      refine WL.val rfl rfl rfl (Run.move rfl rfl) ?_
      refine WL.val rfl rfl rfl (Run.add rfl rfl rfl ?_) ?_
      · constructor <;> omega
      refine WL.val rfl rfl rfl (Run.assign rfl rfl) ?_
      refine WL.nil ?_
      refine tkN ?_
      refine hK13 _ _ ?_
      clear hK13
      refine WC.seq (fun K14 hK14 => ?_)
      refine WC.seq (fun K15 hK15 => ?_)
      refine WC.region ?_
      refine WL.val rfl rfl rfl (Run.move rfl rfl) ?_
      refine WL.val rfl rfl rfl (Run.move rfl rfl) ?_
      refine WL.val rfl rfl rfl (Run.idxN Try.runUnderlying48 Try.sizeOf40 rfl rfl rfl ?_ ?_ ?_) ?_
      · exact SlF.some_ (SlF.st0 f_a hs5)
      · omega
      · omega
      refine WL.val rfl rfl rfl (Run.fieldO Try.runUnderlying40 rfl rfl rfl Try.sizeOf3 rfl) ?_
      refine WL.val rfl rfl rfl (Run.load Try.isAgg3 rfl rfl (SlF.fld (SlF.st0 f_a hs5) ?_ rfl)) ?_
      · omega
      refine WL.val rfl rfl rfl (Run.move rfl rfl) ?_
      refine WL.val rfl rfl rfl (Run.neq rfl rfl rfl) ?_
      refine WL.nil ?_
      refine tkN ?_
      refine hK15 _ _ ?_
      clear hK15
      refine WC.condF rfl (by simp [hg, mkRect]) ?_
      refine WC.skip ?_
      refine tkN ?_
      refine hK14 _ _ ?_
      clear hK14
      refine WC.seq (fun K17 hK17 => ?_)
      refine WC.region ?_
      refine WL.val rfl rfl rfl (Run.move rfl rfl) ?_
      refine WL.val rfl rfl rfl (Run.add rfl rfl rfl ?_) ?_
      · constructor <;> omega
      refine WL.val rfl rfl rfl (Run.assign rfl rfl) ?_
      refine WL.nil ?_
      refine tkN ?_
      refine hK17 _ _ ?_
      clear hK17
      refine WC.seq (fun K18 hK18 => ?_)
      refine WC.seq (fun K19 hK19 => ?_)
      refine WC.region ?_
      refine WL.val rfl rfl rfl (Run.move rfl rfl) ?_
      refine WL.val rfl rfl rfl (Run.move rfl rfl) ?_
      refine WL.val rfl rfl rfl (Run.idxN Try.runUnderlying48 Try.sizeOf40 rfl rfl rfl ?_ ?_ ?_) ?_
      · exact SlF.some_ (SlF.st0 f_a hs5)
      · omega
      · omega
      refine WL.val rfl rfl rfl (Run.fieldO Try.runUnderlying40 rfl rfl rfl Try.sizeOf3 rfl) ?_
      refine WL.val rfl rfl rfl (Run.load Try.isAgg3 rfl rfl (SlF.fld (SlF.st0 f_a hs5) ?_ rfl)) ?_
      · omega
      refine WL.val rfl rfl rfl (Run.move rfl rfl) ?_
      refine WL.val rfl rfl rfl (Run.neq rfl rfl rfl) ?_
      refine WL.nil ?_
      refine tkN ?_
      refine hK19 _ _ ?_
      clear hK19
      refine WC.condF rfl (by simp [hg, mkRect]) ?_
      refine WC.skip ?_
      refine tkN ?_
      refine hK18 _ _ ?_
      clear hK18
      refine WC.seq (fun K21 hK21 => ?_)
      refine WC.region ?_
      refine WL.val rfl rfl rfl (Run.move rfl rfl) ?_
      refine WL.val rfl rfl rfl (Run.add rfl rfl rfl ?_) ?_
      · constructor <;> omega
      refine WL.val rfl rfl rfl (Run.assign rfl rfl) ?_
      refine WL.nil ?_
      refine tkN ?_
      refine hK21 _ _ ?_
      clear hK21
      refine WC.seq (fun K22 hK22 => ?_)
      refine WC.seq (fun K23 hK23 => ?_)
      refine WC.region ?_
      refine WL.val rfl rfl rfl (Run.move rfl rfl) ?_
      refine WL.val rfl rfl rfl (Run.move rfl rfl) ?_
      refine WL.val rfl rfl rfl (Run.idxN Try.runUnderlying48 Try.sizeOf40 rfl rfl rfl ?_ ?_ ?_) ?_
      · exact SlF.some_ (SlF.st0 f_a hs5)
      · omega
      · omega
      refine WL.val rfl rfl rfl (Run.fieldO Try.runUnderlying40 rfl rfl rfl Try.sizeOf3 rfl) ?_
      refine WL.val rfl rfl rfl (Run.load Try.isAgg3 rfl rfl (SlF.fld (SlF.st0 f_a hs5) ?_ rfl)) ?_
      · omega
      refine WL.val rfl rfl rfl (Run.move rfl rfl) ?_
      refine WL.val rfl rfl rfl (Run.neq rfl rfl rfl) ?_
      refine WL.nil ?_
      refine tkN ?_
      refine hK23 _ _ ?_
      clear hK23
      refine WC.condF rfl (by simp [hg, mkRect]) ?_
      refine WC.skip ?_
      refine tkN ?_
      refine hK22 _ _ ?_
      clear hK22
      refine WC.seq (fun K25 hK25 => ?_)
      refine WC.region ?_
      refine WL.val rfl rfl rfl (Run.move rfl rfl) ?_
      refine WL.val rfl rfl rfl (Run.add rfl rfl rfl ?_) ?_
      · constructor <;> omega
      refine WL.val rfl rfl rfl (Run.assign rfl rfl) ?_
      refine WL.nil ?_
      refine tkN ?_
      refine hK25 _ _ ?_
      clear hK25
      refine WC.seq (fun K26 hK26 => ?_)
      refine WC.seq (fun K27 hK27 => ?_)
      refine WC.region ?_
      refine WL.val rfl rfl rfl (Run.move rfl rfl) ?_
      refine WL.val rfl rfl rfl (Run.move rfl rfl) ?_
      refine WL.val rfl rfl rfl (Run.idxN Try.runUnderlying48 Try.sizeOf40 rfl rfl rfl ?_ ?_ ?_) ?_
      · exact SlF.some_ (SlF.st0 f_a hs5)
      · omega
      · omega
      refine WL.val rfl rfl rfl (Run.fieldO Try.runUnderlying40 rfl rfl rfl Try.sizeOf3 rfl) ?_
      refine WL.val rfl rfl rfl (Run.load Try.isAgg3 rfl rfl (SlF.fld (SlF.st0 f_a hs5) ?_ rfl)) ?_
      · omega
      refine WL.val rfl rfl rfl (Run.move rfl rfl) ?_
      refine WL.val rfl rfl rfl (Run.neq rfl rfl rfl) ?_
      refine WL.nil ?_
      refine tkN ?_
      refine hK27 _ _ ?_
      clear hK27
      refine WC.condF rfl (by simp [hg, mkRect]) ?_
      refine WC.skip ?_
      refine tkN ?_
      refine hK26 _ _ ?_
      clear hK26
      refine WC.region ?_
      refine WL.val rfl rfl rfl (Run.move rfl rfl) ?_
      refine WL.val rfl rfl rfl (Run.add rfl rfl rfl ?_) ?_
      · constructor <;> omega
      refine WL.val rfl rfl rfl (Run.assign rfl rfl) ?_
      refine WL.nil ?_
      refine ibN ?_
      refine tkN ?_
      refine hK9 _ _ ?_
      clear hK9
      refine WC.region ?_
      refine WL.val rfl rfl rfl (Run.move rfl rfl) ?_
      refine WL.val rfl rfl rfl (Run.add rfl rfl rfl ?_) ?_
      · constructor <;> omega
      refine WL.val rfl rfl rfl (Run.assign rfl rfl) ?_
      refine WL.nil ?_
      refine tkN ?_
      refine ⟨⟨rfl, trivial⟩, hs5, _, ?_, i + 1, _, rfl, ?_, ?_, ⟨rfl, rfl, trivial⟩⟩
      · omega
      · omega
      · omega
    · have qh8 := h8
      try simp only [decide_eq_true_eq, decide_eq_false_iff_not, Bool.not_eq_true', Bool.not_eq_false', Bool.and_eq_true, Bool.or_eq_false_iff, within_iff, within_not] at qh8
      refine WC.exit ?_
      refine tkE ?_
      refine tkE ?_
      refine ibE ?_
      refine tkN ?_
      refine hK3 _ _ ?_
      clear hK3
      refine WC.seq (fun K29 hK29 => ?_)
      refine WC.region ?_
      refine WL.val rfl rfl rfl (Run.move rfl rfl) ?_
      refine WL.val rfl rfl rfl (Run.assign rfl rfl) ?_
      refine WL.nil ?_
      refine tkN ?_
      refine hK29 _ _ ?_
      clear hK29
      refine WC.ret ?_
      refine retV1 rfl (resV.tmp rfl) ?_
      refine ⟨congrArg Ending.returned ?_, hs5.nil⟩
      rw [p1, show i = n_a from by omega]
end Go.Proofs.Ytghcicggamkjgaa
