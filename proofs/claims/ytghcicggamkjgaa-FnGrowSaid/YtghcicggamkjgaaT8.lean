/- Walks of Go functions, printed by a program (wip/gen). -/
import Derived.Test.YtghcicggamkjgaaT7
namespace Go.Proofs.Ytghcicggamkjgaa
open Go Go.RowKit
set_option linter.unusedVariables false
set_option linter.unusedSimpArgs false
theorem c_impl_Cut (A_t : Option Addr) (n_t c_t : Nat) (t : List NodeD) (p : Int) (w : World) (f_t : SlF encNode w A_t n_t t) (hc : n_t ≤ c_t) (hn : n_t ≤ 268435456) :
    Calls Try.prog 34 #[.slice A_t n_t c_t, i64 p] w fun e w' => ∃ A c L1, e = .returned (.tuple #[.slice A (cutL t p).length c, .bool (cutOk t p)]) ∧ St w [] L1 w' ∧ OwnF encNode 62 (.slice A (cutL t p).length c) (cutL t p) L1 := by
  have hl := f_t.len
  have hla := atL_lt t p
  refine enter (vs := [.slice A_t n_t c_t, i64 p]) 42 Try.func34 rfl Try.ntmps34 rfl rfl ?_
  have hs1 := St.init w
  refine WC.seq (fun K2 hK2 => ?_)
  refine WC.region ?_
  refine WL.val rfl rfl rfl (Run.assign rfl rfl) ?_
  refine WL.val rfl rfl rfl (Run.assign rfl rfl) ?_
  refine WL.nil ?_
  refine tkN ?_
  refine hK2 _ _ ?_
  clear hK2
  refine WC.seq (fun K3 hK3 => ?_)
  refine WC.region ?_
  refine WL.val rfl rfl rfl (Run.move rfl rfl) ?_
  refine WL.val rfl rfl rfl (Run.move rfl rfl) ?_
  refine WL.call rfl rfl rfl (Run.call Try.call65 rfl rfl rfl) (c_impl_leafAt _ _ _ _ _ _ (SlF.st0 f_t hs1) ?_) ?_
  · first | assumption | rfl | omega
  rintro _ whs4 ⟨rfl, hs4⟩
  replace hs4 := hs1.call0 hs4
  refine ⟨_, rfl, ?_⟩
  refine WL.val rfl rfl rfl (Run.assign rfl rfl) ?_
  refine WL.nil ?_
  refine tkN ?_
  refine hK3 _ _ ?_
  clear hK3
  refine WC.seq (fun K5 hK5 => ?_)
  refine WC.seq (fun K6 hK6 => ?_)
  refine WC.region ?_
  refine WL.val rfl rfl rfl (Run.move rfl rfl) ?_
  refine WL.call rfl rfl rfl (Run.call Try.call20 rfl rfl rfl) (c_impl_TreeOk _ _ _ _ _ (SlF.st0 f_t hs4) ?_) ?_
  · first | assumption | rfl | omega
  rintro _ whs7 ⟨rfl, hs7⟩
  replace hs7 := hs4.call0 hs7
  refine ⟨_, rfl, ?_⟩
  refine WL.val rfl rfl rfl (Run.not rfl rfl) ?_
  refine WL.val rfl rfl rfl (Run.move rfl rfl) ?_
  apply WL.meetOr 3 15 18 [(0, _), (1, _), (4, _), (5, _), (6, _), (9, _), (10, _), (11, _)] rfl hs7
  · intro g8 J9
    have qg8 := g8
    try simp only [decide_eq_true_eq, decide_eq_false_iff_not, Bool.not_eq_true', Bool.not_eq_false'] at qg8
    refine WL.val (wantF rfl g8) rfl rfl (Run.move rfl rfl) ?_
    refine WL.val (wantF rfl g8) rfl rfl (Run.lss rfl rfl rfl) ?_
    refine WL.val rfl rfl rfl (Run.pickF rfl rfl g8 rfl) ?_
    exact WL.fin J9 hs7 rfl (orF g8) ⟨rfl, rfl, rfl, rfl, rfl, rfl, rfl, rfl, trivial⟩
  · intro g8 J9
    refine WL.skip (wantNF rfl g8) rfl rfl ?_
    refine WL.skip (wantNF rfl g8) rfl rfl ?_
    refine WL.val rfl rfl rfl (Run.pickT rfl rfl g8 rfl) ?_
    exact WL.fin J9 hs7 rfl (orT g8) ⟨rfl, rfl, rfl, rfl, rfl, rfl, rfl, rfl, trivial⟩
  · intro whs10 hs10
    refine WL.nil ?_
    refine tkN ?_
    refine hK6 _ _ ?_
    clear hK6
    refine WC.cond rfl (fun h11 => ?_) (fun h11 => ?_)
    · have qh11 := h11
      try simp only [decide_eq_true_eq, decide_eq_false_iff_not, Bool.not_eq_true', Bool.not_eq_false', Bool.and_eq_true, Bool.or_eq_false_iff, within_iff, within_not] at qh11
      have hk : cutOk t p = false := by
        rw [← Bool.not_eq_true]; intro h_; simp only [cutOk, Bool.and_eq_true, decide_eq_true_eq] at h_; simp [h_.1] at qh11; omega
      refine WC.seq (fun K12 hK12 => ?_)
      refine WC.region ?_
      refine WL.val rfl rfl rfl (Run.assign rfl rfl) ?_
      refine WL.val rfl rfl rfl (Run.assign rfl rfl) ?_
      refine WL.nil ?_
      refine tkN ?_
      refine hK12 _ _ ?_
      clear hK12
      refine WC.ret ?_
      refine tkR ?_
      clear hK5
      refine retV2 rfl (resV.tmp rfl) (resV.tmp rfl) ?_
      rw [hk]
      have hx_ := OwnF.eqOf (xs := cutL t p) (OwnF.nil encNode 62) (by simp [cutL, hk])
      rw [← hx_]
      exact ⟨_, _, _, rfl, hs10.nil, (OwnF.nil encNode 62)⟩
    · have qh11 := h11
      try simp only [decide_eq_true_eq, decide_eq_false_iff_not, Bool.not_eq_true', Bool.not_eq_false', Bool.and_eq_true, Bool.or_eq_false_iff, within_iff, within_not] at qh11
      have hk : cutOk t p = true := by simp at qh11; simp [cutOk, qh11]
      obtain ⟨u, hat, hov, _, huk, hkl, hul⟩ := cut_up' hk
      obtain ⟨ho1, ho2⟩ := overL_last hov
      have hovl := overL_len (isOver t (atL t p).toNat) (atL t p).toNat
      have ho3 : gat encI (overL (isOver t (atL t p).toNat) (atL t p).toNat) ((overL (isOver t (atL t p).toNat) (atL t p).toNat).length - 1) = (u : Int) := ho2
      refine WC.skip ?_
      refine tkN ?_
      refine hK5 _ _ ?_
      clear hK5
      refine WC.seq (fun K13 hK13 => ?_)
      refine WC.region ?_
      refine WL.val rfl rfl rfl (Run.move rfl rfl) ?_
      refine WL.val rfl rfl rfl (Run.move rfl rfl) ?_
      refine WL.call rfl rfl rfl (Run.call Try.call68 rfl rfl rfl) (c_impl_splitsOver _ _ _ _ _ _ (SlF.st0 f_t hs10) ?_ ?_ ?_) ?_
      · first | assumption | rfl | omega
      · first | assumption | rfl | omega
      · first | assumption | rfl | omega
      rintro _ whs14 ⟨A15, c16, L117, rfl, hs14, ho18⟩
      replace hs14 := hs10.callF hs14
      refine ⟨_, rfl, ?_⟩
      refine WL.val rfl rfl rfl (Run.assign rfl rfl) ?_
      refine WL.nil ?_
      refine tkN ?_
      refine hK13 _ _ ?_
      clear hK13
      refine WC.seq (fun K19 hK19 => ?_)
      refine WC.region ?_
      refine WL.val rfl rfl rfl (Run.move rfl rfl) ?_
      refine WL.val rfl rfl rfl (Run.move rfl rfl) ?_
      refine WL.val rfl rfl rfl (Run.lenSl Try.runUnderlying31 rfl rfl) ?_
      refine WL.val rfl rfl rfl (Run.sub rfl rfl rfl ?_) ?_
      · constructor <;> omega
      refine WL.val rfl rfl rfl (Run.idxK ((overL (isOver t (atL t p).toNat) (atL t p).toNat).length - 1) Try.runUnderlying31 Try.sizeOf3 rfl rfl rfl ?_ ?_ ?_) ?_
      · exact SlF.some_ (SlF.ofOwn ho18 (fun p_ hp_ => (hs14.own p_ (List.mem_append_left _ hp_)).1))
      · omega
      · omega
      refine WL.val rfl rfl rfl (Run.load Try.isAgg3 rfl rfl (SlF.one1 (SlF.ofOwn ho18 (fun p_ hp_ => (hs14.own p_ (List.mem_append_left _ hp_)).1)) ?_ rfl)) ?_
      · omega
      refine WL.val rfl rfl rfl (Run.assign rfl rfl) ?_
      refine WL.nil ?_
      refine tkN ?_
      refine hK19 _ _ ?_
      clear hK19
      refine WC.seq (fun K20 hK20 => ?_)
      refine WC.regionH2 (fun w' => St _ _ _ w') (fun w' => St _ _ _ w') mixed (St.drew hs14) (St.drew hs14) (fun whs21 hs21 => ?_)
      replace hs21 : St _ _ _ _ := hs21
      refine WH.take 0 rfl (by kernel_rfl) rfl rfl rfl hs21 (fun w_ hs_ => (Run.move rfl rfl)) ?_
      refine WH.take 1 rfl (by kernel_rfl) rfl rfl rfl hs21 (fun w_ hs_ => (Run.move rfl rfl)) ?_
      refine WH.take 2 rfl (by kernel_rfl) rfl rfl rfl hs21 (fun w_ hs_ => (Run.sliceH (u) Try.runUnderlying25 Try.sizeOf62 rfl rfl rfl ?_ ?_)) ?_
      · first | rfl | (omega)
      · refine ⟨?_, ?_, ?_⟩ <;> (omega)
      refine WH.take 3 rfl (by kernel_rfl) rfl rfl rfl hs21 (fun w_ hs_ => (Run.move rfl rfl)) ?_
      refine WH.take 4 rfl (by kernel_rfl) rfl rfl rfl hs21 (fun w_ hs_ => (Run.move rfl rfl)) ?_
      refine WH.take 5 rfl (by kernel_rfl) rfl rfl rfl hs21 (fun w_ hs_ => (Run.add rfl rfl rfl ?_)) ?_
      · constructor <;> omega
      refine WH.take 6 rfl (by kernel_rfl) rfl rfl rfl hs21 (fun w_ hs_ => (Run.move rfl rfl)) ?_
      refine WH.take 7 rfl (by kernel_rfl) rfl rfl rfl hs21 (fun w_ hs_ => (Run.sliceLH (u + 1) ((atL t p).toNat) Try.runUnderlying25 Try.sizeOf62 rfl rfl rfl rfl ?_ ?_ ?_)) ?_
      · first | rfl | (omega)
      · first | rfl | (omega)
      · refine ⟨?_, ?_, ?_⟩ <;> (omega)
      refine WH.take 8 rfl (by kernel_rfl) rfl rfl rfl hs21 (fun w_ hs_ => (Run.move rfl rfl)) ?_
      refine WH.take 9 rfl (by kernel_rfl) rfl rfl rfl hs21 (fun w_ hs_ => (Run.move rfl rfl)) ?_
      refine WH.take 10 rfl (by kernel_rfl) rfl rfl rfl hs21 (fun w_ hs_ => (Run.add rfl rfl rfl ?_)) ?_
      · constructor <;> omega
      refine WH.take 11 rfl (by kernel_rfl) rfl rfl rfl hs21 (fun w_ hs_ => (Run.sliceL ((atL t p).toNat + 1) Try.runUnderlying25 Try.sizeOf62 rfl rfl rfl ?_ ?_)) ?_
      · first | rfl | (omega)
      · refine ⟨?_, ?_, ?_⟩ <;> (omega)
      refine WH.all [12] (by kernel_rfl) rfl (WHs.cons (i := 12) rfl ?_ WHs.nil)
      refine WL.buildF (F := encH) hs21 ([⟨_, _, _⟩, ⟨_, _, _⟩, ⟨_, _, _⟩]) Try.runUnderlying93 Try.sizeOf25 Try.zeroValue25 rfl rfl rfl rfl rfl rfl rfl rfl rfl rfl rfl rfl (fun A25 c26 L22 whs23 hs23 ho24 => ?_)
      refine WL.nil ⟨(St.drop hs23 (List.sublist_append_right L22 _)), ?_⟩
      refine WH.all [13] (by kernel_rfl) rfl (WHs.cons (i := 13) rfl ?_ WHs.nil)
      refine WL.call rfl rfl rfl (Run.call Try.call69 rfl rfl rfl) (c_slices_Concat_impl_Node_impl_Node _ _ _ _ [t.take u, (t.drop (u + 1)).take ((atL t p).toNat - (u + 1)), t.drop ((atL t p).toNat + 1)] _ (SlF.ofOwn ho24 (fun p_ hp_ => (hs23.own p_ (List.mem_append_left _ hp_)).1)) ?_ ?_ ?_ ?_) ?_
      · intro i hi; rcases i with _ | _ | _ | i
        · exact (SlF.cutH (u) (SlF.st0 f_t hs23) (by refine ⟨?_, ?_, ?_⟩ <;> (omega)))
        · exact (SlF.cutC (lo := u + 1) (hi := (atL t p).toNat) (SlF.st0 f_t hs23) (by refine ⟨?_, ?_, ?_⟩ <;> (omega)))
        · exact (SlF.cutL ((atL t p).toNat + 1) (SlF.st0 f_t hs23) (by refine ⟨?_, ?_, ?_⟩ <;> (omega)))
        · simp at hi; omega
      · rfl
      · simp; omega
      · simp
      rintro _ whs27 ⟨A28, c29, L130, rfl, hs27, ho31⟩
      replace hs27 := hs23.callF hs27
      refine ⟨_, rfl, ?_⟩
      refine WL.nil ⟨(St.drop (St.drop hs27 (List.sublist_append_right L130 _)) (List.sublist_append_right L22 _)), ?_⟩
      refine WH.take 14 rfl (by kernel_rfl) rfl rfl rfl (St.drop (St.drop hs27 (List.sublist_append_right L130 _)) (List.sublist_append_right L22 _)) (fun w_ hs_ => (Run.assign rfl rfl)) ?_
      refine WH.take 15 rfl (by kernel_rfl) rfl rfl rfl (St.drop (St.drop hs27 (List.sublist_append_right L130 _)) (List.sublist_append_right L22 _)) (fun w_ hs_ => (Run.assign rfl rfl)) ?_
      refine WH.done (by kernel_rfl) ?_
      refine tkN ?_
      refine hK20 _ _ ?_
      clear hK20
      refine WC.ret ?_
      refine retV2 rfl (resV.tmp rfl) (resV.tmp rfl) ?_
      rw [hk]
      have hx_ := OwnF.eqOf (xs := cutL t p) ho31 (by simp only [cutL, hk, if_true, hul]; simp)
      rw [← hx_]
      first | exact ⟨_, _, _, rfl, (St.keep1 hs27), ho31⟩ | exact ⟨A28, c29, _, by rw [OwnF.len_ ho31], (St.keep1 hs27), by rw [OwnF.len_ ho31]; exact ho31⟩
theorem c_spec_Cut (A_t : Option Addr) (n_t c_t : Nat) (t : List NodeD) (p : Int) (w : World) (f_t : SlF encNode w A_t n_t t) (hn : n_t ≤ 268435456) :
    Calls Try.prog 33 #[.slice A_t n_t c_t, i64 p] w fun e w' => ∃ A c L1, e = .returned (.tuple #[.slice A (cutL t p).length c, .bool (cutOk t p)]) ∧ St w [] L1 w' ∧ OwnF encNode 62 (.slice A (cutL t p).length c) (cutL t p) L1 := by
  have hl := f_t.len
  have hla := atL_lt t p
  have hls := atS_lt t p
  refine enter (vs := [.slice A_t n_t c_t, i64 p]) 46 Try.func33 rfl Try.ntmps33 rfl rfl ?_
  have hs1 := St.init w
  refine WC.seq (fun K2 hK2 => ?_)
  refine WC.region ?_
  refine WL.val rfl rfl rfl (Run.assign rfl rfl) ?_
  refine WL.val rfl rfl rfl (Run.assign rfl rfl) ?_
  refine WL.nil ?_
  refine tkN ?_
  refine hK2 _ _ ?_
  clear hK2
  refine WC.seq (fun K3 hK3 => ?_)
  refine WC.region ?_
  refine WL.val rfl rfl rfl (Run.move rfl rfl) ?_
  refine WL.val rfl rfl rfl (Run.move rfl rfl) ?_
  refine WL.call rfl rfl rfl (Run.call Try.call63 rfl rfl rfl) (c_spec_l13At _ _ _ _ _ _ (SlF.st0 f_t hs1) ?_) ?_
  · first | assumption | rfl | omega
  rintro _ whs4 ⟨rfl, hs4⟩
  replace hs4 := hs1.call0 hs4
  refine ⟨_, rfl, ?_⟩
  refine WL.val rfl rfl rfl (Run.assign rfl rfl) ?_
  refine WL.nil ?_
  refine tkN ?_
  refine hK3 _ _ ?_
  clear hK3
  refine WC.seq (fun K5 hK5 => ?_)
  refine WC.seq (fun K6 hK6 => ?_)
  refine WC.region ?_
  refine WL.val rfl rfl rfl (Run.move rfl rfl) ?_
  refine WL.call rfl rfl rfl (Run.call Try.call18 rfl rfl rfl) (c_spec_TreeOk _ _ _ _ _ (SlF.st0 f_t hs4) ?_) ?_
  · first | assumption | rfl | omega
  rintro _ whs7 ⟨rfl, hs7⟩
  replace hs7 := hs4.call0 hs7
  refine ⟨_, rfl, ?_⟩
  refine WL.val rfl rfl rfl (Run.not rfl rfl) ?_
  refine WL.val rfl rfl rfl (Run.move rfl rfl) ?_
  apply WL.meetOr 3 17 20 [(0, _), (1, _), (4, _), (5, _), (6, _), (11, _), (12, _), (13, _)] rfl hs7
  · intro g8 J9
    have qg8 := g8
    try simp only [decide_eq_true_eq, decide_eq_false_iff_not, Bool.not_eq_true', Bool.not_eq_false'] at qg8
    refine WL.val (wantF rfl g8) rfl rfl (Run.move rfl rfl) ?_
    refine WL.val (wantF rfl g8) rfl rfl (Run.lss rfl rfl rfl) ?_
    refine WL.val rfl rfl rfl (Run.pickF rfl rfl g8 rfl) ?_
    exact WL.fin J9 hs7 rfl (orF g8) ⟨rfl, rfl, rfl, rfl, rfl, rfl, rfl, rfl, trivial⟩
  · intro g8 J9
    refine WL.skip (wantNF rfl g8) rfl rfl ?_
    refine WL.skip (wantNF rfl g8) rfl rfl ?_
    refine WL.val rfl rfl rfl (Run.pickT rfl rfl g8 rfl) ?_
    exact WL.fin J9 hs7 rfl (orT g8) ⟨rfl, rfl, rfl, rfl, rfl, rfl, rfl, rfl, trivial⟩
  · intro whs10 hs10
    refine WL.nil ?_
    refine tkN ?_
    refine hK6 _ _ ?_
    clear hK6
    refine WC.cond rfl (fun h11 => ?_) (fun h11 => ?_)
    · have qh11 := h11
      try simp only [decide_eq_true_eq, decide_eq_false_iff_not, Bool.not_eq_true', Bool.not_eq_false', Bool.and_eq_true, Bool.or_eq_false_iff, within_iff, within_not] at qh11
      have hk : cutOk t p = false := by
        rw [← Bool.not_eq_true]; intro h_; simp only [cutOk, Bool.and_eq_true, decide_eq_true_eq] at h_; simp [h_.1, atS_eq h_.1] at qh11; omega
      refine WC.seq (fun K12 hK12 => ?_)
      refine WC.region ?_
      refine WL.val rfl rfl rfl (Run.assign rfl rfl) ?_
      refine WL.val rfl rfl rfl (Run.assign rfl rfl) ?_
      refine WL.nil ?_
      refine tkN ?_
      refine hK12 _ _ ?_
      clear hK12
      refine WC.ret ?_
      refine tkR ?_
      clear hK5
      refine retV2 rfl (resV.tmp rfl) (resV.tmp rfl) ?_
      rw [hk]
      have hx_ := OwnF.eqOf (xs := cutL t p) (OwnF.nil encNode 62) (by simp [cutL, hk])
      rw [← hx_]
      exact ⟨_, _, _, rfl, hs10.nil, (OwnF.nil encNode 62)⟩
    · have qh11 := h11
      try simp only [decide_eq_true_eq, decide_eq_false_iff_not, Bool.not_eq_true', Bool.not_eq_false', Bool.and_eq_true, Bool.or_eq_false_iff, within_iff, within_not] at qh11
      have hto : treeOk t = true := by simp at qh11; exact (qh11).1
      rw [atS_eq hto] at *
      have hk : cutOk t p = true := by simp at qh11; simp [cutOk, hto]; omega
      obtain ⟨u, hat, _, hup, huk, hkl, hul⟩ := cut_up' hk
      refine WC.skip ?_
      refine tkN ?_
      refine hK5 _ _ ?_
      clear hK5
      refine WC.seq (fun K13 hK13 => ?_)
      refine WC.region ?_
      refine WL.val rfl rfl rfl (Run.move rfl rfl) ?_
      refine WL.val rfl rfl rfl (Run.move rfl rfl) ?_
      refine WL.call rfl rfl rfl (Run.call Try.call67 rfl rfl rfl) (c_spec_l13Up _ _ _ _ _ _ (SlF.st0 f_t hs10) ?_ ?_ ?_) ?_
      · first | assumption | rfl | omega
      · first | assumption | rfl | omega
      · first | assumption | rfl | omega
      rintro _ whs14 ⟨rfl, hs14⟩
      replace hs14 := hs10.call0 hs14
      refine ⟨_, rfl, ?_⟩
      refine WL.val rfl rfl rfl (Run.assign rfl rfl) ?_
      refine WL.nil ?_
      refine tkN ?_
      refine hK13 _ _ ?_
      clear hK13
      refine WC.seq (fun K15 hK15 => ?_)
      refine WC.region ?_
      refine WL.buildF (F := encNode) hs14 ([]) Try.runUnderlying25 Try.sizeOf62 Try.zeroValue62 rfl rfl rfl rfl rfl rfl rfl rfl rfl rfl rfl rfl (fun A19 c20 L16 whs17 hs17 ho18 => ?_)
      refine WL.val rfl rfl rfl (Run.assign rfl rfl) ?_
      refine WL.nil ?_
      refine tkN ?_
      refine hK15 _ _ ?_
      clear hK15
      refine WC.seq (fun K21 hK21 => ?_)
      refine WC.seq (fun K22 hK22 => ?_)
      refine WC.region ?_
      refine WL.val rfl rfl rfl (Run.move rfl rfl) ?_
      refine WL.val rfl rfl rfl (Run.lenSl Try.runUnderlying25 rfl rfl) ?_
      refine WL.val rfl rfl rfl (Run.move rfl rfl) ?_
      refine WL.nil ?_
      refine tkN ?_
      refine hK22 _ _ ?_
      clear hK22
      refine WC.block ?_
      refine WC.loopO [(0, _), (1, _), (4, _), (5, _), (6, _), (7, _), (11, _), (12, _), (13, _), (20, _), (21, _), (22, _), (23, _), (24, _), (25, _), (26, _)] ⟨rfl, rfl, rfl, rfl, rfl, rfl, rfl, rfl, rfl, rfl, rfl, rfl, rfl, rfl, rfl, rfl, trivial⟩ hs17 (fun k_ f L_ => ∃ (zs : List NodeD) (i : Nat) (A23 : Option Addr) (c24 : Nat), k_ = n_t - i ∧ (i ≤ n_t) ∧ (zs = cutI t u ((atL t p).toNat : Nat) i) ∧ OwnF encNode 62 (.slice A23 (zs.length) c24) (zs) L_ ∧ Sub [(8, .slice A23 (zs.length) c24), (27, .int .i64 i)] f) (((fun (zs : List NodeD) (i : Nat) => n_t - i) ([]) (0))) ?_ ?_
      · refine ⟨[], 0, _, _, rfl, ?_, ?_, ho18, ⟨rfl, rfl, trivial⟩⟩
        · exact Nat.zero_le _
        · simp [cutI]
      · clear hs17
        rintro _ f w L25 ⟨zs, i, A23, c24, rfl, p0, p1, ho26, hG⟩ hF hs27
        refine WC.sub _ (hG.app hF) ?_
        clear hG hF
        have hzl : zs.length ≤ i := by rw [p1]; exact cutI_len _ _ _ _
        refine WC.seq (fun K28 hK28 => ?_)
        refine WC.region ?_
        refine WL.val rfl rfl rfl (Run.lss rfl rfl rfl) ?_
        refine WL.nil ?_
        refine tkN ?_
        refine hK28 _ _ ?_
        clear hK28
        refine WC.seq (fun K29 hK29 => ?_)
        refine WC.cond rfl (fun h30 => ?_) (fun h30 => ?_)
        · have qh30 := h30
          try simp only [decide_eq_true_eq, decide_eq_false_iff_not, Bool.not_eq_true', Bool.not_eq_false', Bool.and_eq_true, Bool.or_eq_false_iff, within_iff, within_not] at qh30
          refine WC.skip ?_
          refine tkN ?_
          refine hK29 _ _ ?_
          clear hK29
          refine WC.seq (fun K31 hK31 => ?_)
          refine WC.block ?_
          refine WC.seq (fun K32 hK32 => ?_)
          refine WC.region ?_
          refine WL.val rfl rfl rfl (Run.move rfl rfl) ?_
          refine WL.val rfl rfl rfl (Run.idxN Try.runUnderlying25 Try.sizeOf62 rfl rfl rfl ?_ ?_ ?_) ?_
          · exact SlF.some_ (SlF.st0 f_t hs27)
          · omega
          · omega
          refine WL.val rfl rfl rfl (Run.loadA Try.isAgg62 Try.sizeOf62 rfl rfl (SlF.whole (SlF.st0 f_t hs27) ?_)) ?_
          · omega
          refine WL.alloc hs27 Try.zeroValue62 rfl rfl rfl rfl rfl (fun b33 whs34 hs34 => ?_)
          refine WL.val rfl rfl rfl (Run.assign rfl rfl) ?_
          refine WL.storeA hs34 0 Try.sizeOf62 rfl rfl rfl rfl rfl rfl rfl rfl rfl (Nat.le_of_ble_eq_true rfl) (.inl (Nat.le_of_ble_eq_true rfl)) (fun whs35 hs35 => ?_)
          refine WL.nil ?_
          refine tkN ?_
          refine hK32 _ _ ?_
          clear hK32
          refine WC.seq (fun K36 hK36 => ?_)
          refine WC.region ?_
          refine WL.val rfl rfl rfl (Run.move rfl rfl) ?_
          refine WL.val rfl rfl rfl (Run.move rfl rfl) ?_
          refine WL.val rfl rfl rfl (Run.neq rfl rfl rfl) ?_
          refine WL.val rfl rfl rfl (Run.move rfl rfl) ?_
          apply WL.meetAnd 4 35 39 [(0, _), (1, _), (4, _), (5, _), (6, _), (7, _), (8, _), (9, _), (10, _), (11, _), (12, _), (13, _), (20, _), (21, _), (22, _), (23, _), (24, _), (25, _), (26, _), (27, _), (28, _), (29, _), (30, _), (31, _)] rfl hs35
          · intro g37 J38
            have qg37 := g37
            try simp only [decide_eq_true_eq, decide_eq_false_iff_not, Bool.not_eq_true', Bool.not_eq_false'] at qg37
            refine WL.val (wantT rfl g37) rfl rfl (Run.move rfl rfl) ?_
            refine WL.val (wantT rfl g37) rfl rfl (Run.move rfl rfl) ?_
            refine WL.val (wantT rfl g37) rfl rfl (Run.neq rfl rfl rfl) ?_
            refine WL.val rfl rfl rfl (Run.pickT rfl rfl g37 rfl) ?_
            exact WL.fin J38 hs35 rfl (andT g37) ⟨rfl, rfl, rfl, rfl, rfl, rfl, rfl, rfl, rfl, rfl, rfl, rfl, rfl, rfl, rfl, rfl, rfl, rfl, rfl, rfl, rfl, rfl, rfl, rfl, trivial⟩
          · intro g37 J38
            refine WL.skip (wantNT rfl g37) rfl rfl ?_
            refine WL.skip (wantNT rfl g37) rfl rfl ?_
            refine WL.skip (wantNT rfl g37) rfl rfl ?_
            refine WL.val rfl rfl rfl (Run.pickF rfl rfl g37 rfl) ?_
            exact WL.fin J38 hs35 rfl (andF g37) ⟨rfl, rfl, rfl, rfl, rfl, rfl, rfl, rfl, rfl, rfl, rfl, rfl, rfl, rfl, rfl, rfl, rfl, rfl, rfl, rfl, rfl, rfl, rfl, rfl, trivial⟩
          · intro whs39 hs39
            refine WL.nil ?_
            refine tkN ?_
            refine hK36 _ _ ?_
            clear hK36
            refine WC.cond rfl (fun h40 => ?_) (fun h40 => ?_)
            · have qh40 := h40
              try simp only [decide_eq_true_eq, decide_eq_false_iff_not, Bool.not_eq_true', Bool.not_eq_false', Bool.and_eq_true, Bool.or_eq_false_iff, within_iff, within_not] at qh40
              have hq : (i : Int) ≠ u ∧ (i : Int) ≠ ((atL t p).toNat : Nat) := by simp [hup] at qh40; omega
              refine WC.region ?_
              refine WL.val rfl rfl rfl (Run.move rfl rfl) ?_
              refine WL.val rfl rfl rfl (Run.loadLA hs39 0 Try.isAgg62 Try.sizeOf62 rfl rfl rfl rfl rfl) ?_
              refine WL.buildSlice hs39 Try.runUnderlying25 Try.sizeOf62 Try.zeroValue62 rfl rfl rfl rfl rfl rfl rfl rfl rfl rfl (fun b41 whs42 hs42 => ?_)
              refine WL.appendG (St.perm hs42 (L' := L25 ++ _) (perm_front (A := [_, _]) (List.Perm.refl _))) ho26 (srcF (F := encNode) (ys := [gat encNode t i]) Try.underlying25 rfl rfl (hs42.own _ (nthL_mem (i := 0) rfl)).1) Try.underlying25 info_62 rfl rfl rfl rfl rfl rfl rfl rfl rfl rfl ?_ (fun A46 c47 L43 whs44 hs44 ho45 => ?_)
              · simp; omega
              replace hs44 := St.back [_, _] hs44
              refine WL.val rfl rfl rfl (Run.assign rfl rfl) ?_
              refine WL.nil ?_
              refine ibN ?_
              refine tkN ?_
              refine hK31 _ _ ?_
              clear hK31
              refine WC.region ?_
              refine WL.val rfl rfl rfl (Run.add rfl rfl rfl ?_) ?_
              · constructor <;> omega
              refine WL.val rfl rfl rfl (Run.move rfl rfl) ?_
              refine WL.nil ?_
              refine tkN ?_
              replace hs44 := St.drop hs44 (List.sublist_append_right [_, _] _)
              refine ⟨⟨rfl, rfl, rfl, rfl, rfl, rfl, rfl, rfl, rfl, rfl, rfl, rfl, rfl, rfl, rfl, rfl, trivial⟩, _, hs44, _, ?_, _, i + 1, _, _, rfl, ?_, ?_, ho45, ⟨rfl, rfl, trivial⟩⟩
              · omega
              · omega
              · rw [cutI_succ, p1]; first | (rw [if_pos hq]) | (rw [if_neg hq, List.append_nil])
            · have qh40 := h40
              try simp only [decide_eq_true_eq, decide_eq_false_iff_not, Bool.not_eq_true', Bool.not_eq_false', Bool.and_eq_true, Bool.or_eq_false_iff, within_iff, within_not] at qh40
              have hq : ¬ ((i : Int) ≠ u ∧ (i : Int) ≠ ((atL t p).toNat : Nat)) := by simp [hup] at qh40; omega
              refine WC.skip ?_
              refine ibN ?_
              refine tkN ?_
              refine hK31 _ _ ?_
              clear hK31
              refine WC.region ?_
              refine WL.val rfl rfl rfl (Run.add rfl rfl rfl ?_) ?_
              · constructor <;> omega
              refine WL.val rfl rfl rfl (Run.move rfl rfl) ?_
              refine WL.nil ?_
              refine tkN ?_
              replace hs39 := St.drop hs39 (List.sublist_append_right [_] _)
              refine ⟨⟨rfl, rfl, rfl, rfl, rfl, rfl, rfl, rfl, rfl, rfl, rfl, rfl, rfl, rfl, rfl, rfl, trivial⟩, _, hs39, _, ?_, _, i + 1, _, _, rfl, ?_, ?_, ho26, ⟨rfl, rfl, trivial⟩⟩
              · omega
              · omega
              · rw [cutI_succ, p1]; first | (rw [if_pos hq]) | (rw [if_neg hq, List.append_nil])
        · have qh30 := h30
          try simp only [decide_eq_true_eq, decide_eq_false_iff_not, Bool.not_eq_true', Bool.not_eq_false', Bool.and_eq_true, Bool.or_eq_false_iff, within_iff, within_not] at qh30
          refine WC.exit ?_
          refine tkE ?_
          refine tkE ?_
          refine ibE ?_
          refine tkN ?_
          refine hK21 _ _ ?_
          clear hK21
          refine WC.seq (fun K48 hK48 => ?_)
          refine WC.region ?_
          refine WL.val rfl rfl rfl (Run.move rfl rfl) ?_
          refine WL.val rfl rfl rfl (Run.assign rfl rfl) ?_
          refine WL.val rfl rfl rfl (Run.assign rfl rfl) ?_
          refine WL.nil ?_
          refine tkN ?_
          refine hK48 _ _ ?_
          clear hK48
          refine WC.ret ?_
          refine retV2 rfl (resV.tmp rfl) (resV.tmp rfl) ?_
          rw [hk]
          have hx_ := OwnF.eqOf (xs := cutL t p) ho26 (by simp only [cutL, hk, if_true, hul]; rw [p1, show i = t.length by omega, cutI_parts huk hkl (Nat.le_refl _), Nat.min_eq_right (by omega), Nat.min_eq_right (by omega), List.take_of_length_le (l := t.drop ((atL t p).toNat + 1)) (by simp)])
          rw [← hx_]
          first | exact ⟨_, _, _, rfl, (St.keep1 hs27), ho26⟩ | exact ⟨A23, c24, _, by rw [OwnF.len_ ho26], (St.keep1 hs27), by rw [OwnF.len_ ho26]; exact ho26⟩
end Go.Proofs.Ytghcicggamkjgaa
