/- Walks of Go functions, printed by a program (wip/gen). -/
import Derived.Test.YtghcicggamkjgaaT1
namespace Go.Proofs.Ytghcicggamkjgaa
open Go Go.RowKit
set_option linter.unusedVariables false
set_option linter.unusedSimpArgs false
theorem c_slices_Compact_int_int (v_s : Value) (s : List Int) (L_s : Hp) (w : World) (o_s : OwnF encI 3 v_s s L_s) (h_s : ∀ p, p ∈ L_s → w.heap[p.1]? = some p.2) (hn : s.length ≤ 268435456) :
    Calls Try.prog 59 #[v_s] w fun e w' => ∃ m A c, e = .returned (.slice A m c) ∧ St w (L_s.map (·.1)) [] w' ∧ (m = s.length ↔ adjNe s) := by
  obtain ⟨A_s, c_s, rfl⟩ := o_s.shape
  refine enter (vs := [.slice A_s s.length c_s]) 61 Try.func59 rfl Try.ntmps59 rfl rfl ?_
  have hs1 := St.lent1 w L_s o_s h_s
  refine WC.seq (fun K2 hK2 => ?_)
  refine WC.region ?_
  refine WL.val rfl rfl rfl (Run.assign rfl rfl) ?_
  refine WL.nil ?_
  refine tkN ?_
  refine hK2 _ _ ?_
  clear hK2
  refine WC.seq (fun K3 hK3 => ?_)
  refine WC.seq (fun K4 hK4 => ?_)
  refine WC.region ?_
  refine WL.val rfl rfl rfl (Run.move rfl rfl) ?_
  refine WL.val rfl rfl rfl (Run.lenSl Try.runUnderlying31 rfl rfl) ?_
  refine WL.val rfl rfl rfl (Run.lss rfl rfl rfl) ?_
  refine WL.nil ?_
  refine tkN ?_
  refine hK4 _ _ ?_
  clear hK4
  refine WC.cond rfl (fun h5 => ?_) (fun h5 => ?_)
  · have qh5 := h5
    try simp only [decide_eq_true_eq, decide_eq_false_iff_not, Bool.not_eq_true', Bool.not_eq_false', Bool.and_eq_true, Bool.or_eq_false_iff, within_iff, within_not] at qh5
    refine WC.seq (fun K6 hK6 => ?_)
    refine WC.region ?_
    refine WL.val rfl rfl rfl (Run.move rfl rfl) ?_
    refine WL.val rfl rfl rfl (Run.assign rfl rfl) ?_
    refine WL.nil ?_
    refine tkN ?_
    refine hK6 _ _ ?_
    clear hK6
    refine WC.ret ?_
    refine tkR ?_
    clear hK3
    refine retV1 rfl (resV.tmp rfl) ?_
    exact ⟨_, _, _, rfl, hs1.nil, ⟨fun _ i hi => absurd hi (by omega), fun _ => rfl⟩⟩
  · have qh5 := h5
    try simp only [decide_eq_true_eq, decide_eq_false_iff_not, Bool.not_eq_true', Bool.not_eq_false', Bool.and_eq_true, Bool.or_eq_false_iff, within_iff, within_not] at qh5
    refine WC.skip ?_
    refine tkN ?_
    refine hK3 _ _ ?_
    clear hK3
    refine WC.seq (fun K7 hK7 => ?_)
    refine WC.seq (fun K8 hK8 => ?_)
    refine WC.region ?_
    refine WL.val rfl rfl rfl (Run.assign rfl rfl) ?_
    refine WL.nil ?_
    refine tkN ?_
    refine hK8 _ _ ?_
    clear hK8
    refine WC.block ?_
    refine WC.loopS [(0, _), (6, _), (7, _), (8, _)] ⟨rfl, rfl, rfl, rfl, trivial⟩ hs1 (fun k_ f w' => ∃ (k : Nat), k_ = s.length - k ∧ (1 ≤ k) ∧ (k ≤ s.length) ∧ (∀ j, 1 ≤ j → j < k → iat s j ≠ iat s (j - 1)) ∧ Sub [(3, .int .i64 k)] f) ((fun (k : Nat) => s.length - k) (1)) ?_ ?_
    · refine ⟨1, rfl, ?_, ?_, ?_, ⟨rfl, trivial⟩⟩
      · exact Nat.le_refl _
      · omega
      · exact fun j h1 h2 => absurd h1 (by omega)
    · clear hs1
      rintro _ f w ⟨k, rfl, p0, p1, p2, hG⟩ hF hs9
      refine WC.sub _ (hG.app hF) ?_
      clear hG hF
      refine WC.seq (fun K10 hK10 => ?_)
      refine WC.seq (fun K11 hK11 => ?_)
      refine WC.region ?_
      refine WL.val rfl rfl rfl (Run.move rfl rfl) ?_
      refine WL.val rfl rfl rfl (Run.move rfl rfl) ?_
      refine WL.val rfl rfl rfl (Run.lenSl Try.runUnderlying31 rfl rfl) ?_
      refine WL.val rfl rfl rfl (Run.lss rfl rfl rfl) ?_
      refine WL.nil ?_
      refine tkN ?_
      refine hK11 _ _ ?_
      clear hK11
      refine WC.cond rfl (fun h12 => ?_) (fun h12 => ?_)
      · have qh12 := h12
        try simp only [decide_eq_true_eq, decide_eq_false_iff_not, Bool.not_eq_true', Bool.not_eq_false', Bool.and_eq_true, Bool.or_eq_false_iff, within_iff, within_not] at qh12
        refine WC.skip ?_
        refine tkN ?_
        refine hK10 _ _ ?_
        clear hK10
        refine WC.seq (fun K13 hK13 => ?_)
        refine WC.block ?_
        refine WC.seq (fun K14 hK14 => ?_)
        refine WC.regionQ (fun w' => St _ _ _ w') mixed (by kernel_rfl) hs9.drew ?_
        refine WQ.val rfl rfl rfl (fun w_ hs_ => (Run.move rfl rfl)) ?_
        refine WQ.val rfl rfl rfl (fun w_ hs_ => (Run.move rfl rfl)) ?_
        refine WQ.val rfl rfl rfl (fun w_ hs_ => (Run.idxN Try.runUnderlying31 Try.sizeOf3 rfl rfl rfl ?_ ?_ ?_)) ?_
        · exact SlF.some_ (SlF.ofOwn o_s (fun p_ hp_ => ((hs_ : St _ _ _ _).own p_ (List.mem_append_left _ hp_)).1))
        · first | omega | (simp only [List.length_take, List.length_drop]; omega)
        · first | omega | (simp only [List.length_take, List.length_drop]; omega)
        refine WQ.val rfl rfl rfl (fun w_ hs_ => (Run.load Try.isAgg3 rfl rfl (SlF.one1 (SlF.ofOwn o_s (fun p_ hp_ => ((hs_ : St _ _ _ _).own p_ (List.mem_append_left _ hp_)).1)) ?_ rfl))) ?_
        · first | omega | (simp only [List.length_take, List.length_drop]; omega)
        refine WQ.val rfl rfl rfl (fun w_ hs_ => (Run.move rfl rfl)) ?_
        refine WQ.val rfl rfl rfl (fun w_ hs_ => (Run.move rfl rfl)) ?_
        refine WQ.val rfl rfl rfl (fun w_ hs_ => (Run.sub rfl rfl rfl ?_)) ?_
        · constructor <;> omega
        refine WQ.val rfl rfl rfl (fun w_ hs_ => (Run.idxK (k - 1) Try.runUnderlying31 Try.sizeOf3 rfl rfl rfl ?_ ?_ ?_)) ?_
        · exact SlF.some_ (SlF.ofOwn o_s (fun p_ hp_ => ((hs_ : St _ _ _ _).own p_ (List.mem_append_left _ hp_)).1))
        · first | omega | (simp only [List.length_take, List.length_drop]; omega)
        · first | omega | (simp only [List.length_take, List.length_drop]; omega)
        refine WQ.val rfl rfl rfl (fun w_ hs_ => (Run.load Try.isAgg3 rfl rfl (SlF.one1 (SlF.ofOwn o_s (fun p_ hp_ => ((hs_ : St _ _ _ _).own p_ (List.mem_append_left _ hp_)).1)) ?_ rfl))) ?_
        · first | omega | (simp only [List.length_take, List.length_drop]; omega)
        refine WQ.val rfl rfl rfl (fun w_ hs_ => (Run.eql rfl rfl rfl)) ?_
        refine WQ.nil (fun whs15 hs15 => ?_)
        replace hs15 : St _ _ _ _ := hs15
        refine tkN ?_
        refine hK14 _ _ ?_
        clear hK14
        refine WC.cond rfl (fun h16 => ?_) (fun h16 => ?_)
        · have qh16 := h16
          try simp only [decide_eq_true_eq, decide_eq_false_iff_not, Bool.not_eq_true', Bool.not_eq_false', Bool.and_eq_true, Bool.or_eq_false_iff, within_iff, within_not] at qh16
          have hdup : iat s (k - 1 + 1) = iat s (k - 1) := by rw [show k - 1 + 1 = k by omega]; exact qh16
          refine WC.seq (fun K17 hK17 => ?_)
          refine WC.region ?_
          refine WL.val rfl rfl rfl (Run.move rfl rfl) ?_
          refine WL.val rfl rfl rfl (Run.move rfl rfl) ?_
          have hc_ := OwnF.cap o_s
          refine WL.val rfl rfl rfl (Run.sliceL (k) Try.runUnderlying31 Try.sizeOf3 rfl rfl rfl ?_ ?_) ?_
          · first | rfl | (omega)
          · refine ⟨?_, ?_, ?_⟩ <;> (omega)
          refine WL.val rfl rfl rfl (Run.assign rfl rfl) ?_
          refine WL.nil ?_
          refine tkN ?_
          refine hK17 _ _ ?_
          clear hK17
          refine WC.seq (fun K18 hK18 => ?_)
          refine WC.seq (fun K19 hK19 => ?_)
          refine WC.region ?_
          refine WL.val rfl rfl rfl (Run.assign rfl rfl) ?_
          refine WL.nil ?_
          refine tkN ?_
          refine hK19 _ _ ?_
          clear hK19
          refine WC.block ?_
          refine WC.loopO [(4, _), (6, _), (7, _), (8, _), (10, _), (11, _), (12, _), (13, _), (16, _), (17, _), (18, _), (19, _), (20, _), (21, _), (22, _), (23, _), (24, _), (25, _), (26, _), (27, _), (28, _)] ⟨rfl, rfl, rfl, rfl, rfl, rfl, rfl, rfl, rfl, rfl, rfl, rfl, rfl, rfl, rfl, rfl, rfl, rfl, rfl, rfl, rfl, trivial⟩ hs15 (fun k_ f L_ => ∃ (zs : List Int) (j k2 : Nat), k_ = (s.length - k) - j ∧ (1 ≤ j) ∧ (k2 + 1 ≤ k + j) ∧ (k ≤ k2) ∧ (k + j ≤ s.length) ∧ (zs.length = s.length) ∧ OwnF encI 3 (.slice A_s (s.length) c_s) (zs) L_ ∧ Sub [(0, .slice A_s (s.length) c_s), (5, .int .i64 j), (3, .int .i64 k2)] f) (((fun (zs : List Int) (j k2 : Nat) => (s.length - k) - j) (s) (1) (k))) ?_ ?_
          · refine ⟨s, 1, k, rfl, ?_, ?_, ?_, ?_, ?_, o_s, ⟨rfl, rfl, rfl, trivial⟩⟩
            · exact Nat.le_refl _
            · omega
            · exact Nat.le_refl _
            · omega
            · rfl
          · clear hs15
            rintro _ f w L22 ⟨zs, j, k2, rfl, r0, r1, r2, r3, r4, ho23, hG⟩ hF hs24
            refine WC.sub _ (hG.app hF) ?_
            clear hG hF
            refine WC.seq (fun K25 hK25 => ?_)
            refine WC.seq (fun K26 hK26 => ?_)
            refine WC.region ?_
            refine WL.val rfl rfl rfl (Run.move rfl rfl) ?_
            refine WL.val rfl rfl rfl (Run.move rfl rfl) ?_
            refine WL.val rfl rfl rfl (Run.lenSl Try.runUnderlying31 rfl rfl) ?_
            refine WL.val rfl rfl rfl (Run.lss rfl rfl rfl) ?_
            refine WL.nil ?_
            refine tkN ?_
            refine hK26 _ _ ?_
            clear hK26
            refine WC.cond rfl (fun h27 => ?_) (fun h27 => ?_)
            · have qh27 := h27
              try simp only [decide_eq_true_eq, decide_eq_false_iff_not, Bool.not_eq_true', Bool.not_eq_false', Bool.and_eq_true, Bool.or_eq_false_iff, within_iff, within_not] at qh27
              refine WC.skip ?_
              refine tkN ?_
              refine hK25 _ _ ?_
              clear hK25
              refine WC.seq (fun K28 hK28 => ?_)
              refine WC.block ?_
              refine WC.seq (fun K29 hK29 => ?_)
              refine WC.regionQ (fun w' => St _ _ _ w') mixed (by kernel_rfl) hs24.drew ?_
              refine WQ.val rfl rfl rfl (fun w_ hs_ => (Run.move rfl rfl)) ?_
              refine WQ.val rfl rfl rfl (fun w_ hs_ => (Run.move rfl rfl)) ?_
              refine WQ.val rfl rfl rfl (fun w_ hs_ => (Run.idxN Try.runUnderlying31 Try.sizeOf3 rfl rfl rfl ?_ ?_ ?_)) ?_
              · exact SlF.some_ (SlF.cutL (k) (SlF.ofOwn ho23 (fun p_ hp_ => ((hs_ : St _ _ _ _).own p_ (List.mem_append_left _ hp_)).1)) (by refine ⟨?_, ?_, ?_⟩ <;> (omega)))
              · first | omega | (simp only [List.length_take, List.length_drop]; omega)
              · first | omega | (simp only [List.length_take, List.length_drop]; omega)
              refine WQ.val rfl rfl rfl (fun w_ hs_ => (Run.load Try.isAgg3 rfl rfl (SlF.one1 (SlF.cutL (k) (SlF.ofOwn ho23 (fun p_ hp_ => ((hs_ : St _ _ _ _).own p_ (List.mem_append_left _ hp_)).1)) (by refine ⟨?_, ?_, ?_⟩ <;> (omega))) ?_ rfl))) ?_
              · first | omega | (simp only [List.length_take, List.length_drop]; omega)
              refine WQ.val rfl rfl rfl (fun w_ hs_ => (Run.move rfl rfl)) ?_
              refine WQ.val rfl rfl rfl (fun w_ hs_ => (Run.move rfl rfl)) ?_
              refine WQ.val rfl rfl rfl (fun w_ hs_ => (Run.sub rfl rfl rfl ?_)) ?_
              · constructor <;> omega
              refine WQ.val rfl rfl rfl (fun w_ hs_ => (Run.idxK (j - 1) Try.runUnderlying31 Try.sizeOf3 rfl rfl rfl ?_ ?_ ?_)) ?_
              · exact SlF.some_ (SlF.cutL (k) (SlF.ofOwn ho23 (fun p_ hp_ => ((hs_ : St _ _ _ _).own p_ (List.mem_append_left _ hp_)).1)) (by refine ⟨?_, ?_, ?_⟩ <;> (omega)))
              · first | omega | (simp only [List.length_take, List.length_drop]; omega)
              · first | omega | (simp only [List.length_take, List.length_drop]; omega)
              refine WQ.val rfl rfl rfl (fun w_ hs_ => (Run.load Try.isAgg3 rfl rfl (SlF.one1 (SlF.cutL (k) (SlF.ofOwn ho23 (fun p_ hp_ => ((hs_ : St _ _ _ _).own p_ (List.mem_append_left _ hp_)).1)) (by refine ⟨?_, ?_, ?_⟩ <;> (omega))) ?_ rfl))) ?_
              · first | omega | (simp only [List.length_take, List.length_drop]; omega)
              refine WQ.val rfl rfl rfl (fun w_ hs_ => (Run.neq rfl rfl rfl)) ?_
              refine WQ.nil (fun whs30 hs30 => ?_)
              replace hs30 : St _ _ _ _ := hs30
              refine tkN ?_
              refine hK29 _ _ ?_
              clear hK29
              refine WC.cond rfl (fun h31 => ?_) (fun h31 => ?_)
              · have qh31 := h31
                try simp only [decide_eq_true_eq, decide_eq_false_iff_not, Bool.not_eq_true', Bool.not_eq_false', Bool.and_eq_true, Bool.or_eq_false_iff, within_iff, within_not] at qh31
                refine WC.seq (fun K32 hK32 => ?_)
                refine WC.region ?_
                refine WL.val rfl rfl rfl (Run.move rfl rfl) ?_
                refine WL.val rfl rfl rfl (Run.move rfl rfl) ?_
                refine WL.val rfl rfl rfl (Run.move rfl rfl) ?_
                refine WL.val rfl rfl rfl (Run.move rfl rfl) ?_
                refine WL.val rfl rfl rfl (Run.idxN Try.runUnderlying31 Try.sizeOf3 rfl rfl rfl ?_ ?_ ?_) ?_
                · exact SlF.some_ (SlF.cutL (k) (SlF.ofOwn ho23 (fun p_ hp_ => (hs30.own p_ (List.mem_append_left _ hp_)).1)) (by refine ⟨?_, ?_, ?_⟩ <;> (omega)))
                · first | omega | (simp only [List.length_take, List.length_drop]; omega)
                · first | omega | (simp only [List.length_take, List.length_drop]; omega)
                refine WL.val rfl rfl rfl (Run.load Try.isAgg3 rfl rfl (SlF.one1 (SlF.cutL (k) (SlF.ofOwn ho23 (fun p_ hp_ => (hs30.own p_ (List.mem_append_left _ hp_)).1)) (by refine ⟨?_, ?_, ?_⟩ <;> (omega))) ?_ rfl)) ?_
                · first | omega | (simp only [List.length_take, List.length_drop]; omega)
                refine WL.val rfl rfl rfl (Run.idxN Try.runUnderlying31 Try.sizeOf3 rfl rfl rfl ?_ ?_ ?_) ?_
                · exact SlF.some_ (SlF.ofOwn ho23 (fun p_ hp_ => (hs30.own p_ (List.mem_append_left _ hp_)).1))
                · first | omega | (simp only [List.length_take, List.length_drop]; omega)
                · first | omega | (simp only [List.length_take, List.length_drop]; omega)
                refine WL.storeF1 (x' := _) hs30 ho23 Try.sizeOf3 rfl rfl rfl rfl rfl rfl rfl rfl rfl ?_ rfl (fun L33 whs34 hs34 ho35 _ => ?_)
                · first | omega | (simp only [List.length_take, List.length_drop]; omega)
                refine WL.nil ?_
                refine tkN ?_
                refine hK32 _ _ ?_
                clear hK32
                refine WC.region ?_
                refine WL.val rfl rfl rfl (Run.move rfl rfl) ?_
                refine WL.val rfl rfl rfl (Run.add rfl rfl rfl ?_) ?_
                · constructor <;> omega
                refine WL.val rfl rfl rfl (Run.assign rfl rfl) ?_
                refine WL.nil ?_
                refine ibN ?_
                refine tkN ?_
                refine hK28 _ _ ?_
                clear hK28
                refine WC.region ?_
                refine WL.val rfl rfl rfl (Run.move rfl rfl) ?_
                refine WL.val rfl rfl rfl (Run.add rfl rfl rfl ?_) ?_
                · constructor <;> omega
                refine WL.val rfl rfl rfl (Run.assign rfl rfl) ?_
                refine WL.nil ?_
                refine tkN ?_
                refine ⟨⟨rfl, rfl, rfl, rfl, rfl, rfl, rfl, rfl, rfl, rfl, rfl, rfl, rfl, rfl, rfl, rfl, rfl, rfl, rfl, rfl, rfl, trivial⟩, _, hs34, _, ?_, _, (j + 1), (k2 + 1), rfl, ?_, ?_, ?_, ?_, ?_, ho35, ⟨rfl, rfl, rfl, trivial⟩⟩
                · omega
                · omega
                · omega
                · omega
                · omega
                · first | omega | (rw [List.length_set]; omega)
              · have qh31 := h31
                try simp only [decide_eq_true_eq, decide_eq_false_iff_not, Bool.not_eq_true', Bool.not_eq_false', Bool.and_eq_true, Bool.or_eq_false_iff, within_iff, within_not] at qh31
                refine WC.skip ?_
                refine ibN ?_
                refine tkN ?_
                refine hK28 _ _ ?_
                clear hK28
                refine WC.region ?_
                refine WL.val rfl rfl rfl (Run.move rfl rfl) ?_
                refine WL.val rfl rfl rfl (Run.add rfl rfl rfl ?_) ?_
                · constructor <;> omega
                refine WL.val rfl rfl rfl (Run.assign rfl rfl) ?_
                refine WL.nil ?_
                refine tkN ?_
                refine ⟨⟨rfl, rfl, rfl, rfl, rfl, rfl, rfl, rfl, rfl, rfl, rfl, rfl, rfl, rfl, rfl, rfl, rfl, rfl, rfl, rfl, rfl, trivial⟩, _, hs30, _, ?_, _, (j + 1), k2, rfl, ?_, ?_, ?_, ?_, ?_, ho23, ⟨rfl, rfl, rfl, trivial⟩⟩
                · omega
                · omega
                · omega
                · omega
                · omega
                · first | omega | (rw [List.length_set]; omega)
            · have qh27 := h27
              try simp only [decide_eq_true_eq, decide_eq_false_iff_not, Bool.not_eq_true', Bool.not_eq_false', Bool.and_eq_true, Bool.or_eq_false_iff, within_iff, within_not] at qh27
              refine WC.exit ?_
              refine tkE ?_
              refine tkE ?_
              refine ibE ?_
              refine tkN ?_
              refine hK18 _ _ ?_
              clear hK18
              refine WC.seq (fun K36 hK36 => ?_)
              refine WC.region ?_
              refine WL.val rfl rfl rfl (Run.move rfl rfl) ?_
              refine WL.val rfl rfl rfl (Run.move rfl rfl) ?_
              have hc_ := OwnF.cap ho23
              refine WL.val rfl rfl rfl (Run.sliceL (k2) Try.runUnderlying31 Try.sizeOf3 rfl rfl rfl ?_ ?_) ?_
              · first | rfl | (omega)
              · refine ⟨?_, ?_, ?_⟩ <;> (omega)
              refine WL.clearF (lo := k2) hs24 ho23 Try.underlying31 Try.zeroValue3 rfl rfl rfl rfl rfl ?_ (fun L37 whs38 hs38 ho39 _ => ?_)
              · omega
              refine WL.nil ?_
              refine tkN ?_
              refine hK36 _ _ ?_
              clear hK36
              refine WC.seq (fun K40 hK40 => ?_)
              refine WC.region ?_
              refine WL.val rfl rfl rfl (Run.move rfl rfl) ?_
              refine WL.val rfl rfl rfl (Run.move rfl rfl) ?_
              have ho41 := OwnF.take (k := k2) ho39 (by omega)
              have hcho41 := OwnF.cap ho41
              refine WL.val rfl rfl rfl (Run.sliceH0 (k2) Try.runUnderlying31 Try.sizeOf3 rfl rfl rfl ?_ ?_) ?_
              · first | rfl | (omega)
              · first | (exact Nat.zero_le _) | (omega)
              refine WL.val rfl rfl rfl (Run.assign rfl rfl) ?_
              refine WL.nil ?_
              refine tkN ?_
              refine hK40 _ _ ?_
              clear hK40
              refine WC.ret ?_
              refine ibR ?_
              refine tkR ?_
              refine tkR ?_
              refine ibR ?_
              refine tkR ?_
              clear hK13 hK7
              refine retV1 rfl (resV.tmp rfl) ?_
              exact ⟨_, _, _, rfl, hs38.nil, ⟨fun h => absurd h (by omega), fun h => absurd hdup (h (k - 1) (by omega))⟩⟩
        · have qh16 := h16
          try simp only [decide_eq_true_eq, decide_eq_false_iff_not, Bool.not_eq_true', Bool.not_eq_false', Bool.and_eq_true, Bool.or_eq_false_iff, within_iff, within_not] at qh16
          refine WC.skip ?_
          refine ibN ?_
          refine tkN ?_
          refine hK13 _ _ ?_
          clear hK13
          refine WC.region ?_
          refine WL.val rfl rfl rfl (Run.move rfl rfl) ?_
          refine WL.val rfl rfl rfl (Run.add rfl rfl rfl ?_) ?_
          · constructor <;> omega
          refine WL.val rfl rfl rfl (Run.assign rfl rfl) ?_
          refine WL.nil ?_
          refine tkN ?_
          refine ⟨⟨rfl, rfl, rfl, rfl, trivial⟩, hs15, _, ?_, k + 1, rfl, ?_, ?_, ?_, ⟨rfl, trivial⟩⟩
          · omega
          · omega
          · omega
          · intro j h1 h2; rcases Nat.lt_or_ge j k with h_ | h_
            · exact p2 j h1 h_
            · obtain rfl : j = k := by omega
              exact qh16
      · have qh12 := h12
        try simp only [decide_eq_true_eq, decide_eq_false_iff_not, Bool.not_eq_true', Bool.not_eq_false', Bool.and_eq_true, Bool.or_eq_false_iff, within_iff, within_not] at qh12
        refine WC.exit ?_
        refine tkE ?_
        refine tkE ?_
        refine ibE ?_
        refine tkN ?_
        refine hK7 _ _ ?_
        clear hK7
        refine WC.seq (fun K42 hK42 => ?_)
        refine WC.region ?_
        refine WL.val rfl rfl rfl (Run.move rfl rfl) ?_
        refine WL.val rfl rfl rfl (Run.assign rfl rfl) ?_
        refine WL.nil ?_
        refine tkN ?_
        refine hK42 _ _ ?_
        clear hK42
        refine WC.ret ?_
        refine retV1 rfl (resV.tmp rfl) ?_
        exact ⟨_, _, _, rfl, hs9.nil, ⟨fun _ i hi => p2 (i + 1) (by omega) (by omega), fun _ => rfl⟩⟩
theorem c_slices_Index_int_int (A_s : Option Addr) (n_s c_s : Nat) (s : List Int) (x : Int) (w : World) (f_s : SlF encI w A_s n_s s) (hn : n_s ≤ 1099511627776) :
    Calls Try.prog 62 #[.slice A_s n_s c_s, i64 x] w fun e w' => e = .returned (.int .i64 (findI (fun z => decide (x = z)) s)) ∧ St w [] [] w' := by
  refine enter (vs := [.slice A_s n_s c_s, i64 x]) 19 Try.func62 rfl Try.ntmps62 rfl rfl ?_
  have hs1 := St.init w
  refine WC.seq (fun K2 hK2 => ?_)
  refine WC.region ?_
  refine WL.val rfl rfl rfl (Run.assign rfl rfl) ?_
  refine WL.nil ?_
  refine tkN ?_
  refine hK2 _ _ ?_
  clear hK2
  refine WC.seq (fun K3 hK3 => ?_)
  refine WC.seq (fun K4 hK4 => ?_)
  refine WC.region ?_
  refine WL.val rfl rfl rfl (Run.move rfl rfl) ?_
  refine WL.val rfl rfl rfl (Run.lenSl Try.runUnderlying31 rfl rfl) ?_
  refine WL.val rfl rfl rfl (Run.move rfl rfl) ?_
  refine WL.nil ?_
  refine tkN ?_
  refine hK4 _ _ ?_
  clear hK4
  refine WC.block ?_
  refine WC.loopS [(0, _), (1, _), (6, _), (7, _)] ⟨rfl, rfl, rfl, rfl, trivial⟩ hs1 (fun k_ f w' => ∃ (i : Nat), k_ = n_s - i ∧ (i ≤ n_s) ∧ (∀ j, j < i → (fun z => decide (x = z)) (iat s j) = false) ∧ Sub [(8, .int .i64 i)] f) ((fun (i : Nat) => n_s - i) (0)) ?_ ?_
  · refine ⟨0, rfl, ?_, ?_, ⟨rfl, trivial⟩⟩
    · exact Nat.zero_le _
    · exact fun j hj => absurd hj (by omega)
  · clear hs1
    rintro _ f w ⟨i, rfl, p0, p1, hG⟩ hF hs5
    refine WC.sub _ (hG.app hF) ?_
    clear hG hF
    refine WC.seq (fun K6 hK6 => ?_)
    refine WC.region ?_
    refine WL.val rfl rfl rfl (Run.lss rfl rfl rfl) ?_
    refine WL.nil ?_
    refine tkN ?_
    refine hK6 _ _ ?_
    clear hK6
    refine WC.seq (fun K7 hK7 => ?_)
    refine WC.cond rfl (fun h8 => ?_) (fun h8 => ?_)
    · have qh8 := h8
      try simp only [decide_eq_true_eq, decide_eq_false_iff_not, Bool.not_eq_true', Bool.not_eq_false', Bool.and_eq_true, Bool.or_eq_false_iff, within_iff, within_not] at qh8
      refine WC.skip ?_
      refine tkN ?_
      refine hK7 _ _ ?_
      clear hK7
      refine WC.seq (fun K9 hK9 => ?_)
      refine WC.block ?_
      refine WC.seq (fun K10 hK10 => ?_)
      refine WC.region ?_
      refine WL.val rfl rfl rfl (Run.move rfl rfl) ?_
      refine WL.val rfl rfl rfl (Run.assign rfl rfl) ?_
      refine WL.nil ?_
      refine tkN ?_
      refine hK10 _ _ ?_
      clear hK10
      refine WC.seq (fun K11 hK11 => ?_)
      refine WC.region ?_
      refine WL.val rfl rfl rfl (Run.move rfl rfl) ?_
      refine WL.val rfl rfl rfl (Run.move rfl rfl) ?_
      refine WL.val rfl rfl rfl (Run.move rfl rfl) ?_
      refine WL.val rfl rfl rfl (Run.idxN Try.runUnderlying31 Try.sizeOf3 rfl rfl rfl ?_ ?_ ?_) ?_
      · exact SlF.some_ (SlF.st0 f_s hs5)
      · omega
      · omega
      refine WL.val rfl rfl rfl (Run.load Try.isAgg3 rfl rfl (SlF.one1 (SlF.st0 f_s hs5) ?_ rfl)) ?_
      · omega
      refine WL.val rfl rfl rfl (Run.eql rfl rfl rfl) ?_
      refine WL.nil ?_
      refine tkN ?_
      refine hK11 _ _ ?_
      clear hK11
      refine WC.cond rfl (fun h12 => ?_) (fun h12 => ?_)
      · have qh12 := h12
        try simp only [decide_eq_true_eq, decide_eq_false_iff_not, Bool.not_eq_true', Bool.not_eq_false', Bool.and_eq_true, Bool.or_eq_false_iff, within_iff, within_not] at qh12
        refine WC.seq (fun K13 hK13 => ?_)
        refine WC.region ?_
        refine WL.val rfl rfl rfl (Run.move rfl rfl) ?_
        refine WL.val rfl rfl rfl (Run.assign rfl rfl) ?_
        refine WL.nil ?_
        refine tkN ?_
        refine hK13 _ _ ?_
        clear hK13
        refine WC.ret ?_
        refine ibR ?_
        refine tkR ?_
        refine tkR ?_
        refine ibR ?_
        refine tkR ?_
        clear hK9 hK3
        refine retV1 rfl (resV.tmp rfl) ?_
        refine ⟨congrArg Ending.returned ?_, hs5.nil⟩
        rw [findI_some (F := encI) (i := i) (by rw [f_s.len]; omega) p1 h12]
      · have qh12 := h12
        try simp only [decide_eq_true_eq, decide_eq_false_iff_not, Bool.not_eq_true', Bool.not_eq_false', Bool.and_eq_true, Bool.or_eq_false_iff, within_iff, within_not] at qh12
        refine WC.skip ?_
        refine ibN ?_
        refine tkN ?_
        refine hK9 _ _ ?_
        clear hK9
        refine WC.region ?_
        refine WL.val rfl rfl rfl (Run.add rfl rfl rfl ?_) ?_
        · constructor <;> omega
        refine WL.val rfl rfl rfl (Run.move rfl rfl) ?_
        refine WL.nil ?_
        refine tkN ?_
        refine ⟨⟨rfl, rfl, rfl, rfl, trivial⟩, hs5, _, ?_, i + 1, rfl, ?_, ?_, ⟨rfl, trivial⟩⟩
        · omega
        · omega
        · intro j hj; rcases Nat.lt_or_ge j i with h_ | h_
          · exact p1 j h_
          · obtain rfl : j = i := by omega
            exact h12
    · have qh8 := h8
      try simp only [decide_eq_true_eq, decide_eq_false_iff_not, Bool.not_eq_true', Bool.not_eq_false', Bool.and_eq_true, Bool.or_eq_false_iff, within_iff, within_not] at qh8
      refine WC.exit ?_
      refine tkE ?_
      refine tkE ?_
      refine ibE ?_
      refine tkN ?_
      refine hK3 _ _ ?_
      clear hK3
      refine WC.seq (fun K14 hK14 => ?_)
      refine WC.region ?_
      refine WL.val rfl rfl rfl (Run.assign rfl rfl) ?_
      refine WL.nil ?_
      refine tkN ?_
      refine hK14 _ _ ?_
      clear hK14
      refine WC.ret ?_
      refine retV1 rfl (resV.tmp rfl) ?_
      refine ⟨congrArg Ending.returned ?_, hs5.nil⟩
      rw [findI_none (F := encI) (fun j hj => p1 j (by rw [f_s.len] at hj; omega))]
end Go.Proofs.Ytghcicggamkjgaa
