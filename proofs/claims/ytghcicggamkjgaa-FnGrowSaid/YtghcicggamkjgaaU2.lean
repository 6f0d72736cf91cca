/- Walks of Go functions, printed by a program (wip/gen). -/
import Derived.Test.YtghcicggamkjgaaN12
import Derived.Test.YtghcicggamkjgaaU1
import Derived.Test.YtghcicggamkjgaaQ3
namespace Go.Proofs.Ytghcicggamkjgaa
open Go Go.RowKit
set_option linter.unusedVariables false
set_option linter.unusedSimpArgs false
set_option maxHeartbeats 2000000 in
theorem c_spec_MakeTree (A_s : Option Addr) (n_s c_s : Nat) (s : List UInt8) (w : World) (f_s : SlF encB w A_s n_s s) (hn : n_s ≤ 1048576) :
    Calls Try.prog 38 #[.slice A_s n_s c_s] w fun e w' => ∃ t p A c L1, e = .returned (.tuple #[.slice A (List.length t) c, .int .i64 p]) ∧ St w [] L1 w' ∧ OwnF encNode 62 (.slice A (List.length t) c) t L1 ∧ Made t ∧ p ∈ panesL t ∧ (panesL t).length ≤ 7 ∧ List.length t ≤ 31 := by
  have hl := f_s.len
  refine enter (vs := [.slice A_s n_s c_s]) 53 Try.func38 rfl Try.ntmps38 rfl rfl ?_
  have hs1 := St.init w
  refine WC.seq (fun K2 hK2 => ?_)
  refine WC.region ?_
  refine WL.val rfl rfl rfl (Run.assign rfl rfl) ?_
  refine WL.val rfl rfl rfl (Run.assign rfl rfl) ?_
  refine WL.nil ?_
  refine tkN ?_
  refine hK2 _ _ ?_
  clear hK2
  refine WC.seq (fun K3 hK3 => ?_)
  refine WC.region ?_
  refine WL.val rfl rfl rfl (Run.move rfl rfl) ?_
  refine WL.call rfl rfl rfl (Run.call Try.call72 rfl rfl rfl) (c_spec_l01New _ _ _ _ _ (SlF.st0 f_s hs1) ?_) ?_
  · omega
  rintro _ whs6 ⟨b4, h5, rfl, hs6⟩
  replace hs6 := hs1.callF hs6
  refine ⟨_, rfl, ?_⟩
  refine WL.val rfl rfl rfl (Run.assign rfl rfl) ?_
  refine WL.nil ?_
  refine tkN ?_
  refine hK3 _ _ ?_
  clear hK3
  refine WC.seq (fun K7 hK7 => ?_)
  refine WC.region ?_
  refine WL.val rfl rfl rfl (Run.build rfl rfl rfl rfl (built_62_0 _)) ?_
  refine WL.buildF (F := encNode) hs6 ([⟨1, false, 0⟩]) Try.runUnderlying25 Try.sizeOf62 Try.zeroValue62 rfl rfl rfl rfl rfl rfl rfl rfl rfl rfl rfl rfl (fun A11 c12 L8 whs9 hs9 ho10 => ?_)
  replace hs9 := St.back [_] hs9
  refine WL.val rfl rfl rfl (Run.assign rfl rfl) ?_
  refine WL.nil ?_
  refine tkN ?_
  refine hK7 _ _ ?_
  clear hK7
  refine WC.seq (fun K13 hK13 => ?_)
  refine WC.seq (fun K14 hK14 => ?_)
  refine WC.region ?_
  refine WL.val rfl rfl rfl (Run.move rfl rfl) ?_
  have hF15 : St _ _ ([(b4, _)] ++ _) _ := hs9
  refine WL.call rfl rfl rfl (Run.call Try.call73 rfl rfl rfl) (c_spec_l01Below _ _ _ _ _ _ _ _ _ (hF15.own _ List.mem_cons_self).1 (SlF.st0 f_s hs9) (St.sep hF15 f_s) ?_ ?_) ?_
  · omega
  · omega
  rintro _ whs21 ⟨r16, i17, h18, rfl, hs21, hr19, hi20⟩
  replace hs21 := St.lend hF15 hs21
  refine ⟨_, rfl, ?_⟩
  refine WL.val rfl rfl rfl (Run.assign rfl rfl) ?_
  refine WL.nil ?_
  refine tkN ?_
  refine hK14 _ _ ?_
  clear hK14
  refine WC.block ?_
  refine WC.loopV (α := Hp × Int × Int) [(0, _), (2, _), (3, _), (4, _), (11, _), (12, _), (13, _), (14, _), (15, _), (16, _)] ⟨rfl, rfl, rfl, rfl, rfl, rfl, rfl, rfl, rfl, rfl, trivial⟩ (fun a_ => (b4, Obj.cells (List.toArray [.slice A_s n_s c_s, i64 (a_.2.1), i64 (a_.2.2)]) 86 (0, 0)) :: a_.1) (L8, i17, h18) (St.front (L1 := (b4, _) :: L8) [] hs21) (fun k_ a_ f => ∃ (zs : List NodeD) (n : Int) (A22 : Option Addr) (c23 : Nat) (i27 h28 : Int) (L24 : Hp), k_ = n.toNat ∧ a_ = (L24, i27, h28) ∧ (Made zs) ∧ (((panesL zs).length : Int) + n ≤ 7) ∧ (0 ≤ n) ∧ (0 ≤ i27 ∧ i27 ≤ n_s) ∧ OwnF encNode 62 (.slice A22 (zs).length c23) (zs) L24 ∧ Sub [(5, .slice A22 (zs).length c23), (6, .int .i64 n)] f) (((fun (zs : List NodeD) (n : Int) => n.toNat) ([⟨1, false, 0⟩]) (r16))) ?_ ?_
  · refine ⟨[⟨1, false, 0⟩], r16, A11, c12, i17, h18, L8, rfl, rfl, ?_, ?_, ?_, ?_, ho10, ⟨rfl, rfl, trivial⟩⟩
    · exact made_one
    · have h_ := hr19; simp [panesL]; omega
    · exact hr19.1
    · omega
  · rintro _ _ f w ⟨zs, n, A22, c23, i27, h28, L24, rfl, rfl, p0, p1, p2, p3, ho25, hG⟩ hF hs26
    refine WC.sub _ (hG.app hF) ?_
    clear hG hF
    replace hs26 := St.back (L1 := (b4, Obj.cells (List.toArray [.slice A_s n_s c_s, i64 (i27), i64 (h28)]) 86 (0, 0)) :: L24) [] hs26
    have hzl := treeOk_len p0.ok
    have hpp := panes_pos p0.ok
    have hll := congrArg List.length (leaves_ok p0.ok)
    refine WC.seq (fun K29 hK29 => ?_)
    refine WC.seq (fun K30 hK30 => ?_)
    refine WC.region ?_
    refine WL.val rfl rfl rfl (Run.move rfl rfl) ?_
    refine WL.val rfl rfl rfl (Run.gtr rfl rfl rfl) ?_
    refine WL.nil ?_
    refine tkN ?_
    refine hK30 _ _ ?_
    clear hK30
    refine WC.cond rfl (fun h31 => ?_) (fun h31 => ?_)
    · have qh31 := h31
      try simp only [decide_eq_true_eq, decide_eq_false_iff_not, Bool.not_eq_true', Bool.not_eq_false', Bool.and_eq_true, Bool.or_eq_false_iff, within_iff, within_not] at qh31
      refine WC.skip ?_
      refine tkN ?_
      refine hK29 _ _ ?_
      clear hK29
      refine WC.seq (fun K32 hK32 => ?_)
      refine WC.block ?_
      refine WC.seq (fun K33 hK33 => ?_)
      refine WC.region ?_
      refine WL.val rfl rfl rfl (Run.move rfl rfl) ?_
      refine WL.call rfl rfl rfl (Run.call Try.call24 rfl rfl rfl) (c_spec_Leaves _ _ _ _ _ (SlF.ofOwn ho25 (fun p_ hp_ => (hs26.own p_ (List.mem_append_right [_] (List.mem_append_left _ hp_))).1)) ?_) ?_
      · first | assumption | rfl | omega
      rintro _ whs34 ⟨A35, c36, L137, rfl, hs34, ho38⟩
      replace hs34 := hs26.callF hs34
      refine ⟨_, rfl, ?_⟩
      replace hs34 := St.back [_] hs34
      refine WL.val rfl rfl rfl (Run.assign rfl rfl) ?_
      refine WL.nil ?_
      refine tkN ?_
      refine hK33 _ _ ?_
      clear hK33
      refine WC.seq (fun K39 hK39 => ?_)
      refine WC.regionH2 (fun w' => St _ _ _ w') (fun w' => St _ _ _ w') mixed (St.drew (St.drop hs34 (List.sublist_append_right [_] _))) (St.drew hs34) (fun whs40 hs40 => ?_)
      replace hs40 : St _ _ _ _ := hs40
      refine WH.take 0 rfl (by kernel_rfl) rfl rfl rfl (St.drop hs40 (List.sublist_append_right [_] _)) (fun w_ hs_ => (Run.move rfl rfl)) ?_
      refine WH.take 1 rfl (by kernel_rfl) rfl rfl rfl (St.drop hs40 (List.sublist_append_right [_] _)) (fun w_ hs_ => (Run.move rfl rfl)) ?_
      refine WH.take 2 rfl (by kernel_rfl) rfl rfl rfl (St.drop hs40 (List.sublist_append_right [_] _)) (fun w_ hs_ => (Run.move rfl rfl)) ?_
      refine WH.take 3 rfl (by kernel_rfl) rfl rfl rfl (St.drop hs40 (List.sublist_append_right [_] _)) (fun w_ hs_ => (Run.move rfl rfl)) ?_
      refine WH.take 4 rfl (by kernel_rfl) rfl rfl rfl (St.drop hs40 (List.sublist_append_right [_] _)) (fun w_ hs_ => (Run.lenSl Try.runUnderlying31 rfl rfl)) ?_
      refine WH.take 8 rfl (by kernel_rfl) rfl rfl rfl (St.drop hs40 (List.sublist_append_right [_] _)) (fun w_ hs_ => (Run.move rfl rfl)) ?_
      refine WH.take 9 rfl (by kernel_rfl) rfl rfl rfl (St.drop hs40 (List.sublist_append_right [_] _)) (fun w_ hs_ => (Run.lenSl Try.runUnderlying31 rfl rfl)) ?_
      refine WH.take 10 rfl (by kernel_rfl) rfl rfl rfl (St.drop hs40 (List.sublist_append_right [_] _)) (fun w_ hs_ => (Run.add rfl rfl rfl ?_)) ?_
      · constructor <;> omega
      refine WH.take 11 rfl (by kernel_rfl) rfl rfl rfl (St.drop hs40 (List.sublist_append_right [_] _)) (fun w_ hs_ => (Run.move rfl rfl)) ?_
      refine WH.all [5] (by kernel_rfl) rfl (WHs.cons (i := 5) rfl ?_ WHs.nil)
      have hF41 : St _ _ ([(b4, _)] ++ _) _ := hs40
      refine WL.call rfl rfl rfl (Run.call Try.call73 rfl rfl rfl) (c_spec_l01Below _ _ _ _ _ _ _ _ _ (hF41.own _ List.mem_cons_self).1 (SlF.st0 f_s hs40) (St.sep hF41 f_s) ?_ ?_) ?_
      · omega
      · omega
      rintro _ whs47 ⟨r42, i43, h44, rfl, hs47, hr45, hi46⟩
      replace hs47 := St.lend hF41 hs47
      refine ⟨_, rfl, ?_⟩
      refine WL.nil ⟨(St.drop hs47 (List.sublist_append_right [_] _)), ?_⟩
      refine WH.take 6 rfl (by kernel_rfl) rfl rfl rfl (St.drop hs47 (List.sublist_append_right [_] _)) (fun w_ hs_ => (Run.idxK (r42.toNat) Try.runUnderlying31 Try.sizeOf3 rfl rfl rfl ?_ ?_ ?_)) ?_
      · exact SlF.some_ (SlF.ofOwn ho38 (fun p_ hp_ => ((hs_ : St _ _ _ _).own p_ (List.mem_append_left _ hp_)).1))
      · omega
      · omega
      refine WH.take 7 rfl (by kernel_rfl) rfl rfl rfl (St.drop hs47 (List.sublist_append_right [_] _)) (fun w_ hs_ => (Run.load Try.isAgg3 rfl rfl (SlF.one1 (SlF.ofOwn ho38 (fun p_ hp_ => ((hs_ : St _ _ _ _).own p_ (List.mem_append_left _ hp_)).1)) ?_ rfl))) ?_
      · omega
      refine WH.all [12] (by kernel_rfl) rfl (WHs.cons (i := 12) rfl ?_ WHs.nil)
      have hF48 : St _ _ ([(b4, _)] ++ _) _ := hs47
      refine WL.call rfl rfl rfl (Run.call Try.call73 rfl rfl rfl) (c_spec_l01Below _ _ _ _ _ _ _ _ _ (hF48.own _ List.mem_cons_self).1 (SlF.st0 f_s hs47) (St.sep hF48 f_s) ?_ ?_) ?_
      · omega
      · omega
      rintro _ whs54 ⟨r49, i50, h51, rfl, hs54, hr52, hi53⟩
      replace hs54 := St.lend hF48 hs54
      refine ⟨_, rfl, ?_⟩
      refine WL.nil ⟨(St.drop hs54 (List.sublist_append_right [_] _)), ?_⟩
      refine WH.take 13 rfl (by kernel_rfl) rfl rfl rfl (St.drop hs54 (List.sublist_append_right [_] _)) (fun w_ hs_ => (Run.eql rfl rfl rfl)) ?_
      refine WH.all [14] (by kernel_rfl) rfl (WHs.cons (i := 14) rfl ?_ WHs.nil)
      refine WL.call rfl rfl rfl (Run.call Try.call46 rfl rfl rfl) (c_spec_Split _ _ _ _ _ _ _ _ _ _ (SlF.ofOwn ho25 (fun p_ hp_ => (hs54.own p_ (List.mem_append_right [_] (List.mem_append_right _ (List.mem_append_left _ hp_)))).1)) (OwnF.cap ho25) ?_) ?_
      · first | assumption | rfl | omega
      rintro _ whs55 ⟨A56, c57, L158, rfl, hs55, ho59⟩
      replace hs55 := hs54.callF hs55
      refine ⟨_, rfl, ?_⟩
      replace hs55 := St.back [_] hs55
      refine WL.nil ⟨(St.drop (St.drop hs55 (List.sublist_append_right [_] _)) (List.sublist_append_right L158 _)), ?_⟩
      refine WH.take 15 rfl (by kernel_rfl) rfl rfl rfl (St.drop (St.drop hs55 (List.sublist_append_right [_] _)) (List.sublist_append_right L158 _)) (fun w_ hs_ => (Run.move rfl rfl)) ?_
      refine WH.take 16 rfl (by kernel_rfl) rfl rfl rfl (St.drop (St.drop hs55 (List.sublist_append_right [_] _)) (List.sublist_append_right L158 _)) (fun w_ hs_ => (Run.extract rfl rfl rfl)) ?_
      refine WH.take 17 rfl (by kernel_rfl) rfl rfl rfl (St.drop (St.drop hs55 (List.sublist_append_right [_] _)) (List.sublist_append_right L158 _)) (fun w_ hs_ => (Run.extract rfl rfl rfl)) ?_
      refine WH.take 18 rfl (by kernel_rfl) rfl rfl rfl (St.drop (St.drop hs55 (List.sublist_append_right [_] _)) (List.sublist_append_right L158 _)) (fun w_ hs_ => (Run.assign rfl rfl)) ?_
      refine WH.take 19 rfl (by kernel_rfl) rfl rfl rfl (St.drop (St.drop hs55 (List.sublist_append_right [_] _)) (List.sublist_append_right L158 _)) (fun w_ hs_ => (Run.assign rfl rfl)) ?_
      refine WH.done (by kernel_rfl) ?_
      refine tkN ?_
      refine hK39 _ _ ?_
      clear hK39
      refine WC.seq (fun K60 hK60 => ?_)
      refine WC.region ?_
      refine WL.val rfl rfl rfl (Run.move rfl rfl) ?_
      refine WL.nil ?_
      refine tkN ?_
      refine hK60 _ _ ?_
      clear hK60
      refine WC.cond rfl (fun h61 => ?_) (fun h61 => ?_)
      · have qh61 := h61
        try simp only [decide_eq_true_eq, decide_eq_false_iff_not, Bool.not_eq_true', Bool.not_eq_false', Bool.and_eq_true, Bool.or_eq_false_iff, within_iff, within_not] at qh61
        refine WC.region ?_
        refine WL.val rfl rfl rfl (Run.move rfl rfl) ?_
        refine WL.val rfl rfl rfl (Run.assign rfl rfl) ?_
        refine WL.nil ?_
        refine ibN ?_
        refine tkN ?_
        refine hK32 _ _ ?_
        clear hK32
        refine WC.region ?_
        refine WL.val rfl rfl rfl (Run.move rfl rfl) ?_
        refine WL.val rfl rfl rfl (Run.sub rfl rfl rfl ?_) ?_
        · constructor <;> omega
        refine WL.val rfl rfl rfl (Run.assign rfl rfl) ?_
        refine WL.nil ?_
        refine tkN ?_
        replace hs55 := St.drop (St.perm hs55 (L' := L137 ++ _) (perm_front (A := [_]) (perm_front (A := L158) (List.Perm.refl _)))) (List.sublist_append_right L137 _)
        replace hs55 := St.drop (St.perm hs55 (L' := L24 ++ _) (perm_front (A := [_]) (perm_front (A := L158) (List.Perm.refl _)))) (List.sublist_append_right L24 _)
        have hF62 := (St.front (L1 := (b4, _) :: L158) [] hs55)
        refine ⟨⟨rfl, rfl, rfl, rfl, rfl, rfl, rfl, rfl, rfl, rfl, trivial⟩, (L158, i50, h51), hF62, _, ?_, _, _, A56, c57, i50, h51, L158, rfl, rfl, ?_, ?_, ?_, ?_, ho59, ⟨rfl, rfl, trivial⟩⟩
        · omega
        · first | exact (p0.next h61).1 | exact p0
        · first | (rw [(p0.next h61).2]; omega) | omega
        · omega
        · omega
      · have qh61 := h61
        try simp only [decide_eq_true_eq, decide_eq_false_iff_not, Bool.not_eq_true', Bool.not_eq_false', Bool.and_eq_true, Bool.or_eq_false_iff, within_iff, within_not] at qh61
        refine WC.skip ?_
        refine ibN ?_
        refine tkN ?_
        refine hK32 _ _ ?_
        clear hK32
        refine WC.region ?_
        refine WL.val rfl rfl rfl (Run.move rfl rfl) ?_
        refine WL.val rfl rfl rfl (Run.sub rfl rfl rfl ?_) ?_
        · constructor <;> omega
        refine WL.val rfl rfl rfl (Run.assign rfl rfl) ?_
        refine WL.nil ?_
        refine tkN ?_
        replace hs55 := St.drop (St.perm hs55 (L' := L158 ++ _) (perm_front (A := [_]) (List.Perm.refl _))) (List.sublist_append_right L158 _)
        replace hs55 := St.drop (St.perm hs55 (L' := L137 ++ _) (perm_front (A := [_]) (List.Perm.refl _))) (List.sublist_append_right L137 _)
        have hF63 := (St.front (L1 := (b4, _) :: L24) [] hs55)
        refine ⟨⟨rfl, rfl, rfl, rfl, rfl, rfl, rfl, rfl, rfl, rfl, trivial⟩, (L24, i50, h51), hF63, _, ?_, _, _, A22, c23, i50, h51, L24, rfl, rfl, ?_, ?_, ?_, ?_, ho25, ⟨rfl, rfl, trivial⟩⟩
        · omega
        · first | exact (p0.next h61).1 | exact p0
        · first | (rw [(p0.next h61).2]; omega) | omega
        · omega
        · omega
    · have qh31 := h31
      try simp only [decide_eq_true_eq, decide_eq_false_iff_not, Bool.not_eq_true', Bool.not_eq_false', Bool.and_eq_true, Bool.or_eq_false_iff, within_iff, within_not] at qh31
      have hzl := treeOk_len p0.ok
      have hpp := panes_pos p0.ok
      have hll := congrArg List.length (leaves_ok p0.ok)
      refine WC.exit ?_
      refine tkE ?_
      refine tkE ?_
      refine ibE ?_
      refine tkN ?_
      refine hK13 _ _ ?_
      clear hK13
      refine WC.seq (fun K64 hK64 => ?_)
      refine WC.region ?_
      refine WL.val rfl rfl rfl (Run.move rfl rfl) ?_
      refine WL.call rfl rfl rfl (Run.call Try.call24 rfl rfl rfl) (c_spec_Leaves _ _ _ _ _ (SlF.ofOwn ho25 (fun p_ hp_ => (hs26.own p_ (List.mem_append_right [_] (List.mem_append_left _ hp_))).1)) ?_) ?_
      · first | assumption | rfl | omega
      rintro _ whs65 ⟨A66, c67, L168, rfl, hs65, ho69⟩
      replace hs65 := hs26.callF hs65
      refine ⟨_, rfl, ?_⟩
      replace hs65 := St.back [_] hs65
      refine WL.val rfl rfl rfl (Run.assign rfl rfl) ?_
      refine WL.nil ?_
      refine tkN ?_
      refine hK64 _ _ ?_
      clear hK64
      refine WC.seq (fun K70 hK70 => ?_)
      refine WC.regionH2 (fun w' => St _ _ _ w') (fun w' => St _ _ _ w') mixed (St.drew (St.drop hs65 (List.sublist_append_right [_] _))) (St.drew hs65) (fun whs71 hs71 => ?_)
      replace hs71 : St _ _ _ _ := hs71
      refine WH.take 0 rfl (by kernel_rfl) rfl rfl rfl (St.drop hs71 (List.sublist_append_right [_] _)) (fun w_ hs_ => (Run.move rfl rfl)) ?_
      refine WH.take 1 rfl (by kernel_rfl) rfl rfl rfl (St.drop hs71 (List.sublist_append_right [_] _)) (fun w_ hs_ => (Run.move rfl rfl)) ?_
      refine WH.take 2 rfl (by kernel_rfl) rfl rfl rfl (St.drop hs71 (List.sublist_append_right [_] _)) (fun w_ hs_ => (Run.move rfl rfl)) ?_
      refine WH.take 3 rfl (by kernel_rfl) rfl rfl rfl (St.drop hs71 (List.sublist_append_right [_] _)) (fun w_ hs_ => (Run.move rfl rfl)) ?_
      refine WH.take 4 rfl (by kernel_rfl) rfl rfl rfl (St.drop hs71 (List.sublist_append_right [_] _)) (fun w_ hs_ => (Run.lenSl Try.runUnderlying31 rfl rfl)) ?_
      refine WH.all [5] (by kernel_rfl) rfl (WHs.cons (i := 5) rfl ?_ WHs.nil)
      have hF72 : St _ _ ([(b4, _)] ++ _) _ := hs71
      refine WL.call rfl rfl rfl (Run.call Try.call73 rfl rfl rfl) (c_spec_l01Below _ _ _ _ _ _ _ _ _ (hF72.own _ List.mem_cons_self).1 (SlF.st0 f_s hs71) (St.sep hF72 f_s) ?_ ?_) ?_
      · omega
      · omega
      rintro _ whs78 ⟨r73, i74, h75, rfl, hs78, hr76, hi77⟩
      replace hs78 := St.lend hF72 hs78
      refine ⟨_, rfl, ?_⟩
      refine WL.nil ⟨(St.drop hs78 (List.sublist_append_right [_] _)), ?_⟩
      refine WH.take 6 rfl (by kernel_rfl) rfl rfl rfl (St.drop hs78 (List.sublist_append_right [_] _)) (fun w_ hs_ => (Run.idxK (r73.toNat) Try.runUnderlying31 Try.sizeOf3 rfl rfl rfl ?_ ?_ ?_)) ?_
      · exact SlF.some_ (SlF.ofOwn ho69 (fun p_ hp_ => ((hs_ : St _ _ _ _).own p_ (List.mem_append_left _ hp_)).1))
      · omega
      · omega
      refine WH.take 7 rfl (by kernel_rfl) rfl rfl rfl (St.drop hs78 (List.sublist_append_right [_] _)) (fun w_ hs_ => (Run.load Try.isAgg3 rfl rfl (SlF.one1 (SlF.ofOwn ho69 (fun p_ hp_ => ((hs_ : St _ _ _ _).own p_ (List.mem_append_left _ hp_)).1)) ?_ rfl))) ?_
      · omega
      refine WH.take 8 rfl (by kernel_rfl) rfl rfl rfl (St.drop hs78 (List.sublist_append_right [_] _)) (fun w_ hs_ => (Run.assign rfl rfl)) ?_
      refine WH.take 9 rfl (by kernel_rfl) rfl rfl rfl (St.drop hs78 (List.sublist_append_right [_] _)) (fun w_ hs_ => (Run.assign rfl rfl)) ?_
      refine WH.done (by kernel_rfl) ?_
      refine tkN ?_
      refine hK70 _ _ ?_
      clear hK70
      refine WC.ret ?_
      refine retV2 rfl (resV.tmp rfl) (resV.tmp rfl) ?_
      have hpm : gat encI (leavesL zs) r73.toNat ∈ panesL zs := by rw [leaves_ok p0.ok]; exact gat_mem (F := encI) (by omega)
      exact ⟨_, _, _, _, _, rfl, (St.keep1 (St.perm hs78 (L' := L24 ++ _) (perm_front (A := [_]) (perm_front (A := L168) (List.Perm.refl _))))), ho25, p0, hpm, by omega, by omega⟩
end Go.Proofs.Ytghcicggamkjgaa
