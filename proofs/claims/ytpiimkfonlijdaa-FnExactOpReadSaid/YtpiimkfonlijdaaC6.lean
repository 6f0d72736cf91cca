/- Walks of Go functions, printed by a program (wip/gen). -/
import Derived.Test.YtpiimkfonlijdaaC5
namespace Go.Proofs.Ytpiimkfonlijdaa
open Go Go.RowKit
set_option linter.unusedVariables false
set_option linter.unusedSimpArgs false
set_option maxHeartbeats 4000000 in
theorem c_impl_OpOk (k a b c : Int) (nm tx dr : ByteArray) (A : Option Addr) (n cp : Nat) (w : World) (hn : nm.size ≤ 1099511627776) :
    Calls Try.prog 13 #[.agg #[i64 k, i64 a, i64 b, i64 c, .string nm, .string tx, .string dr, .slice A n cp]] w fun e w' => e = .returned (.bool (opOk k a b c nm tx dr n)) ∧ St w [] [] w' := by
  refine enter (vs := [.agg #[i64 k, i64 a, i64 b, i64 c, .string nm, .string tx, .string dr, .slice A n cp]]) 179 Try.func13 rfl Try.ntmps13 rfl rfl ?_
  have hs1 := St.init w
  refine WC.seq (fun K2 hK2 => ?_)
  refine WC.region ?_
  refine WL.box hs1 rfl rfl rfl rfl rfl rfl (fun b3 whs4 hs4 => ?_)
  refine WL.val rfl rfl rfl (Run.assign rfl rfl) ?_
  refine WL.nil ?_
  refine tkN ?_
  refine hK2 _ _ ?_
  clear hK2
  refine WC.seq (fun K5 hK5 => ?_)
  refine WC.region ?_
  refine WL.val rfl rfl rfl (Run.loadLA hs4 0 Try.isAgg27 Try.sizeOf27 rfl rfl rfl rfl rfl) ?_
  refine WL.alloc hs4 Try.zeroValue27 rfl rfl rfl rfl rfl (fun b6 whs7 hs7 => ?_)
  refine WL.storeA hs7 0 Try.sizeOf27 rfl rfl rfl rfl rfl rfl rfl rfl rfl (Nat.le_of_ble_eq_true rfl) (.inl (Nat.le_of_ble_eq_true rfl)) (fun whs8 hs8 => ?_)
  refine WL.val rfl rfl rfl (Run.assign rfl rfl) ?_
  refine WL.nil ?_
  refine tkN ?_
  refine hK5 _ _ ?_
  clear hK5
  refine WC.seq (fun K9 hK9 => ?_)
  refine WC.seq (fun K10 hK10 => ?_)
  refine WC.region ?_
  refine WL.val rfl rfl rfl (Run.field Try.runUnderlying27 rfl rfl rfl Try.sizeOf3 rfl) ?_
  refine WL.val rfl rfl rfl (Run.loadL hs8 1 Try.isAgg3 rfl rfl rfl rfl) ?_
  refine WL.nil ?_
  refine tkN ?_
  refine hK10 _ _ ?_
  clear hK10
  refine WC.block ?_
  refine WC.seq (fun K11 hK11 => ?_)
  refine WC.seq (fun K12 hK12 => ?_)
  refine WC.region ?_
  refine WL.val rfl rfl rfl (Run.eql rfl rfl rfl) ?_
  refine WL.val rfl rfl rfl (Run.assign rfl rfl) ?_
  refine WL.nil ?_
  refine tkN ?_
  refine hK12 _ _ ?_
  clear hK12
  refine WC.cond rfl (fun h13 => ?_) (fun h13 => ?_)
  · have qh13 := h13
    try simp only [decide_eq_true_eq, decide_eq_false_iff_not, Bool.not_eq_true', Bool.not_eq_false', Bool.and_eq_true, Bool.or_eq_false_iff, within_iff, within_not] at qh13
    refine WC.skip ?_
    refine tkN ?_
    refine hK11 _ _ ?_
    clear hK11
    refine WC.condT rfl h13 ?_
    refine WC.seq (fun K15 hK15 => ?_)
    refine WC.region ?_
    refine WL.val rfl rfl rfl (Run.field Try.runUnderlying27 rfl rfl rfl Try.sizeOf9 rfl) ?_
    refine WL.store hs8 0 Try.sizeOf9 rfl rfl rfl rfl rfl rfl rfl rfl rfl rfl (fun whs16 hs16 => ?_)
    refine WL.val rfl rfl rfl (Run.field Try.runUnderlying27 rfl rfl rfl Try.sizeOf9 rfl) ?_
    refine WL.store hs16 0 Try.sizeOf9 rfl rfl rfl rfl rfl rfl rfl rfl rfl rfl (fun whs17 hs17 => ?_)
    refine WL.val rfl rfl rfl (Run.field Try.runUnderlying27 rfl rfl rfl Try.sizeOf9 rfl) ?_
    refine WL.store hs17 0 Try.sizeOf9 rfl rfl rfl rfl rfl rfl rfl rfl rfl rfl (fun whs18 hs18 => ?_)
    refine WL.nil ?_
    refine tkN ?_
    refine hK15 _ _ ?_
    clear hK15
    refine WC.region ?_
    refine WL.val rfl rfl rfl (Run.field Try.runUnderlying27 rfl rfl rfl Try.sizeOf9 rfl) ?_
    refine WL.val rfl rfl rfl (Run.loadL hs18 1 Try.isAgg9 rfl rfl rfl rfl) ?_
    refine WL.call rfl rfl rfl (Run.call Try.call48 rfl rfl rfl) (c_impl_WordOk _ _ ?_) ?_
    · first | assumption | rfl | omega
    rintro _ whs19 ⟨rfl, hs19⟩
    replace hs19 := hs18.call0 hs19
    refine ⟨_, rfl, ?_⟩
    refine WL.val rfl rfl rfl (Run.move rfl rfl) ?_
    apply WL.meetAnd 4 18 22 [(0, _), (1, _), (2, _), (3, _), (4, _), (6, _), (7, _), (8, _), (9, _), (10, _), (12, _), (13, _), (14, _)] rfl hs19
    · intro g20 J21
      refine WL.val (wantT rfl g20) rfl rfl (Run.field Try.runUnderlying27 rfl rfl rfl Try.sizeOf9 rfl) ?_
      refine WL.val (wantT rfl g20) rfl rfl (Run.loadL hs19 1 Try.isAgg9 rfl rfl rfl rfl) ?_
      refine WL.call (wantT rfl g20) rfl rfl (Run.call Try.call49 rfl rfl rfl) (c_impl_isCmd _ _) ?_
      rintro _ whs22 ⟨rfl, hs22⟩
      replace hs22 := hs19.call0 hs22
      refine ⟨_, rfl, ?_⟩
      refine WL.val rfl rfl rfl (Run.pickT rfl rfl g20 rfl) ?_
      exact WL.fin J21 hs22 rfl (andT g20) ⟨rfl, rfl, rfl, rfl, rfl, rfl, rfl, rfl, rfl, rfl, rfl, rfl, rfl, trivial⟩
    · intro g20 J21
      refine WL.skip (wantNT rfl g20) rfl rfl ?_
      refine WL.skip (wantNT rfl g20) rfl rfl ?_
      refine WL.skip (wantNT rfl g20) rfl rfl ?_
      refine WL.val rfl rfl rfl (Run.pickF rfl rfl g20 rfl) ?_
      exact WL.fin J21 hs19 rfl (andF g20) ⟨rfl, rfl, rfl, rfl, rfl, rfl, rfl, rfl, rfl, rfl, rfl, rfl, rfl, trivial⟩
    · intro whs23 hs23
      refine WL.val rfl rfl rfl (Run.move rfl rfl) ?_
      apply WL.meetAnd 4 23 27 [(0, _), (1, _), (2, _), (3, _), (4, _), (6, _), (7, _), (8, _), (9, _), (10, _), (12, _), (13, _), (14, _)] rfl hs23
      · intro g24 J25
        refine WL.val (wantT rfl g24) rfl rfl (Run.field Try.runUnderlying27 rfl rfl rfl Try.sizeOf9 rfl) ?_
        refine WL.val (wantT rfl g24) rfl rfl (Run.loadL hs23 1 Try.isAgg9 rfl rfl rfl rfl) ?_
        refine WL.call (wantT rfl g24) rfl rfl (Run.call Try.call49 rfl rfl rfl) (c_impl_isCmd _ _) ?_
        rintro _ whs26 ⟨rfl, hs26⟩
        replace hs26 := hs23.call0 hs26
        refine ⟨_, rfl, ?_⟩
        refine WL.val rfl rfl rfl (Run.pickT rfl rfl g24 rfl) ?_
        exact WL.fin J25 hs26 rfl (andT g24) ⟨rfl, rfl, rfl, rfl, rfl, rfl, rfl, rfl, rfl, rfl, rfl, rfl, rfl, trivial⟩
      · intro g24 J25
        refine WL.skip (wantNT rfl g24) rfl rfl ?_
        refine WL.skip (wantNT rfl g24) rfl rfl ?_
        refine WL.skip (wantNT rfl g24) rfl rfl ?_
        refine WL.val rfl rfl rfl (Run.pickF rfl rfl g24 rfl) ?_
        exact WL.fin J25 hs23 rfl (andF g24) ⟨rfl, rfl, rfl, rfl, rfl, rfl, rfl, rfl, rfl, rfl, rfl, rfl, rfl, trivial⟩
      · intro whs27 hs27
        refine WL.val rfl rfl rfl (Run.assign rfl rfl) ?_
        refine WL.nil ?_
        refine ibN ?_
        refine tkN ?_
        refine hK9 _ _ ?_
        clear hK9
        refine WC.seq (fun K28 hK28 => ?_)
        refine WC.region ?_
        refine WL.val rfl rfl rfl (Run.field Try.runUnderlying27 rfl rfl rfl Try.sizeOf3 rfl) ?_
        refine WL.val rfl rfl rfl (Run.loadL hs27 0 Try.isAgg3 rfl rfl rfl rfl) ?_
        refine WL.val rfl rfl rfl (Run.eql rfl rfl rfl) ?_
        refine WL.val rfl rfl rfl (Run.move rfl rfl) ?_
        apply WL.meetAnd 4 144 148 [(0, _), (1, _), (2, _), (3, _), (4, _), (6, _), (7, _), (8, _), (9, _), (10, _), (12, _), (13, _), (14, _), (27, _)] rfl hs27
        · intro g29 J30
          refine WL.val (wantT rfl g29) rfl rfl (Run.field Try.runUnderlying27 rfl rfl rfl Try.sizeOf3 rfl) ?_
          refine WL.val (wantT rfl g29) rfl rfl (Run.loadL hs27 0 Try.isAgg3 rfl rfl rfl rfl) ?_
          refine WL.val (wantT rfl g29) rfl rfl (Run.eql rfl rfl rfl) ?_
          refine WL.val rfl rfl rfl (Run.pickT rfl rfl g29 rfl) ?_
          exact WL.fin J30 hs27 rfl (andT g29) ⟨rfl, rfl, rfl, rfl, rfl, rfl, rfl, rfl, rfl, rfl, rfl, rfl, rfl, rfl, trivial⟩
        · intro g29 J30
          refine WL.skip (wantNT rfl g29) rfl rfl ?_
          refine WL.skip (wantNT rfl g29) rfl rfl ?_
          refine WL.skip (wantNT rfl g29) rfl rfl ?_
          refine WL.val rfl rfl rfl (Run.pickF rfl rfl g29 rfl) ?_
          exact WL.fin J30 hs27 rfl (andF g29) ⟨rfl, rfl, rfl, rfl, rfl, rfl, rfl, rfl, rfl, rfl, rfl, rfl, rfl, rfl, trivial⟩
        · intro whs31 hs31
          refine WL.val rfl rfl rfl (Run.move rfl rfl) ?_
          apply WL.meetAnd 4 149 153 [(0, _), (1, _), (2, _), (3, _), (4, _), (6, _), (7, _), (8, _), (9, _), (10, _), (12, _), (13, _), (14, _), (27, _)] rfl hs31
          · intro g32 J33
            refine WL.val (wantT rfl g32) rfl rfl (Run.field Try.runUnderlying27 rfl rfl rfl Try.sizeOf3 rfl) ?_
            refine WL.val (wantT rfl g32) rfl rfl (Run.loadL hs31 0 Try.isAgg3 rfl rfl rfl rfl) ?_
            refine WL.val (wantT rfl g32) rfl rfl (Run.eql rfl rfl rfl) ?_
            refine WL.val rfl rfl rfl (Run.pickT rfl rfl g32 rfl) ?_
            exact WL.fin J33 hs31 rfl (andT g32) ⟨rfl, rfl, rfl, rfl, rfl, rfl, rfl, rfl, rfl, rfl, rfl, rfl, rfl, rfl, trivial⟩
          · intro g32 J33
            refine WL.skip (wantNT rfl g32) rfl rfl ?_
            refine WL.skip (wantNT rfl g32) rfl rfl ?_
            refine WL.skip (wantNT rfl g32) rfl rfl ?_
            refine WL.val rfl rfl rfl (Run.pickF rfl rfl g32 rfl) ?_
            exact WL.fin J33 hs31 rfl (andF g32) ⟨rfl, rfl, rfl, rfl, rfl, rfl, rfl, rfl, rfl, rfl, rfl, rfl, rfl, rfl, trivial⟩
          · intro whs34 hs34
            refine WL.val rfl rfl rfl (Run.move rfl rfl) ?_
            apply WL.meetAnd 4 154 158 [(0, _), (1, _), (2, _), (3, _), (4, _), (6, _), (7, _), (8, _), (9, _), (10, _), (12, _), (13, _), (14, _), (27, _)] rfl hs34
            · intro g35 J36
              refine WL.val (wantT rfl g35) rfl rfl (Run.field Try.runUnderlying27 rfl rfl rfl Try.sizeOf9 rfl) ?_
              refine WL.val (wantT rfl g35) rfl rfl (Run.loadL hs34 0 Try.isAgg9 rfl rfl rfl rfl) ?_
              refine WL.val (wantT rfl g35) rfl rfl (Run.eqlS rfl rfl rfl) ?_
              refine WL.val rfl rfl rfl (Run.pickT rfl rfl g35 rfl) ?_
              exact WL.fin J36 hs34 rfl (andT g35) ⟨rfl, rfl, rfl, rfl, rfl, rfl, rfl, rfl, rfl, rfl, rfl, rfl, rfl, rfl, trivial⟩
            · intro g35 J36
              refine WL.skip (wantNT rfl g35) rfl rfl ?_
              refine WL.skip (wantNT rfl g35) rfl rfl ?_
              refine WL.skip (wantNT rfl g35) rfl rfl ?_
              refine WL.val rfl rfl rfl (Run.pickF rfl rfl g35 rfl) ?_
              exact WL.fin J36 hs34 rfl (andF g35) ⟨rfl, rfl, rfl, rfl, rfl, rfl, rfl, rfl, rfl, rfl, rfl, rfl, rfl, rfl, trivial⟩
            · intro whs37 hs37
              refine WL.val rfl rfl rfl (Run.move rfl rfl) ?_
              apply WL.meetAnd 4 159 163 [(0, _), (1, _), (2, _), (3, _), (4, _), (6, _), (7, _), (8, _), (9, _), (10, _), (12, _), (13, _), (14, _), (27, _)] rfl hs37
              · intro g38 J39
                refine WL.val (wantT rfl g38) rfl rfl (Run.field Try.runUnderlying27 rfl rfl rfl Try.sizeOf9 rfl) ?_
                refine WL.val (wantT rfl g38) rfl rfl (Run.loadL hs37 0 Try.isAgg9 rfl rfl rfl rfl) ?_
                refine WL.val (wantT rfl g38) rfl rfl (Run.eqlS rfl rfl rfl) ?_
                refine WL.val rfl rfl rfl (Run.pickT rfl rfl g38 rfl) ?_
                exact WL.fin J39 hs37 rfl (andT g38) ⟨rfl, rfl, rfl, rfl, rfl, rfl, rfl, rfl, rfl, rfl, rfl, rfl, rfl, rfl, trivial⟩
              · intro g38 J39
                refine WL.skip (wantNT rfl g38) rfl rfl ?_
                refine WL.skip (wantNT rfl g38) rfl rfl ?_
                refine WL.skip (wantNT rfl g38) rfl rfl ?_
                refine WL.val rfl rfl rfl (Run.pickF rfl rfl g38 rfl) ?_
                exact WL.fin J39 hs37 rfl (andF g38) ⟨rfl, rfl, rfl, rfl, rfl, rfl, rfl, rfl, rfl, rfl, rfl, rfl, rfl, rfl, trivial⟩
              · intro whs40 hs40
                refine WL.val rfl rfl rfl (Run.move rfl rfl) ?_
                apply WL.meetAnd 4 164 168 [(0, _), (1, _), (2, _), (3, _), (4, _), (6, _), (7, _), (8, _), (9, _), (10, _), (12, _), (13, _), (14, _), (27, _)] rfl hs40
                · intro g41 J42
                  refine WL.val (wantT rfl g41) rfl rfl (Run.field Try.runUnderlying27 rfl rfl rfl Try.sizeOf9 rfl) ?_
                  refine WL.val (wantT rfl g41) rfl rfl (Run.loadL hs40 0 Try.isAgg9 rfl rfl rfl rfl) ?_
                  refine WL.val (wantT rfl g41) rfl rfl (Run.eqlS rfl rfl rfl) ?_
                  refine WL.val rfl rfl rfl (Run.pickT rfl rfl g41 rfl) ?_
                  exact WL.fin J42 hs40 rfl (andT g41) ⟨rfl, rfl, rfl, rfl, rfl, rfl, rfl, rfl, rfl, rfl, rfl, rfl, rfl, rfl, trivial⟩
                · intro g41 J42
                  refine WL.skip (wantNT rfl g41) rfl rfl ?_
                  refine WL.skip (wantNT rfl g41) rfl rfl ?_
                  refine WL.skip (wantNT rfl g41) rfl rfl ?_
                  refine WL.val rfl rfl rfl (Run.pickF rfl rfl g41 rfl) ?_
                  exact WL.fin J42 hs40 rfl (andF g41) ⟨rfl, rfl, rfl, rfl, rfl, rfl, rfl, rfl, rfl, rfl, rfl, rfl, rfl, rfl, trivial⟩
                · intro whs43 hs43
                  refine WL.val rfl rfl rfl (Run.move rfl rfl) ?_
                  apply WL.meetAnd 5 169 174 [(0, _), (1, _), (2, _), (3, _), (4, _), (6, _), (7, _), (8, _), (9, _), (10, _), (12, _), (13, _), (14, _), (27, _)] rfl hs43
                  · intro g44 J45
                    refine WL.val (wantT rfl g44) rfl rfl (Run.field Try.runUnderlying27 rfl rfl rfl Try.sizeOf22 rfl) ?_
                    refine WL.val (wantT rfl g44) rfl rfl (Run.loadL hs43 0 Try.isAgg22 rfl rfl rfl rfl) ?_
                    refine WL.val (wantT rfl g44) rfl rfl (Run.lenSl Try.runUnderlying22 rfl rfl) ?_
                    refine WL.val (wantT rfl g44) rfl rfl (Run.eql rfl rfl rfl) ?_
                    refine WL.val rfl rfl rfl (Run.pickT rfl rfl g44 rfl) ?_
                    exact WL.fin J45 hs43 rfl (andT g44) ⟨rfl, rfl, rfl, rfl, rfl, rfl, rfl, rfl, rfl, rfl, rfl, rfl, rfl, rfl, trivial⟩
                  · intro g44 J45
                    refine WL.skip (wantNT rfl g44) rfl rfl ?_
                    refine WL.skip (wantNT rfl g44) rfl rfl ?_
                    refine WL.skip (wantNT rfl g44) rfl rfl ?_
                    refine WL.skip (wantNT rfl g44) rfl rfl ?_
                    refine WL.val rfl rfl rfl (Run.pickF rfl rfl g44 rfl) ?_
                    exact WL.fin J45 hs43 rfl (andF g44) ⟨rfl, rfl, rfl, rfl, rfl, rfl, rfl, rfl, rfl, rfl, rfl, rfl, rfl, rfl, trivial⟩
                  · intro whs46 hs46
                    refine WL.val rfl rfl rfl (Run.assign rfl rfl) ?_
                    refine WL.nil ?_
                    refine tkN ?_
                    refine hK28 _ _ ?_
                    clear hK28
                    refine WC.seq (fun K47 hK47 => ?_)
                    refine WC.region ?_
                    refine WL.val rfl rfl rfl (Run.move rfl rfl) ?_
                    refine WL.val rfl rfl rfl (Run.move rfl rfl) ?_
                    apply WL.meetAnd 2 176 178 [(0, _), (1, _), (2, _), (3, _), (4, _), (5, _), (6, _), (7, _), (8, _), (9, _), (10, _), (12, _), (13, _), (14, _), (27, _), (174, _)] rfl hs46
                    · intro g48 J49
                      refine WL.val (wantT rfl g48) rfl rfl (Run.move rfl rfl) ?_
                      refine WL.val rfl rfl rfl (Run.pickT rfl rfl g48 rfl) ?_
                      exact WL.fin J49 hs46 rfl (andT g48) ⟨rfl, rfl, rfl, rfl, rfl, rfl, rfl, rfl, rfl, rfl, rfl, rfl, rfl, rfl, rfl, rfl, trivial⟩
                    · intro g48 J49
                      refine WL.skip (wantNT rfl g48) rfl rfl ?_
                      refine WL.val rfl rfl rfl (Run.pickF rfl rfl g48 rfl) ?_
                      exact WL.fin J49 hs46 rfl (andF g48) ⟨rfl, rfl, rfl, rfl, rfl, rfl, rfl, rfl, rfl, rfl, rfl, rfl, rfl, rfl, rfl, rfl, trivial⟩
                    · intro whs50 hs50
                      refine WL.val rfl rfl rfl (Run.assign rfl rfl) ?_
                      refine WL.nil ?_
                      refine tkN ?_
                      refine hK47 _ _ ?_
                      clear hK47
                      refine WC.ret ?_
                      refine retV1 rfl (resV.tmp rfl) ?_
                      refine ⟨congrArg Ending.returned ?_, hs50.nil⟩
                      simp_all [opOk, noText]
  · have qh13 := h13
    try simp only [decide_eq_true_eq, decide_eq_false_iff_not, Bool.not_eq_true', Bool.not_eq_false', Bool.and_eq_true, Bool.or_eq_false_iff, within_iff, within_not] at qh13
    refine WC.region ?_
    refine WL.val rfl rfl rfl (Run.eql rfl rfl rfl) ?_
    refine WL.val rfl rfl rfl (Run.assign rfl rfl) ?_
    refine WL.nil ?_
    refine tkN ?_
    refine hK11 _ _ ?_
    clear hK11
    refine WC.cond rfl (fun h51 => ?_) (fun h51 => ?_)
    · have qh51 := h51
      try simp only [decide_eq_true_eq, decide_eq_false_iff_not, Bool.not_eq_true', Bool.not_eq_false', Bool.and_eq_true, Bool.or_eq_false_iff, within_iff, within_not] at qh51
      refine WC.seq (fun K52 hK52 => ?_)
      refine WC.region ?_
      refine WL.val rfl rfl rfl (Run.field Try.runUnderlying27 rfl rfl rfl Try.sizeOf9 rfl) ?_
      refine WL.store hs8 0 Try.sizeOf9 rfl rfl rfl rfl rfl rfl rfl rfl rfl rfl (fun whs53 hs53 => ?_)
      refine WL.val rfl rfl rfl (Run.field Try.runUnderlying27 rfl rfl rfl Try.sizeOf9 rfl) ?_
      refine WL.store hs53 0 Try.sizeOf9 rfl rfl rfl rfl rfl rfl rfl rfl rfl rfl (fun whs54 hs54 => ?_)
      refine WL.val rfl rfl rfl (Run.field Try.runUnderlying27 rfl rfl rfl Try.sizeOf9 rfl) ?_
      refine WL.store hs54 0 Try.sizeOf9 rfl rfl rfl rfl rfl rfl rfl rfl rfl rfl (fun whs55 hs55 => ?_)
      refine WL.nil ?_
      refine tkN ?_
      refine hK52 _ _ ?_
      clear hK52
      refine WC.region ?_
      refine WL.val rfl rfl rfl (Run.field Try.runUnderlying27 rfl rfl rfl Try.sizeOf9 rfl) ?_
      refine WL.val rfl rfl rfl (Run.loadL hs55 1 Try.isAgg9 rfl rfl rfl rfl) ?_
      refine WL.call rfl rfl rfl (Run.call Try.call48 rfl rfl rfl) (c_impl_WordOk _ _ ?_) ?_
      · first | assumption | rfl | omega
      rintro _ whs56 ⟨rfl, hs56⟩
      replace hs56 := hs55.call0 hs56
      refine ⟨_, rfl, ?_⟩
      refine WL.val rfl rfl rfl (Run.move rfl rfl) ?_
      apply WL.meetAnd 4 18 22 [(0, _), (1, _), (2, _), (3, _), (4, _), (6, _), (7, _), (8, _), (9, _), (10, _), (11, _), (12, _), (13, _), (14, _)] rfl hs56
      · intro g57 J58
        refine WL.val (wantT rfl g57) rfl rfl (Run.field Try.runUnderlying27 rfl rfl rfl Try.sizeOf9 rfl) ?_
        refine WL.val (wantT rfl g57) rfl rfl (Run.loadL hs56 1 Try.isAgg9 rfl rfl rfl rfl) ?_
        refine WL.call (wantT rfl g57) rfl rfl (Run.call Try.call49 rfl rfl rfl) (c_impl_isCmd _ _) ?_
        rintro _ whs59 ⟨rfl, hs59⟩
        replace hs59 := hs56.call0 hs59
        refine ⟨_, rfl, ?_⟩
        refine WL.val rfl rfl rfl (Run.pickT rfl rfl g57 rfl) ?_
        exact WL.fin J58 hs59 rfl (andT g57) ⟨rfl, rfl, rfl, rfl, rfl, rfl, rfl, rfl, rfl, rfl, rfl, rfl, rfl, rfl, trivial⟩
      · intro g57 J58
        refine WL.skip (wantNT rfl g57) rfl rfl ?_
        refine WL.skip (wantNT rfl g57) rfl rfl ?_
        refine WL.skip (wantNT rfl g57) rfl rfl ?_
        refine WL.val rfl rfl rfl (Run.pickF rfl rfl g57 rfl) ?_
        exact WL.fin J58 hs56 rfl (andF g57) ⟨rfl, rfl, rfl, rfl, rfl, rfl, rfl, rfl, rfl, rfl, rfl, rfl, rfl, rfl, trivial⟩
      · intro whs60 hs60
        refine WL.val rfl rfl rfl (Run.move rfl rfl) ?_
        apply WL.meetAnd 4 23 27 [(0, _), (1, _), (2, _), (3, _), (4, _), (6, _), (7, _), (8, _), (9, _), (10, _), (11, _), (12, _), (13, _), (14, _)] rfl hs60
        · intro g61 J62
          refine WL.val (wantT rfl g61) rfl rfl (Run.field Try.runUnderlying27 rfl rfl rfl Try.sizeOf9 rfl) ?_
          refine WL.val (wantT rfl g61) rfl rfl (Run.loadL hs60 1 Try.isAgg9 rfl rfl rfl rfl) ?_
          refine WL.call (wantT rfl g61) rfl rfl (Run.call Try.call49 rfl rfl rfl) (c_impl_isCmd _ _) ?_
          rintro _ whs63 ⟨rfl, hs63⟩
          replace hs63 := hs60.call0 hs63
          refine ⟨_, rfl, ?_⟩
          refine WL.val rfl rfl rfl (Run.pickT rfl rfl g61 rfl) ?_
          exact WL.fin J62 hs63 rfl (andT g61) ⟨rfl, rfl, rfl, rfl, rfl, rfl, rfl, rfl, rfl, rfl, rfl, rfl, rfl, rfl, trivial⟩
        · intro g61 J62
          refine WL.skip (wantNT rfl g61) rfl rfl ?_
          refine WL.skip (wantNT rfl g61) rfl rfl ?_
          refine WL.skip (wantNT rfl g61) rfl rfl ?_
          refine WL.val rfl rfl rfl (Run.pickF rfl rfl g61 rfl) ?_
          exact WL.fin J62 hs60 rfl (andF g61) ⟨rfl, rfl, rfl, rfl, rfl, rfl, rfl, rfl, rfl, rfl, rfl, rfl, rfl, rfl, trivial⟩
        · intro whs64 hs64
          refine WL.val rfl rfl rfl (Run.assign rfl rfl) ?_
          refine WL.nil ?_
          refine ibN ?_
          refine tkN ?_
          refine hK9 _ _ ?_
          clear hK9
          refine WC.seq (fun K65 hK65 => ?_)
          refine WC.region ?_
          refine WL.val rfl rfl rfl (Run.field Try.runUnderlying27 rfl rfl rfl Try.sizeOf3 rfl) ?_
          refine WL.val rfl rfl rfl (Run.loadL hs64 0 Try.isAgg3 rfl rfl rfl rfl) ?_
          refine WL.val rfl rfl rfl (Run.eql rfl rfl rfl) ?_
          refine WL.val rfl rfl rfl (Run.move rfl rfl) ?_
          apply WL.meetAnd 4 144 148 [(0, _), (1, _), (2, _), (3, _), (4, _), (6, _), (7, _), (8, _), (9, _), (10, _), (11, _), (12, _), (13, _), (14, _), (27, _)] rfl hs64
          · intro g66 J67
            refine WL.val (wantT rfl g66) rfl rfl (Run.field Try.runUnderlying27 rfl rfl rfl Try.sizeOf3 rfl) ?_
            refine WL.val (wantT rfl g66) rfl rfl (Run.loadL hs64 0 Try.isAgg3 rfl rfl rfl rfl) ?_
            refine WL.val (wantT rfl g66) rfl rfl (Run.eql rfl rfl rfl) ?_
            refine WL.val rfl rfl rfl (Run.pickT rfl rfl g66 rfl) ?_
            exact WL.fin J67 hs64 rfl (andT g66) ⟨rfl, rfl, rfl, rfl, rfl, rfl, rfl, rfl, rfl, rfl, rfl, rfl, rfl, rfl, rfl, trivial⟩
          · intro g66 J67
            refine WL.skip (wantNT rfl g66) rfl rfl ?_
            refine WL.skip (wantNT rfl g66) rfl rfl ?_
            refine WL.skip (wantNT rfl g66) rfl rfl ?_
            refine WL.val rfl rfl rfl (Run.pickF rfl rfl g66 rfl) ?_
            exact WL.fin J67 hs64 rfl (andF g66) ⟨rfl, rfl, rfl, rfl, rfl, rfl, rfl, rfl, rfl, rfl, rfl, rfl, rfl, rfl, rfl, trivial⟩
          · intro whs68 hs68
            refine WL.val rfl rfl rfl (Run.move rfl rfl) ?_
            apply WL.meetAnd 4 149 153 [(0, _), (1, _), (2, _), (3, _), (4, _), (6, _), (7, _), (8, _), (9, _), (10, _), (11, _), (12, _), (13, _), (14, _), (27, _)] rfl hs68
            · intro g69 J70
              refine WL.val (wantT rfl g69) rfl rfl (Run.field Try.runUnderlying27 rfl rfl rfl Try.sizeOf3 rfl) ?_
              refine WL.val (wantT rfl g69) rfl rfl (Run.loadL hs68 0 Try.isAgg3 rfl rfl rfl rfl) ?_
              refine WL.val (wantT rfl g69) rfl rfl (Run.eql rfl rfl rfl) ?_
              refine WL.val rfl rfl rfl (Run.pickT rfl rfl g69 rfl) ?_
              exact WL.fin J70 hs68 rfl (andT g69) ⟨rfl, rfl, rfl, rfl, rfl, rfl, rfl, rfl, rfl, rfl, rfl, rfl, rfl, rfl, rfl, trivial⟩
            · intro g69 J70
              refine WL.skip (wantNT rfl g69) rfl rfl ?_
              refine WL.skip (wantNT rfl g69) rfl rfl ?_
              refine WL.skip (wantNT rfl g69) rfl rfl ?_
              refine WL.val rfl rfl rfl (Run.pickF rfl rfl g69 rfl) ?_
              exact WL.fin J70 hs68 rfl (andF g69) ⟨rfl, rfl, rfl, rfl, rfl, rfl, rfl, rfl, rfl, rfl, rfl, rfl, rfl, rfl, rfl, trivial⟩
            · intro whs71 hs71
              refine WL.val rfl rfl rfl (Run.move rfl rfl) ?_
              apply WL.meetAnd 4 154 158 [(0, _), (1, _), (2, _), (3, _), (4, _), (6, _), (7, _), (8, _), (9, _), (10, _), (11, _), (12, _), (13, _), (14, _), (27, _)] rfl hs71
              · intro g72 J73
                refine WL.val (wantT rfl g72) rfl rfl (Run.field Try.runUnderlying27 rfl rfl rfl Try.sizeOf9 rfl) ?_
                refine WL.val (wantT rfl g72) rfl rfl (Run.loadL hs71 0 Try.isAgg9 rfl rfl rfl rfl) ?_
                refine WL.val (wantT rfl g72) rfl rfl (Run.eqlS rfl rfl rfl) ?_
                refine WL.val rfl rfl rfl (Run.pickT rfl rfl g72 rfl) ?_
                exact WL.fin J73 hs71 rfl (andT g72) ⟨rfl, rfl, rfl, rfl, rfl, rfl, rfl, rfl, rfl, rfl, rfl, rfl, rfl, rfl, rfl, trivial⟩
              · intro g72 J73
                refine WL.skip (wantNT rfl g72) rfl rfl ?_
                refine WL.skip (wantNT rfl g72) rfl rfl ?_
                refine WL.skip (wantNT rfl g72) rfl rfl ?_
                refine WL.val rfl rfl rfl (Run.pickF rfl rfl g72 rfl) ?_
                exact WL.fin J73 hs71 rfl (andF g72) ⟨rfl, rfl, rfl, rfl, rfl, rfl, rfl, rfl, rfl, rfl, rfl, rfl, rfl, rfl, rfl, trivial⟩
              · intro whs74 hs74
                refine WL.val rfl rfl rfl (Run.move rfl rfl) ?_
                apply WL.meetAnd 4 159 163 [(0, _), (1, _), (2, _), (3, _), (4, _), (6, _), (7, _), (8, _), (9, _), (10, _), (11, _), (12, _), (13, _), (14, _), (27, _)] rfl hs74
                · intro g75 J76
                  refine WL.val (wantT rfl g75) rfl rfl (Run.field Try.runUnderlying27 rfl rfl rfl Try.sizeOf9 rfl) ?_
                  refine WL.val (wantT rfl g75) rfl rfl (Run.loadL hs74 0 Try.isAgg9 rfl rfl rfl rfl) ?_
                  refine WL.val (wantT rfl g75) rfl rfl (Run.eqlS rfl rfl rfl) ?_
                  refine WL.val rfl rfl rfl (Run.pickT rfl rfl g75 rfl) ?_
                  exact WL.fin J76 hs74 rfl (andT g75) ⟨rfl, rfl, rfl, rfl, rfl, rfl, rfl, rfl, rfl, rfl, rfl, rfl, rfl, rfl, rfl, trivial⟩
                · intro g75 J76
                  refine WL.skip (wantNT rfl g75) rfl rfl ?_
                  refine WL.skip (wantNT rfl g75) rfl rfl ?_
                  refine WL.skip (wantNT rfl g75) rfl rfl ?_
                  refine WL.val rfl rfl rfl (Run.pickF rfl rfl g75 rfl) ?_
                  exact WL.fin J76 hs74 rfl (andF g75) ⟨rfl, rfl, rfl, rfl, rfl, rfl, rfl, rfl, rfl, rfl, rfl, rfl, rfl, rfl, rfl, trivial⟩
                · intro whs77 hs77
                  refine WL.val rfl rfl rfl (Run.move rfl rfl) ?_
                  apply WL.meetAnd 4 164 168 [(0, _), (1, _), (2, _), (3, _), (4, _), (6, _), (7, _), (8, _), (9, _), (10, _), (11, _), (12, _), (13, _), (14, _), (27, _)] rfl hs77
                  · intro g78 J79
                    refine WL.val (wantT rfl g78) rfl rfl (Run.field Try.runUnderlying27 rfl rfl rfl Try.sizeOf9 rfl) ?_
                    refine WL.val (wantT rfl g78) rfl rfl (Run.loadL hs77 0 Try.isAgg9 rfl rfl rfl rfl) ?_
                    refine WL.val (wantT rfl g78) rfl rfl (Run.eqlS rfl rfl rfl) ?_
                    refine WL.val rfl rfl rfl (Run.pickT rfl rfl g78 rfl) ?_
                    exact WL.fin J79 hs77 rfl (andT g78) ⟨rfl, rfl, rfl, rfl, rfl, rfl, rfl, rfl, rfl, rfl, rfl, rfl, rfl, rfl, rfl, trivial⟩
                  · intro g78 J79
                    refine WL.skip (wantNT rfl g78) rfl rfl ?_
                    refine WL.skip (wantNT rfl g78) rfl rfl ?_
                    refine WL.skip (wantNT rfl g78) rfl rfl ?_
                    refine WL.val rfl rfl rfl (Run.pickF rfl rfl g78 rfl) ?_
                    exact WL.fin J79 hs77 rfl (andF g78) ⟨rfl, rfl, rfl, rfl, rfl, rfl, rfl, rfl, rfl, rfl, rfl, rfl, rfl, rfl, rfl, trivial⟩
                  · intro whs80 hs80
                    refine WL.val rfl rfl rfl (Run.move rfl rfl) ?_
                    apply WL.meetAnd 5 169 174 [(0, _), (1, _), (2, _), (3, _), (4, _), (6, _), (7, _), (8, _), (9, _), (10, _), (11, _), (12, _), (13, _), (14, _), (27, _)] rfl hs80
                    · intro g81 J82
                      refine WL.val (wantT rfl g81) rfl rfl (Run.field Try.runUnderlying27 rfl rfl rfl Try.sizeOf22 rfl) ?_
                      refine WL.val (wantT rfl g81) rfl rfl (Run.loadL hs80 0 Try.isAgg22 rfl rfl rfl rfl) ?_
                      refine WL.val (wantT rfl g81) rfl rfl (Run.lenSl Try.runUnderlying22 rfl rfl) ?_
                      refine WL.val (wantT rfl g81) rfl rfl (Run.eql rfl rfl rfl) ?_
                      refine WL.val rfl rfl rfl (Run.pickT rfl rfl g81 rfl) ?_
                      exact WL.fin J82 hs80 rfl (andT g81) ⟨rfl, rfl, rfl, rfl, rfl, rfl, rfl, rfl, rfl, rfl, rfl, rfl, rfl, rfl, rfl, trivial⟩
                    · intro g81 J82
                      refine WL.skip (wantNT rfl g81) rfl rfl ?_
                      refine WL.skip (wantNT rfl g81) rfl rfl ?_
                      refine WL.skip (wantNT rfl g81) rfl rfl ?_
                      refine WL.skip (wantNT rfl g81) rfl rfl ?_
                      refine WL.val rfl rfl rfl (Run.pickF rfl rfl g81 rfl) ?_
                      exact WL.fin J82 hs80 rfl (andF g81) ⟨rfl, rfl, rfl, rfl, rfl, rfl, rfl, rfl, rfl, rfl, rfl, rfl, rfl, rfl, rfl, trivial⟩
                    · intro whs83 hs83
                      refine WL.val rfl rfl rfl (Run.assign rfl rfl) ?_
                      refine WL.nil ?_
                      refine tkN ?_
                      refine hK65 _ _ ?_
                      clear hK65
                      refine WC.seq (fun K84 hK84 => ?_)
                      refine WC.region ?_
                      refine WL.val rfl rfl rfl (Run.move rfl rfl) ?_
                      refine WL.val rfl rfl rfl (Run.move rfl rfl) ?_
                      apply WL.meetAnd 2 176 178 [(0, _), (1, _), (2, _), (3, _), (4, _), (5, _), (6, _), (7, _), (8, _), (9, _), (10, _), (11, _), (12, _), (13, _), (14, _), (27, _), (174, _)] rfl hs83
                      · intro g85 J86
                        refine WL.val (wantT rfl g85) rfl rfl (Run.move rfl rfl) ?_
                        refine WL.val rfl rfl rfl (Run.pickT rfl rfl g85 rfl) ?_
                        exact WL.fin J86 hs83 rfl (andT g85) ⟨rfl, rfl, rfl, rfl, rfl, rfl, rfl, rfl, rfl, rfl, rfl, rfl, rfl, rfl, rfl, rfl, rfl, trivial⟩
                      · intro g85 J86
                        refine WL.skip (wantNT rfl g85) rfl rfl ?_
                        refine WL.val rfl rfl rfl (Run.pickF rfl rfl g85 rfl) ?_
                        exact WL.fin J86 hs83 rfl (andF g85) ⟨rfl, rfl, rfl, rfl, rfl, rfl, rfl, rfl, rfl, rfl, rfl, rfl, rfl, rfl, rfl, rfl, rfl, trivial⟩
                      · intro whs87 hs87
                        refine WL.val rfl rfl rfl (Run.assign rfl rfl) ?_
                        refine WL.nil ?_
                        refine tkN ?_
                        refine hK84 _ _ ?_
                        clear hK84
                        refine WC.ret ?_
                        refine retV1 rfl (resV.tmp rfl) ?_
                        refine ⟨congrArg Ending.returned ?_, hs87.nil⟩
                        simp_all [opOk, noText]
    · have qh51 := h51
      try simp only [decide_eq_true_eq, decide_eq_false_iff_not, Bool.not_eq_true', Bool.not_eq_false', Bool.and_eq_true, Bool.or_eq_false_iff, within_iff, within_not] at qh51
      refine WC.seq (fun K88 hK88 => ?_)
      refine WC.region ?_
      refine WL.val rfl rfl rfl (Run.eql rfl rfl rfl) ?_
      refine WL.val rfl rfl rfl (Run.assign rfl rfl) ?_
      refine WL.nil ?_
      refine tkN ?_
      refine hK88 _ _ ?_
      clear hK88
      refine WC.cond rfl (fun h89 => ?_) (fun h89 => ?_)
      · have qh89 := h89
        try simp only [decide_eq_true_eq, decide_eq_false_iff_not, Bool.not_eq_true', Bool.not_eq_false', Bool.and_eq_true, Bool.or_eq_false_iff, within_iff, within_not] at qh89
        refine WC.seq (fun K90 hK90 => ?_)
        refine WC.region ?_
        refine WL.val rfl rfl rfl (Run.field Try.runUnderlying27 rfl rfl rfl Try.sizeOf3 rfl) ?_
        refine WL.store hs8 0 Try.sizeOf3 rfl rfl rfl rfl rfl rfl rfl rfl rfl rfl (fun whs91 hs91 => ?_)
        refine WL.val rfl rfl rfl (Run.field Try.runUnderlying27 rfl rfl rfl Try.sizeOf3 rfl) ?_
        refine WL.store hs91 0 Try.sizeOf3 rfl rfl rfl rfl rfl rfl rfl rfl rfl rfl (fun whs92 hs92 => ?_)
        refine WL.val rfl rfl rfl (Run.field Try.runUnderlying27 rfl rfl rfl Try.sizeOf9 rfl) ?_
        refine WL.store hs92 0 Try.sizeOf9 rfl rfl rfl rfl rfl rfl rfl rfl rfl rfl (fun whs93 hs93 => ?_)
        refine WL.val rfl rfl rfl (Run.field Try.runUnderlying27 rfl rfl rfl Try.sizeOf9 rfl) ?_
        refine WL.store hs93 0 Try.sizeOf9 rfl rfl rfl rfl rfl rfl rfl rfl rfl rfl (fun whs94 hs94 => ?_)
        refine WL.nil ?_
        refine tkN ?_
        refine hK90 _ _ ?_
        clear hK90
        refine WC.region ?_
        refine WL.val rfl rfl rfl (Run.field Try.runUnderlying27 rfl rfl rfl Try.sizeOf3 rfl) ?_
        refine WL.val rfl rfl rfl (Run.loadL hs94 1 Try.isAgg3 rfl rfl rfl rfl) ?_
        refine WL.call rfl rfl rfl (Run.call Try.call50 rfl rfl rfl) (c_impl_isId _ _) ?_
        rintro _ whs95 ⟨rfl, hs95⟩
        replace hs95 := hs94.call0 hs95
        refine ⟨_, rfl, ?_⟩
        refine WL.val rfl rfl rfl (Run.move rfl rfl) ?_
        apply WL.meetAnd 4 37 41 [(0, _), (1, _), (2, _), (3, _), (4, _), (6, _), (7, _), (8, _), (9, _), (10, _), (11, _), (28, _), (29, _), (30, _), (31, _), (32, _), (33, _)] rfl hs95
        · intro g96 J97
          refine WL.val (wantT rfl g96) rfl rfl (Run.field Try.runUnderlying27 rfl rfl rfl Try.sizeOf3 rfl) ?_
          refine WL.val (wantT rfl g96) rfl rfl (Run.loadL hs95 1 Try.isAgg3 rfl rfl rfl rfl) ?_
          refine WL.call (wantT rfl g96) rfl rfl (Run.call Try.call51 rfl rfl rfl) (c_impl_within _ _ _ _) ?_
          rintro _ whs98 ⟨rfl, hs98⟩
          replace hs98 := hs95.call0 hs98
          refine ⟨_, rfl, ?_⟩
          refine WL.val rfl rfl rfl (Run.pickT rfl rfl g96 rfl) ?_
          exact WL.fin J97 hs98 rfl (andT g96) ⟨rfl, rfl, rfl, rfl, rfl, rfl, rfl, rfl, rfl, rfl, rfl, rfl, rfl, rfl, rfl, rfl, rfl, trivial⟩
        · intro g96 J97
          refine WL.skip (wantNT rfl g96) rfl rfl ?_
          refine WL.skip (wantNT rfl g96) rfl rfl ?_
          refine WL.skip (wantNT rfl g96) rfl rfl ?_
          refine WL.val rfl rfl rfl (Run.pickF rfl rfl g96 rfl) ?_
          exact WL.fin J97 hs95 rfl (andF g96) ⟨rfl, rfl, rfl, rfl, rfl, rfl, rfl, rfl, rfl, rfl, rfl, rfl, rfl, rfl, rfl, rfl, rfl, trivial⟩
        · intro whs99 hs99
          refine WL.val rfl rfl rfl (Run.move rfl rfl) ?_
          apply WL.meetAnd 4 42 46 [(0, _), (1, _), (2, _), (3, _), (4, _), (6, _), (7, _), (8, _), (9, _), (10, _), (11, _), (28, _), (29, _), (30, _), (31, _), (32, _), (33, _)] rfl hs99
          · intro g100 J101
            refine WL.val (wantT rfl g100) rfl rfl (Run.field Try.runUnderlying27 rfl rfl rfl Try.sizeOf9 rfl) ?_
            refine WL.val (wantT rfl g100) rfl rfl (Run.loadL hs99 1 Try.isAgg9 rfl rfl rfl rfl) ?_
            refine WL.call (wantT rfl g100) rfl rfl (Run.call Try.call49 rfl rfl rfl) (c_impl_isCmd _ _) ?_
            rintro _ whs102 ⟨rfl, hs102⟩
            replace hs102 := hs99.call0 hs102
            refine ⟨_, rfl, ?_⟩
            refine WL.val rfl rfl rfl (Run.pickT rfl rfl g100 rfl) ?_
            exact WL.fin J101 hs102 rfl (andT g100) ⟨rfl, rfl, rfl, rfl, rfl, rfl, rfl, rfl, rfl, rfl, rfl, rfl, rfl, rfl, rfl, rfl, rfl, trivial⟩
          · intro g100 J101
            refine WL.skip (wantNT rfl g100) rfl rfl ?_
            refine WL.skip (wantNT rfl g100) rfl rfl ?_
            refine WL.skip (wantNT rfl g100) rfl rfl ?_
            refine WL.val rfl rfl rfl (Run.pickF rfl rfl g100 rfl) ?_
            exact WL.fin J101 hs99 rfl (andF g100) ⟨rfl, rfl, rfl, rfl, rfl, rfl, rfl, rfl, rfl, rfl, rfl, rfl, rfl, rfl, rfl, rfl, rfl, trivial⟩
          · intro whs103 hs103
            refine WL.val rfl rfl rfl (Run.move rfl rfl) ?_
            apply WL.meetAnd 4 47 51 [(0, _), (1, _), (2, _), (3, _), (4, _), (6, _), (7, _), (8, _), (9, _), (10, _), (11, _), (28, _), (29, _), (30, _), (31, _), (32, _), (33, _)] rfl hs103
            · intro g104 J105
              refine WL.val (wantT rfl g104) rfl rfl (Run.field Try.runUnderlying27 rfl rfl rfl Try.sizeOf9 rfl) ?_
              refine WL.val (wantT rfl g104) rfl rfl (Run.loadL hs103 1 Try.isAgg9 rfl rfl rfl rfl) ?_
              refine WL.call (wantT rfl g104) rfl rfl (Run.call Try.call49 rfl rfl rfl) (c_impl_isCmd _ _) ?_
              rintro _ whs106 ⟨rfl, hs106⟩
              replace hs106 := hs103.call0 hs106
              refine ⟨_, rfl, ?_⟩
              refine WL.val rfl rfl rfl (Run.pickT rfl rfl g104 rfl) ?_
              exact WL.fin J105 hs106 rfl (andT g104) ⟨rfl, rfl, rfl, rfl, rfl, rfl, rfl, rfl, rfl, rfl, rfl, rfl, rfl, rfl, rfl, rfl, rfl, trivial⟩
            · intro g104 J105
              refine WL.skip (wantNT rfl g104) rfl rfl ?_
              refine WL.skip (wantNT rfl g104) rfl rfl ?_
              refine WL.skip (wantNT rfl g104) rfl rfl ?_
              refine WL.val rfl rfl rfl (Run.pickF rfl rfl g104 rfl) ?_
              exact WL.fin J105 hs103 rfl (andF g104) ⟨rfl, rfl, rfl, rfl, rfl, rfl, rfl, rfl, rfl, rfl, rfl, rfl, rfl, rfl, rfl, rfl, rfl, trivial⟩
            · intro whs107 hs107
              refine WL.val rfl rfl rfl (Run.assign rfl rfl) ?_
              refine WL.nil ?_
              refine ibN ?_
              refine tkN ?_
              refine hK9 _ _ ?_
              clear hK9
              refine WC.seq (fun K108 hK108 => ?_)
              refine WC.region ?_
              refine WL.val rfl rfl rfl (Run.field Try.runUnderlying27 rfl rfl rfl Try.sizeOf3 rfl) ?_
              refine WL.val rfl rfl rfl (Run.loadL hs107 0 Try.isAgg3 rfl rfl rfl rfl) ?_
              refine WL.val rfl rfl rfl (Run.eql rfl rfl rfl) ?_
              refine WL.val rfl rfl rfl (Run.move rfl rfl) ?_
              apply WL.meetAnd 4 144 148 [(0, _), (1, _), (2, _), (3, _), (4, _), (6, _), (7, _), (8, _), (9, _), (10, _), (11, _), (28, _), (29, _), (30, _), (31, _), (32, _), (33, _), (51, _)] rfl hs107
              · intro g109 J110
                refine WL.val (wantT rfl g109) rfl rfl (Run.field Try.runUnderlying27 rfl rfl rfl Try.sizeOf3 rfl) ?_
                refine WL.val (wantT rfl g109) rfl rfl (Run.loadL hs107 0 Try.isAgg3 rfl rfl rfl rfl) ?_
                refine WL.val (wantT rfl g109) rfl rfl (Run.eql rfl rfl rfl) ?_
                refine WL.val rfl rfl rfl (Run.pickT rfl rfl g109 rfl) ?_
                exact WL.fin J110 hs107 rfl (andT g109) ⟨rfl, rfl, rfl, rfl, rfl, rfl, rfl, rfl, rfl, rfl, rfl, rfl, rfl, rfl, rfl, rfl, rfl, rfl, trivial⟩
              · intro g109 J110
                refine WL.skip (wantNT rfl g109) rfl rfl ?_
                refine WL.skip (wantNT rfl g109) rfl rfl ?_
                refine WL.skip (wantNT rfl g109) rfl rfl ?_
                refine WL.val rfl rfl rfl (Run.pickF rfl rfl g109 rfl) ?_
                exact WL.fin J110 hs107 rfl (andF g109) ⟨rfl, rfl, rfl, rfl, rfl, rfl, rfl, rfl, rfl, rfl, rfl, rfl, rfl, rfl, rfl, rfl, rfl, rfl, trivial⟩
              · intro whs111 hs111
                refine WL.val rfl rfl rfl (Run.move rfl rfl) ?_
                apply WL.meetAnd 4 149 153 [(0, _), (1, _), (2, _), (3, _), (4, _), (6, _), (7, _), (8, _), (9, _), (10, _), (11, _), (28, _), (29, _), (30, _), (31, _), (32, _), (33, _), (51, _)] rfl hs111
                · intro g112 J113
                  refine WL.val (wantT rfl g112) rfl rfl (Run.field Try.runUnderlying27 rfl rfl rfl Try.sizeOf3 rfl) ?_
                  refine WL.val (wantT rfl g112) rfl rfl (Run.loadL hs111 0 Try.isAgg3 rfl rfl rfl rfl) ?_
                  refine WL.val (wantT rfl g112) rfl rfl (Run.eql rfl rfl rfl) ?_
                  refine WL.val rfl rfl rfl (Run.pickT rfl rfl g112 rfl) ?_
                  exact WL.fin J113 hs111 rfl (andT g112) ⟨rfl, rfl, rfl, rfl, rfl, rfl, rfl, rfl, rfl, rfl, rfl, rfl, rfl, rfl, rfl, rfl, rfl, rfl, trivial⟩
                · intro g112 J113
                  refine WL.skip (wantNT rfl g112) rfl rfl ?_
                  refine WL.skip (wantNT rfl g112) rfl rfl ?_
                  refine WL.skip (wantNT rfl g112) rfl rfl ?_
                  refine WL.val rfl rfl rfl (Run.pickF rfl rfl g112 rfl) ?_
                  exact WL.fin J113 hs111 rfl (andF g112) ⟨rfl, rfl, rfl, rfl, rfl, rfl, rfl, rfl, rfl, rfl, rfl, rfl, rfl, rfl, rfl, rfl, rfl, rfl, trivial⟩
                · intro whs114 hs114
                  refine WL.val rfl rfl rfl (Run.move rfl rfl) ?_
                  apply WL.meetAnd 4 154 158 [(0, _), (1, _), (2, _), (3, _), (4, _), (6, _), (7, _), (8, _), (9, _), (10, _), (11, _), (28, _), (29, _), (30, _), (31, _), (32, _), (33, _), (51, _)] rfl hs114
                  · intro g115 J116
                    refine WL.val (wantT rfl g115) rfl rfl (Run.field Try.runUnderlying27 rfl rfl rfl Try.sizeOf9 rfl) ?_
                    refine WL.val (wantT rfl g115) rfl rfl (Run.loadL hs114 0 Try.isAgg9 rfl rfl rfl rfl) ?_
                    refine WL.val (wantT rfl g115) rfl rfl (Run.eqlS rfl rfl rfl) ?_
                    refine WL.val rfl rfl rfl (Run.pickT rfl rfl g115 rfl) ?_
                    exact WL.fin J116 hs114 rfl (andT g115) ⟨rfl, rfl, rfl, rfl, rfl, rfl, rfl, rfl, rfl, rfl, rfl, rfl, rfl, rfl, rfl, rfl, rfl, rfl, trivial⟩
                  · intro g115 J116
                    refine WL.skip (wantNT rfl g115) rfl rfl ?_
                    refine WL.skip (wantNT rfl g115) rfl rfl ?_
                    refine WL.skip (wantNT rfl g115) rfl rfl ?_
                    refine WL.val rfl rfl rfl (Run.pickF rfl rfl g115 rfl) ?_
                    exact WL.fin J116 hs114 rfl (andF g115) ⟨rfl, rfl, rfl, rfl, rfl, rfl, rfl, rfl, rfl, rfl, rfl, rfl, rfl, rfl, rfl, rfl, rfl, rfl, trivial⟩
                  · intro whs117 hs117
                    refine WL.val rfl rfl rfl (Run.move rfl rfl) ?_
                    apply WL.meetAnd 4 159 163 [(0, _), (1, _), (2, _), (3, _), (4, _), (6, _), (7, _), (8, _), (9, _), (10, _), (11, _), (28, _), (29, _), (30, _), (31, _), (32, _), (33, _), (51, _)] rfl hs117
                    · intro g118 J119
                      refine WL.val (wantT rfl g118) rfl rfl (Run.field Try.runUnderlying27 rfl rfl rfl Try.sizeOf9 rfl) ?_
                      refine WL.val (wantT rfl g118) rfl rfl (Run.loadL hs117 0 Try.isAgg9 rfl rfl rfl rfl) ?_
                      refine WL.val (wantT rfl g118) rfl rfl (Run.eqlS rfl rfl rfl) ?_
                      refine WL.val rfl rfl rfl (Run.pickT rfl rfl g118 rfl) ?_
                      exact WL.fin J119 hs117 rfl (andT g118) ⟨rfl, rfl, rfl, rfl, rfl, rfl, rfl, rfl, rfl, rfl, rfl, rfl, rfl, rfl, rfl, rfl, rfl, rfl, trivial⟩
                    · intro g118 J119
                      refine WL.skip (wantNT rfl g118) rfl rfl ?_
                      refine WL.skip (wantNT rfl g118) rfl rfl ?_
                      refine WL.skip (wantNT rfl g118) rfl rfl ?_
                      refine WL.val rfl rfl rfl (Run.pickF rfl rfl g118 rfl) ?_
                      exact WL.fin J119 hs117 rfl (andF g118) ⟨rfl, rfl, rfl, rfl, rfl, rfl, rfl, rfl, rfl, rfl, rfl, rfl, rfl, rfl, rfl, rfl, rfl, rfl, trivial⟩
                    · intro whs120 hs120
                      refine WL.val rfl rfl rfl (Run.move rfl rfl) ?_
                      apply WL.meetAnd 4 164 168 [(0, _), (1, _), (2, _), (3, _), (4, _), (6, _), (7, _), (8, _), (9, _), (10, _), (11, _), (28, _), (29, _), (30, _), (31, _), (32, _), (33, _), (51, _)] rfl hs120
                      · intro g121 J122
                        refine WL.val (wantT rfl g121) rfl rfl (Run.field Try.runUnderlying27 rfl rfl rfl Try.sizeOf9 rfl) ?_
                        refine WL.val (wantT rfl g121) rfl rfl (Run.loadL hs120 0 Try.isAgg9 rfl rfl rfl rfl) ?_
                        refine WL.val (wantT rfl g121) rfl rfl (Run.eqlS rfl rfl rfl) ?_
                        refine WL.val rfl rfl rfl (Run.pickT rfl rfl g121 rfl) ?_
                        exact WL.fin J122 hs120 rfl (andT g121) ⟨rfl, rfl, rfl, rfl, rfl, rfl, rfl, rfl, rfl, rfl, rfl, rfl, rfl, rfl, rfl, rfl, rfl, rfl, trivial⟩
                      · intro g121 J122
                        refine WL.skip (wantNT rfl g121) rfl rfl ?_
                        refine WL.skip (wantNT rfl g121) rfl rfl ?_
                        refine WL.skip (wantNT rfl g121) rfl rfl ?_
                        refine WL.val rfl rfl rfl (Run.pickF rfl rfl g121 rfl) ?_
                        exact WL.fin J122 hs120 rfl (andF g121) ⟨rfl, rfl, rfl, rfl, rfl, rfl, rfl, rfl, rfl, rfl, rfl, rfl, rfl, rfl, rfl, rfl, rfl, rfl, trivial⟩
                      · intro whs123 hs123
                        refine WL.val rfl rfl rfl (Run.move rfl rfl) ?_
                        apply WL.meetAnd 5 169 174 [(0, _), (1, _), (2, _), (3, _), (4, _), (6, _), (7, _), (8, _), (9, _), (10, _), (11, _), (28, _), (29, _), (30, _), (31, _), (32, _), (33, _), (51, _)] rfl hs123
                        · intro g124 J125
                          refine WL.val (wantT rfl g124) rfl rfl (Run.field Try.runUnderlying27 rfl rfl rfl Try.sizeOf22 rfl) ?_
                          refine WL.val (wantT rfl g124) rfl rfl (Run.loadL hs123 0 Try.isAgg22 rfl rfl rfl rfl) ?_
                          refine WL.val (wantT rfl g124) rfl rfl (Run.lenSl Try.runUnderlying22 rfl rfl) ?_
                          refine WL.val (wantT rfl g124) rfl rfl (Run.eql rfl rfl rfl) ?_
                          refine WL.val rfl rfl rfl (Run.pickT rfl rfl g124 rfl) ?_
                          exact WL.fin J125 hs123 rfl (andT g124) ⟨rfl, rfl, rfl, rfl, rfl, rfl, rfl, rfl, rfl, rfl, rfl, rfl, rfl, rfl, rfl, rfl, rfl, rfl, trivial⟩
                        · intro g124 J125
                          refine WL.skip (wantNT rfl g124) rfl rfl ?_
                          refine WL.skip (wantNT rfl g124) rfl rfl ?_
                          refine WL.skip (wantNT rfl g124) rfl rfl ?_
                          refine WL.skip (wantNT rfl g124) rfl rfl ?_
                          refine WL.val rfl rfl rfl (Run.pickF rfl rfl g124 rfl) ?_
                          exact WL.fin J125 hs123 rfl (andF g124) ⟨rfl, rfl, rfl, rfl, rfl, rfl, rfl, rfl, rfl, rfl, rfl, rfl, rfl, rfl, rfl, rfl, rfl, rfl, trivial⟩
                        · intro whs126 hs126
                          refine WL.val rfl rfl rfl (Run.assign rfl rfl) ?_
                          refine WL.nil ?_
                          refine tkN ?_
                          refine hK108 _ _ ?_
                          clear hK108
                          refine WC.seq (fun K127 hK127 => ?_)
                          refine WC.region ?_
                          refine WL.val rfl rfl rfl (Run.move rfl rfl) ?_
                          refine WL.val rfl rfl rfl (Run.move rfl rfl) ?_
                          apply WL.meetAnd 2 176 178 [(0, _), (1, _), (2, _), (3, _), (4, _), (5, _), (6, _), (7, _), (8, _), (9, _), (10, _), (11, _), (28, _), (29, _), (30, _), (31, _), (32, _), (33, _), (51, _), (174, _)] rfl hs126
                          · intro g128 J129
                            refine WL.val (wantT rfl g128) rfl rfl (Run.move rfl rfl) ?_
                            refine WL.val rfl rfl rfl (Run.pickT rfl rfl g128 rfl) ?_
                            exact WL.fin J129 hs126 rfl (andT g128) ⟨rfl, rfl, rfl, rfl, rfl, rfl, rfl, rfl, rfl, rfl, rfl, rfl, rfl, rfl, rfl, rfl, rfl, rfl, rfl, rfl, trivial⟩
                          · intro g128 J129
                            refine WL.skip (wantNT rfl g128) rfl rfl ?_
                            refine WL.val rfl rfl rfl (Run.pickF rfl rfl g128 rfl) ?_
                            exact WL.fin J129 hs126 rfl (andF g128) ⟨rfl, rfl, rfl, rfl, rfl, rfl, rfl, rfl, rfl, rfl, rfl, rfl, rfl, rfl, rfl, rfl, rfl, rfl, rfl, rfl, trivial⟩
                          · intro whs130 hs130
                            refine WL.val rfl rfl rfl (Run.assign rfl rfl) ?_
                            refine WL.nil ?_
                            refine tkN ?_
                            refine hK127 _ _ ?_
                            clear hK127
                            refine WC.ret ?_
                            refine retV1 rfl (resV.tmp rfl) ?_
                            refine ⟨congrArg Ending.returned ?_, hs130.nil⟩
                            simp_all [opOk, noText]
      · have qh89 := h89
        try simp only [decide_eq_true_eq, decide_eq_false_iff_not, Bool.not_eq_true', Bool.not_eq_false', Bool.and_eq_true, Bool.or_eq_false_iff, within_iff, within_not] at qh89
        refine WC.seq (fun K131 hK131 => ?_)
        refine WC.seq (fun K132 hK132 => ?_)
        refine WC.region ?_
        refine WL.val rfl rfl rfl (Run.eql rfl rfl rfl) ?_
        refine WL.val rfl rfl rfl (Run.assign rfl rfl) ?_
        refine WL.nil ?_
        refine tkN ?_
        refine hK132 _ _ ?_
        clear hK132
        refine WC.cond rfl (fun h133 => ?_) (fun h133 => ?_)
        · have qh133 := h133
          try simp only [decide_eq_true_eq, decide_eq_false_iff_not, Bool.not_eq_true', Bool.not_eq_false', Bool.and_eq_true, Bool.or_eq_false_iff, within_iff, within_not] at qh133
          refine WC.skip ?_
          refine tkN ?_
          refine hK131 _ _ ?_
          clear hK131
          refine WC.condT rfl h133 ?_
          refine WC.seq (fun K135 hK135 => ?_)
          refine WC.region ?_
          refine WL.val rfl rfl rfl (Run.field Try.runUnderlying27 rfl rfl rfl Try.sizeOf3 rfl) ?_
          refine WL.store hs8 0 Try.sizeOf3 rfl rfl rfl rfl rfl rfl rfl rfl rfl rfl (fun whs136 hs136 => ?_)
          refine WL.nil ?_
          refine tkN ?_
          refine hK135 _ _ ?_
          clear hK135
          refine WC.region ?_
          refine WL.val rfl rfl rfl (Run.field Try.runUnderlying27 rfl rfl rfl Try.sizeOf3 rfl) ?_
          refine WL.val rfl rfl rfl (Run.loadL hs136 1 Try.isAgg3 rfl rfl rfl rfl) ?_
          refine WL.call rfl rfl rfl (Run.call Try.call50 rfl rfl rfl) (c_impl_isId _ _) ?_
          rintro _ whs137 ⟨rfl, hs137⟩
          replace hs137 := hs136.call0 hs137
          refine ⟨_, rfl, ?_⟩
          refine WL.val rfl rfl rfl (Run.assign rfl rfl) ?_
          refine WL.nil ?_
          refine ibN ?_
          refine tkN ?_
          refine hK9 _ _ ?_
          clear hK9
          refine WC.seq (fun K138 hK138 => ?_)
          refine WC.region ?_
          refine WL.val rfl rfl rfl (Run.field Try.runUnderlying27 rfl rfl rfl Try.sizeOf3 rfl) ?_
          refine WL.val rfl rfl rfl (Run.loadL hs137 0 Try.isAgg3 rfl rfl rfl rfl) ?_
          refine WL.val rfl rfl rfl (Run.eql rfl rfl rfl) ?_
          refine WL.val rfl rfl rfl (Run.move rfl rfl) ?_
          apply WL.meetAnd 4 144 148 [(0, _), (1, _), (2, _), (3, _), (4, _), (6, _), (7, _), (8, _), (9, _), (10, _), (11, _), (28, _), (29, _), (52, _), (53, _), (57, _), (58, _), (59, _), (60, _)] rfl hs137
          · intro g139 J140
            refine WL.val (wantT rfl g139) rfl rfl (Run.field Try.runUnderlying27 rfl rfl rfl Try.sizeOf3 rfl) ?_
            refine WL.val (wantT rfl g139) rfl rfl (Run.loadL hs137 0 Try.isAgg3 rfl rfl rfl rfl) ?_
            refine WL.val (wantT rfl g139) rfl rfl (Run.eql rfl rfl rfl) ?_
            refine WL.val rfl rfl rfl (Run.pickT rfl rfl g139 rfl) ?_
            exact WL.fin J140 hs137 rfl (andT g139) ⟨rfl, rfl, rfl, rfl, rfl, rfl, rfl, rfl, rfl, rfl, rfl, rfl, rfl, rfl, rfl, rfl, rfl, rfl, rfl, trivial⟩
          · intro g139 J140
            refine WL.skip (wantNT rfl g139) rfl rfl ?_
            refine WL.skip (wantNT rfl g139) rfl rfl ?_
            refine WL.skip (wantNT rfl g139) rfl rfl ?_
            refine WL.val rfl rfl rfl (Run.pickF rfl rfl g139 rfl) ?_
            exact WL.fin J140 hs137 rfl (andF g139) ⟨rfl, rfl, rfl, rfl, rfl, rfl, rfl, rfl, rfl, rfl, rfl, rfl, rfl, rfl, rfl, rfl, rfl, rfl, rfl, trivial⟩
          · intro whs141 hs141
            refine WL.val rfl rfl rfl (Run.move rfl rfl) ?_
            apply WL.meetAnd 4 149 153 [(0, _), (1, _), (2, _), (3, _), (4, _), (6, _), (7, _), (8, _), (9, _), (10, _), (11, _), (28, _), (29, _), (52, _), (53, _), (57, _), (58, _), (59, _), (60, _)] rfl hs141
            · intro g142 J143
              refine WL.val (wantT rfl g142) rfl rfl (Run.field Try.runUnderlying27 rfl rfl rfl Try.sizeOf3 rfl) ?_
              refine WL.val (wantT rfl g142) rfl rfl (Run.loadL hs141 0 Try.isAgg3 rfl rfl rfl rfl) ?_
              refine WL.val (wantT rfl g142) rfl rfl (Run.eql rfl rfl rfl) ?_
              refine WL.val rfl rfl rfl (Run.pickT rfl rfl g142 rfl) ?_
              exact WL.fin J143 hs141 rfl (andT g142) ⟨rfl, rfl, rfl, rfl, rfl, rfl, rfl, rfl, rfl, rfl, rfl, rfl, rfl, rfl, rfl, rfl, rfl, rfl, rfl, trivial⟩
            · intro g142 J143
              refine WL.skip (wantNT rfl g142) rfl rfl ?_
              refine WL.skip (wantNT rfl g142) rfl rfl ?_
              refine WL.skip (wantNT rfl g142) rfl rfl ?_
              refine WL.val rfl rfl rfl (Run.pickF rfl rfl g142 rfl) ?_
              exact WL.fin J143 hs141 rfl (andF g142) ⟨rfl, rfl, rfl, rfl, rfl, rfl, rfl, rfl, rfl, rfl, rfl, rfl, rfl, rfl, rfl, rfl, rfl, rfl, rfl, trivial⟩
            · intro whs144 hs144
              refine WL.val rfl rfl rfl (Run.move rfl rfl) ?_
              apply WL.meetAnd 4 154 158 [(0, _), (1, _), (2, _), (3, _), (4, _), (6, _), (7, _), (8, _), (9, _), (10, _), (11, _), (28, _), (29, _), (52, _), (53, _), (57, _), (58, _), (59, _), (60, _)] rfl hs144
              · intro g145 J146
                refine WL.val (wantT rfl g145) rfl rfl (Run.field Try.runUnderlying27 rfl rfl rfl Try.sizeOf9 rfl) ?_
                refine WL.val (wantT rfl g145) rfl rfl (Run.loadL hs144 0 Try.isAgg9 rfl rfl rfl rfl) ?_
                refine WL.val (wantT rfl g145) rfl rfl (Run.eqlS rfl rfl rfl) ?_
                refine WL.val rfl rfl rfl (Run.pickT rfl rfl g145 rfl) ?_
                exact WL.fin J146 hs144 rfl (andT g145) ⟨rfl, rfl, rfl, rfl, rfl, rfl, rfl, rfl, rfl, rfl, rfl, rfl, rfl, rfl, rfl, rfl, rfl, rfl, rfl, trivial⟩
              · intro g145 J146
                refine WL.skip (wantNT rfl g145) rfl rfl ?_
                refine WL.skip (wantNT rfl g145) rfl rfl ?_
                refine WL.skip (wantNT rfl g145) rfl rfl ?_
                refine WL.val rfl rfl rfl (Run.pickF rfl rfl g145 rfl) ?_
                exact WL.fin J146 hs144 rfl (andF g145) ⟨rfl, rfl, rfl, rfl, rfl, rfl, rfl, rfl, rfl, rfl, rfl, rfl, rfl, rfl, rfl, rfl, rfl, rfl, rfl, trivial⟩
              · intro whs147 hs147
                refine WL.val rfl rfl rfl (Run.move rfl rfl) ?_
                apply WL.meetAnd 4 159 163 [(0, _), (1, _), (2, _), (3, _), (4, _), (6, _), (7, _), (8, _), (9, _), (10, _), (11, _), (28, _), (29, _), (52, _), (53, _), (57, _), (58, _), (59, _), (60, _)] rfl hs147
                · intro g148 J149
                  refine WL.val (wantT rfl g148) rfl rfl (Run.field Try.runUnderlying27 rfl rfl rfl Try.sizeOf9 rfl) ?_
                  refine WL.val (wantT rfl g148) rfl rfl (Run.loadL hs147 0 Try.isAgg9 rfl rfl rfl rfl) ?_
                  refine WL.val (wantT rfl g148) rfl rfl (Run.eqlS rfl rfl rfl) ?_
                  refine WL.val rfl rfl rfl (Run.pickT rfl rfl g148 rfl) ?_
                  exact WL.fin J149 hs147 rfl (andT g148) ⟨rfl, rfl, rfl, rfl, rfl, rfl, rfl, rfl, rfl, rfl, rfl, rfl, rfl, rfl, rfl, rfl, rfl, rfl, rfl, trivial⟩
                · intro g148 J149
                  refine WL.skip (wantNT rfl g148) rfl rfl ?_
                  refine WL.skip (wantNT rfl g148) rfl rfl ?_
                  refine WL.skip (wantNT rfl g148) rfl rfl ?_
                  refine WL.val rfl rfl rfl (Run.pickF rfl rfl g148 rfl) ?_
                  exact WL.fin J149 hs147 rfl (andF g148) ⟨rfl, rfl, rfl, rfl, rfl, rfl, rfl, rfl, rfl, rfl, rfl, rfl, rfl, rfl, rfl, rfl, rfl, rfl, rfl, trivial⟩
                · intro whs150 hs150
                  refine WL.val rfl rfl rfl (Run.move rfl rfl) ?_
                  apply WL.meetAnd 4 164 168 [(0, _), (1, _), (2, _), (3, _), (4, _), (6, _), (7, _), (8, _), (9, _), (10, _), (11, _), (28, _), (29, _), (52, _), (53, _), (57, _), (58, _), (59, _), (60, _)] rfl hs150
                  · intro g151 J152
                    refine WL.val (wantT rfl g151) rfl rfl (Run.field Try.runUnderlying27 rfl rfl rfl Try.sizeOf9 rfl) ?_
                    refine WL.val (wantT rfl g151) rfl rfl (Run.loadL hs150 0 Try.isAgg9 rfl rfl rfl rfl) ?_
                    refine WL.val (wantT rfl g151) rfl rfl (Run.eqlS rfl rfl rfl) ?_
                    refine WL.val rfl rfl rfl (Run.pickT rfl rfl g151 rfl) ?_
                    exact WL.fin J152 hs150 rfl (andT g151) ⟨rfl, rfl, rfl, rfl, rfl, rfl, rfl, rfl, rfl, rfl, rfl, rfl, rfl, rfl, rfl, rfl, rfl, rfl, rfl, trivial⟩
                  · intro g151 J152
                    refine WL.skip (wantNT rfl g151) rfl rfl ?_
                    refine WL.skip (wantNT rfl g151) rfl rfl ?_
                    refine WL.skip (wantNT rfl g151) rfl rfl ?_
                    refine WL.val rfl rfl rfl (Run.pickF rfl rfl g151 rfl) ?_
                    exact WL.fin J152 hs150 rfl (andF g151) ⟨rfl, rfl, rfl, rfl, rfl, rfl, rfl, rfl, rfl, rfl, rfl, rfl, rfl, rfl, rfl, rfl, rfl, rfl, rfl, trivial⟩
                  · intro whs153 hs153
                    refine WL.val rfl rfl rfl (Run.move rfl rfl) ?_
                    apply WL.meetAnd 5 169 174 [(0, _), (1, _), (2, _), (3, _), (4, _), (6, _), (7, _), (8, _), (9, _), (10, _), (11, _), (28, _), (29, _), (52, _), (53, _), (57, _), (58, _), (59, _), (60, _)] rfl hs153
                    · intro g154 J155
                      refine WL.val (wantT rfl g154) rfl rfl (Run.field Try.runUnderlying27 rfl rfl rfl Try.sizeOf22 rfl) ?_
                      refine WL.val (wantT rfl g154) rfl rfl (Run.loadL hs153 0 Try.isAgg22 rfl rfl rfl rfl) ?_
                      refine WL.val (wantT rfl g154) rfl rfl (Run.lenSl Try.runUnderlying22 rfl rfl) ?_
                      refine WL.val (wantT rfl g154) rfl rfl (Run.eql rfl rfl rfl) ?_
                      refine WL.val rfl rfl rfl (Run.pickT rfl rfl g154 rfl) ?_
                      exact WL.fin J155 hs153 rfl (andT g154) ⟨rfl, rfl, rfl, rfl, rfl, rfl, rfl, rfl, rfl, rfl, rfl, rfl, rfl, rfl, rfl, rfl, rfl, rfl, rfl, trivial⟩
                    · intro g154 J155
                      refine WL.skip (wantNT rfl g154) rfl rfl ?_
                      refine WL.skip (wantNT rfl g154) rfl rfl ?_
                      refine WL.skip (wantNT rfl g154) rfl rfl ?_
                      refine WL.skip (wantNT rfl g154) rfl rfl ?_
                      refine WL.val rfl rfl rfl (Run.pickF rfl rfl g154 rfl) ?_
                      exact WL.fin J155 hs153 rfl (andF g154) ⟨rfl, rfl, rfl, rfl, rfl, rfl, rfl, rfl, rfl, rfl, rfl, rfl, rfl, rfl, rfl, rfl, rfl, rfl, rfl, trivial⟩
                    · intro whs156 hs156
                      refine WL.val rfl rfl rfl (Run.assign rfl rfl) ?_
                      refine WL.nil ?_
                      refine tkN ?_
                      refine hK138 _ _ ?_
                      clear hK138
                      refine WC.seq (fun K157 hK157 => ?_)
                      refine WC.region ?_
                      refine WL.val rfl rfl rfl (Run.move rfl rfl) ?_
                      refine WL.val rfl rfl rfl (Run.move rfl rfl) ?_
                      apply WL.meetAnd 2 176 178 [(0, _), (1, _), (2, _), (3, _), (4, _), (5, _), (6, _), (7, _), (8, _), (9, _), (10, _), (11, _), (28, _), (29, _), (52, _), (53, _), (57, _), (58, _), (59, _), (60, _), (174, _)] rfl hs156
                      · intro g158 J159
                        refine WL.val (wantT rfl g158) rfl rfl (Run.move rfl rfl) ?_
                        refine WL.val rfl rfl rfl (Run.pickT rfl rfl g158 rfl) ?_
                        exact WL.fin J159 hs156 rfl (andT g158) ⟨rfl, rfl, rfl, rfl, rfl, rfl, rfl, rfl, rfl, rfl, rfl, rfl, rfl, rfl, rfl, rfl, rfl, rfl, rfl, rfl, rfl, trivial⟩
                      · intro g158 J159
                        refine WL.skip (wantNT rfl g158) rfl rfl ?_
                        refine WL.val rfl rfl rfl (Run.pickF rfl rfl g158 rfl) ?_
                        exact WL.fin J159 hs156 rfl (andF g158) ⟨rfl, rfl, rfl, rfl, rfl, rfl, rfl, rfl, rfl, rfl, rfl, rfl, rfl, rfl, rfl, rfl, rfl, rfl, rfl, rfl, rfl, trivial⟩
                      · intro whs160 hs160
                        refine WL.val rfl rfl rfl (Run.assign rfl rfl) ?_
                        refine WL.nil ?_
                        refine tkN ?_
                        refine hK157 _ _ ?_
                        clear hK157
                        refine WC.ret ?_
                        refine retV1 rfl (resV.tmp rfl) ?_
                        refine ⟨congrArg Ending.returned ?_, hs160.nil⟩
                        simp_all [opOk, noText]
        · have qh133 := h133
          try simp only [decide_eq_true_eq, decide_eq_false_iff_not, Bool.not_eq_true', Bool.not_eq_false', Bool.and_eq_true, Bool.or_eq_false_iff, within_iff, within_not] at qh133
          refine WC.seq (fun K161 hK161 => ?_)
          refine WC.region ?_
          refine WL.val rfl rfl rfl (Run.eql rfl rfl rfl) ?_
          refine WL.val rfl rfl rfl (Run.assign rfl rfl) ?_
          refine WL.nil ?_
          refine tkN ?_
          refine hK161 _ _ ?_
          clear hK161
          refine WC.cond rfl (fun h162 => ?_) (fun h162 => ?_)
          · have qh162 := h162
            try simp only [decide_eq_true_eq, decide_eq_false_iff_not, Bool.not_eq_true', Bool.not_eq_false', Bool.and_eq_true, Bool.or_eq_false_iff, within_iff, within_not] at qh162
            refine WC.skip ?_
            refine tkN ?_
            refine hK131 _ _ ?_
            clear hK131
            refine WC.condT rfl h162 ?_
            refine WC.seq (fun K164 hK164 => ?_)
            refine WC.region ?_
            refine WL.val rfl rfl rfl (Run.field Try.runUnderlying27 rfl rfl rfl Try.sizeOf3 rfl) ?_
            refine WL.store hs8 0 Try.sizeOf3 rfl rfl rfl rfl rfl rfl rfl rfl rfl rfl (fun whs165 hs165 => ?_)
            refine WL.nil ?_
            refine tkN ?_
            refine hK164 _ _ ?_
            clear hK164
            refine WC.region ?_
            refine WL.val rfl rfl rfl (Run.field Try.runUnderlying27 rfl rfl rfl Try.sizeOf3 rfl) ?_
            refine WL.val rfl rfl rfl (Run.loadL hs165 1 Try.isAgg3 rfl rfl rfl rfl) ?_
            refine WL.call rfl rfl rfl (Run.call Try.call50 rfl rfl rfl) (c_impl_isId _ _) ?_
            rintro _ whs166 ⟨rfl, hs166⟩
            replace hs166 := hs165.call0 hs166
            refine ⟨_, rfl, ?_⟩
            refine WL.val rfl rfl rfl (Run.assign rfl rfl) ?_
            refine WL.nil ?_
            refine ibN ?_
            refine tkN ?_
            refine hK9 _ _ ?_
            clear hK9
            refine WC.seq (fun K167 hK167 => ?_)
            refine WC.region ?_
            refine WL.val rfl rfl rfl (Run.field Try.runUnderlying27 rfl rfl rfl Try.sizeOf3 rfl) ?_
            refine WL.val rfl rfl rfl (Run.loadL hs166 0 Try.isAgg3 rfl rfl rfl rfl) ?_
            refine WL.val rfl rfl rfl (Run.eql rfl rfl rfl) ?_
            refine WL.val rfl rfl rfl (Run.move rfl rfl) ?_
            apply WL.meetAnd 4 144 148 [(0, _), (1, _), (2, _), (3, _), (4, _), (6, _), (7, _), (8, _), (9, _), (10, _), (11, _), (28, _), (29, _), (52, _), (53, _), (54, _), (57, _), (58, _), (59, _), (60, _)] rfl hs166
            · intro g168 J169
              refine WL.val (wantT rfl g168) rfl rfl (Run.field Try.runUnderlying27 rfl rfl rfl Try.sizeOf3 rfl) ?_
              refine WL.val (wantT rfl g168) rfl rfl (Run.loadL hs166 0 Try.isAgg3 rfl rfl rfl rfl) ?_
              refine WL.val (wantT rfl g168) rfl rfl (Run.eql rfl rfl rfl) ?_
              refine WL.val rfl rfl rfl (Run.pickT rfl rfl g168 rfl) ?_
              exact WL.fin J169 hs166 rfl (andT g168) ⟨rfl, rfl, rfl, rfl, rfl, rfl, rfl, rfl, rfl, rfl, rfl, rfl, rfl, rfl, rfl, rfl, rfl, rfl, rfl, rfl, trivial⟩
            · intro g168 J169
              refine WL.skip (wantNT rfl g168) rfl rfl ?_
              refine WL.skip (wantNT rfl g168) rfl rfl ?_
              refine WL.skip (wantNT rfl g168) rfl rfl ?_
              refine WL.val rfl rfl rfl (Run.pickF rfl rfl g168 rfl) ?_
              exact WL.fin J169 hs166 rfl (andF g168) ⟨rfl, rfl, rfl, rfl, rfl, rfl, rfl, rfl, rfl, rfl, rfl, rfl, rfl, rfl, rfl, rfl, rfl, rfl, rfl, rfl, trivial⟩
            · intro whs170 hs170
              refine WL.val rfl rfl rfl (Run.move rfl rfl) ?_
              apply WL.meetAnd 4 149 153 [(0, _), (1, _), (2, _), (3, _), (4, _), (6, _), (7, _), (8, _), (9, _), (10, _), (11, _), (28, _), (29, _), (52, _), (53, _), (54, _), (57, _), (58, _), (59, _), (60, _)] rfl hs170
              · intro g171 J172
                refine WL.val (wantT rfl g171) rfl rfl (Run.field Try.runUnderlying27 rfl rfl rfl Try.sizeOf3 rfl) ?_
                refine WL.val (wantT rfl g171) rfl rfl (Run.loadL hs170 0 Try.isAgg3 rfl rfl rfl rfl) ?_
                refine WL.val (wantT rfl g171) rfl rfl (Run.eql rfl rfl rfl) ?_
                refine WL.val rfl rfl rfl (Run.pickT rfl rfl g171 rfl) ?_
                exact WL.fin J172 hs170 rfl (andT g171) ⟨rfl, rfl, rfl, rfl, rfl, rfl, rfl, rfl, rfl, rfl, rfl, rfl, rfl, rfl, rfl, rfl, rfl, rfl, rfl, rfl, trivial⟩
              · intro g171 J172
                refine WL.skip (wantNT rfl g171) rfl rfl ?_
                refine WL.skip (wantNT rfl g171) rfl rfl ?_
                refine WL.skip (wantNT rfl g171) rfl rfl ?_
                refine WL.val rfl rfl rfl (Run.pickF rfl rfl g171 rfl) ?_
                exact WL.fin J172 hs170 rfl (andF g171) ⟨rfl, rfl, rfl, rfl, rfl, rfl, rfl, rfl, rfl, rfl, rfl, rfl, rfl, rfl, rfl, rfl, rfl, rfl, rfl, rfl, trivial⟩
              · intro whs173 hs173
                refine WL.val rfl rfl rfl (Run.move rfl rfl) ?_
                apply WL.meetAnd 4 154 158 [(0, _), (1, _), (2, _), (3, _), (4, _), (6, _), (7, _), (8, _), (9, _), (10, _), (11, _), (28, _), (29, _), (52, _), (53, _), (54, _), (57, _), (58, _), (59, _), (60, _)] rfl hs173
                · intro g174 J175
                  refine WL.val (wantT rfl g174) rfl rfl (Run.field Try.runUnderlying27 rfl rfl rfl Try.sizeOf9 rfl) ?_
                  refine WL.val (wantT rfl g174) rfl rfl (Run.loadL hs173 0 Try.isAgg9 rfl rfl rfl rfl) ?_
                  refine WL.val (wantT rfl g174) rfl rfl (Run.eqlS rfl rfl rfl) ?_
                  refine WL.val rfl rfl rfl (Run.pickT rfl rfl g174 rfl) ?_
                  exact WL.fin J175 hs173 rfl (andT g174) ⟨rfl, rfl, rfl, rfl, rfl, rfl, rfl, rfl, rfl, rfl, rfl, rfl, rfl, rfl, rfl, rfl, rfl, rfl, rfl, rfl, trivial⟩
                · intro g174 J175
                  refine WL.skip (wantNT rfl g174) rfl rfl ?_
                  refine WL.skip (wantNT rfl g174) rfl rfl ?_
                  refine WL.skip (wantNT rfl g174) rfl rfl ?_
                  refine WL.val rfl rfl rfl (Run.pickF rfl rfl g174 rfl) ?_
                  exact WL.fin J175 hs173 rfl (andF g174) ⟨rfl, rfl, rfl, rfl, rfl, rfl, rfl, rfl, rfl, rfl, rfl, rfl, rfl, rfl, rfl, rfl, rfl, rfl, rfl, rfl, trivial⟩
                · intro whs176 hs176
                  refine WL.val rfl rfl rfl (Run.move rfl rfl) ?_
                  apply WL.meetAnd 4 159 163 [(0, _), (1, _), (2, _), (3, _), (4, _), (6, _), (7, _), (8, _), (9, _), (10, _), (11, _), (28, _), (29, _), (52, _), (53, _), (54, _), (57, _), (58, _), (59, _), (60, _)] rfl hs176
                  · intro g177 J178
                    refine WL.val (wantT rfl g177) rfl rfl (Run.field Try.runUnderlying27 rfl rfl rfl Try.sizeOf9 rfl) ?_
                    refine WL.val (wantT rfl g177) rfl rfl (Run.loadL hs176 0 Try.isAgg9 rfl rfl rfl rfl) ?_
                    refine WL.val (wantT rfl g177) rfl rfl (Run.eqlS rfl rfl rfl) ?_
                    refine WL.val rfl rfl rfl (Run.pickT rfl rfl g177 rfl) ?_
                    exact WL.fin J178 hs176 rfl (andT g177) ⟨rfl, rfl, rfl, rfl, rfl, rfl, rfl, rfl, rfl, rfl, rfl, rfl, rfl, rfl, rfl, rfl, rfl, rfl, rfl, rfl, trivial⟩
                  · intro g177 J178
                    refine WL.skip (wantNT rfl g177) rfl rfl ?_
                    refine WL.skip (wantNT rfl g177) rfl rfl ?_
                    refine WL.skip (wantNT rfl g177) rfl rfl ?_
                    refine WL.val rfl rfl rfl (Run.pickF rfl rfl g177 rfl) ?_
                    exact WL.fin J178 hs176 rfl (andF g177) ⟨rfl, rfl, rfl, rfl, rfl, rfl, rfl, rfl, rfl, rfl, rfl, rfl, rfl, rfl, rfl, rfl, rfl, rfl, rfl, rfl, trivial⟩
                  · intro whs179 hs179
                    refine WL.val rfl rfl rfl (Run.move rfl rfl) ?_
                    apply WL.meetAnd 4 164 168 [(0, _), (1, _), (2, _), (3, _), (4, _), (6, _), (7, _), (8, _), (9, _), (10, _), (11, _), (28, _), (29, _), (52, _), (53, _), (54, _), (57, _), (58, _), (59, _), (60, _)] rfl hs179
                    · intro g180 J181
                      refine WL.val (wantT rfl g180) rfl rfl (Run.field Try.runUnderlying27 rfl rfl rfl Try.sizeOf9 rfl) ?_
                      refine WL.val (wantT rfl g180) rfl rfl (Run.loadL hs179 0 Try.isAgg9 rfl rfl rfl rfl) ?_
                      refine WL.val (wantT rfl g180) rfl rfl (Run.eqlS rfl rfl rfl) ?_
                      refine WL.val rfl rfl rfl (Run.pickT rfl rfl g180 rfl) ?_
                      exact WL.fin J181 hs179 rfl (andT g180) ⟨rfl, rfl, rfl, rfl, rfl, rfl, rfl, rfl, rfl, rfl, rfl, rfl, rfl, rfl, rfl, rfl, rfl, rfl, rfl, rfl, trivial⟩
                    · intro g180 J181
                      refine WL.skip (wantNT rfl g180) rfl rfl ?_
                      refine WL.skip (wantNT rfl g180) rfl rfl ?_
                      refine WL.skip (wantNT rfl g180) rfl rfl ?_
                      refine WL.val rfl rfl rfl (Run.pickF rfl rfl g180 rfl) ?_
                      exact WL.fin J181 hs179 rfl (andF g180) ⟨rfl, rfl, rfl, rfl, rfl, rfl, rfl, rfl, rfl, rfl, rfl, rfl, rfl, rfl, rfl, rfl, rfl, rfl, rfl, rfl, trivial⟩
                    · intro whs182 hs182
                      refine WL.val rfl rfl rfl (Run.move rfl rfl) ?_
                      apply WL.meetAnd 5 169 174 [(0, _), (1, _), (2, _), (3, _), (4, _), (6, _), (7, _), (8, _), (9, _), (10, _), (11, _), (28, _), (29, _), (52, _), (53, _), (54, _), (57, _), (58, _), (59, _), (60, _)] rfl hs182
                      · intro g183 J184
                        refine WL.val (wantT rfl g183) rfl rfl (Run.field Try.runUnderlying27 rfl rfl rfl Try.sizeOf22 rfl) ?_
                        refine WL.val (wantT rfl g183) rfl rfl (Run.loadL hs182 0 Try.isAgg22 rfl rfl rfl rfl) ?_
                        refine WL.val (wantT rfl g183) rfl rfl (Run.lenSl Try.runUnderlying22 rfl rfl) ?_
                        refine WL.val (wantT rfl g183) rfl rfl (Run.eql rfl rfl rfl) ?_
                        refine WL.val rfl rfl rfl (Run.pickT rfl rfl g183 rfl) ?_
                        exact WL.fin J184 hs182 rfl (andT g183) ⟨rfl, rfl, rfl, rfl, rfl, rfl, rfl, rfl, rfl, rfl, rfl, rfl, rfl, rfl, rfl, rfl, rfl, rfl, rfl, rfl, trivial⟩
                      · intro g183 J184
                        refine WL.skip (wantNT rfl g183) rfl rfl ?_
                        refine WL.skip (wantNT rfl g183) rfl rfl ?_
                        refine WL.skip (wantNT rfl g183) rfl rfl ?_
                        refine WL.skip (wantNT rfl g183) rfl rfl ?_
                        refine WL.val rfl rfl rfl (Run.pickF rfl rfl g183 rfl) ?_
                        exact WL.fin J184 hs182 rfl (andF g183) ⟨rfl, rfl, rfl, rfl, rfl, rfl, rfl, rfl, rfl, rfl, rfl, rfl, rfl, rfl, rfl, rfl, rfl, rfl, rfl, rfl, trivial⟩
                      · intro whs185 hs185
                        refine WL.val rfl rfl rfl (Run.assign rfl rfl) ?_
                        refine WL.nil ?_
                        refine tkN ?_
                        refine hK167 _ _ ?_
                        clear hK167
                        refine WC.seq (fun K186 hK186 => ?_)
                        refine WC.region ?_
                        refine WL.val rfl rfl rfl (Run.move rfl rfl) ?_
                        refine WL.val rfl rfl rfl (Run.move rfl rfl) ?_
                        apply WL.meetAnd 2 176 178 [(0, _), (1, _), (2, _), (3, _), (4, _), (5, _), (6, _), (7, _), (8, _), (9, _), (10, _), (11, _), (28, _), (29, _), (52, _), (53, _), (54, _), (57, _), (58, _), (59, _), (60, _), (174, _)] rfl hs185
                        · intro g187 J188
                          refine WL.val (wantT rfl g187) rfl rfl (Run.move rfl rfl) ?_
                          refine WL.val rfl rfl rfl (Run.pickT rfl rfl g187 rfl) ?_
                          exact WL.fin J188 hs185 rfl (andT g187) ⟨rfl, rfl, rfl, rfl, rfl, rfl, rfl, rfl, rfl, rfl, rfl, rfl, rfl, rfl, rfl, rfl, rfl, rfl, rfl, rfl, rfl, rfl, trivial⟩
                        · intro g187 J188
                          refine WL.skip (wantNT rfl g187) rfl rfl ?_
                          refine WL.val rfl rfl rfl (Run.pickF rfl rfl g187 rfl) ?_
                          exact WL.fin J188 hs185 rfl (andF g187) ⟨rfl, rfl, rfl, rfl, rfl, rfl, rfl, rfl, rfl, rfl, rfl, rfl, rfl, rfl, rfl, rfl, rfl, rfl, rfl, rfl, rfl, rfl, trivial⟩
                        · intro whs189 hs189
                          refine WL.val rfl rfl rfl (Run.assign rfl rfl) ?_
                          refine WL.nil ?_
                          refine tkN ?_
                          refine hK186 _ _ ?_
                          clear hK186
                          refine WC.ret ?_
                          refine retV1 rfl (resV.tmp rfl) ?_
                          refine ⟨congrArg Ending.returned ?_, hs189.nil⟩
                          simp_all [opOk, noText]
          · have qh162 := h162
            try simp only [decide_eq_true_eq, decide_eq_false_iff_not, Bool.not_eq_true', Bool.not_eq_false', Bool.and_eq_true, Bool.or_eq_false_iff, within_iff, within_not] at qh162
            refine WC.seq (fun K190 hK190 => ?_)
            refine WC.region ?_
            refine WL.val rfl rfl rfl (Run.eql rfl rfl rfl) ?_
            refine WL.val rfl rfl rfl (Run.assign rfl rfl) ?_
            refine WL.nil ?_
            refine tkN ?_
            refine hK190 _ _ ?_
            clear hK190
            refine WC.cond rfl (fun h191 => ?_) (fun h191 => ?_)
            · have qh191 := h191
              try simp only [decide_eq_true_eq, decide_eq_false_iff_not, Bool.not_eq_true', Bool.not_eq_false', Bool.and_eq_true, Bool.or_eq_false_iff, within_iff, within_not] at qh191
              refine WC.skip ?_
              refine tkN ?_
              refine hK131 _ _ ?_
              clear hK131
              refine WC.condT rfl h191 ?_
              refine WC.seq (fun K193 hK193 => ?_)
              refine WC.region ?_
              refine WL.val rfl rfl rfl (Run.field Try.runUnderlying27 rfl rfl rfl Try.sizeOf3 rfl) ?_
              refine WL.store hs8 0 Try.sizeOf3 rfl rfl rfl rfl rfl rfl rfl rfl rfl rfl (fun whs194 hs194 => ?_)
              refine WL.nil ?_
              refine tkN ?_
              refine hK193 _ _ ?_
              clear hK193
              refine WC.region ?_
              refine WL.val rfl rfl rfl (Run.field Try.runUnderlying27 rfl rfl rfl Try.sizeOf3 rfl) ?_
              refine WL.val rfl rfl rfl (Run.loadL hs194 1 Try.isAgg3 rfl rfl rfl rfl) ?_
              refine WL.call rfl rfl rfl (Run.call Try.call50 rfl rfl rfl) (c_impl_isId _ _) ?_
              rintro _ whs195 ⟨rfl, hs195⟩
              replace hs195 := hs194.call0 hs195
              refine ⟨_, rfl, ?_⟩
              refine WL.val rfl rfl rfl (Run.assign rfl rfl) ?_
              refine WL.nil ?_
              refine ibN ?_
              refine tkN ?_
              refine hK9 _ _ ?_
              clear hK9
              refine WC.seq (fun K196 hK196 => ?_)
              refine WC.region ?_
              refine WL.val rfl rfl rfl (Run.field Try.runUnderlying27 rfl rfl rfl Try.sizeOf3 rfl) ?_
              refine WL.val rfl rfl rfl (Run.loadL hs195 0 Try.isAgg3 rfl rfl rfl rfl) ?_
              refine WL.val rfl rfl rfl (Run.eql rfl rfl rfl) ?_
              refine WL.val rfl rfl rfl (Run.move rfl rfl) ?_
              apply WL.meetAnd 4 144 148 [(0, _), (1, _), (2, _), (3, _), (4, _), (6, _), (7, _), (8, _), (9, _), (10, _), (11, _), (28, _), (29, _), (52, _), (53, _), (54, _), (55, _), (57, _), (58, _), (59, _), (60, _)] rfl hs195
              · intro g197 J198
                refine WL.val (wantT rfl g197) rfl rfl (Run.field Try.runUnderlying27 rfl rfl rfl Try.sizeOf3 rfl) ?_
                refine WL.val (wantT rfl g197) rfl rfl (Run.loadL hs195 0 Try.isAgg3 rfl rfl rfl rfl) ?_
                refine WL.val (wantT rfl g197) rfl rfl (Run.eql rfl rfl rfl) ?_
                refine WL.val rfl rfl rfl (Run.pickT rfl rfl g197 rfl) ?_
                exact WL.fin J198 hs195 rfl (andT g197) ⟨rfl, rfl, rfl, rfl, rfl, rfl, rfl, rfl, rfl, rfl, rfl, rfl, rfl, rfl, rfl, rfl, rfl, rfl, rfl, rfl, rfl, trivial⟩
              · intro g197 J198
                refine WL.skip (wantNT rfl g197) rfl rfl ?_
                refine WL.skip (wantNT rfl g197) rfl rfl ?_
                refine WL.skip (wantNT rfl g197) rfl rfl ?_
                refine WL.val rfl rfl rfl (Run.pickF rfl rfl g197 rfl) ?_
                exact WL.fin J198 hs195 rfl (andF g197) ⟨rfl, rfl, rfl, rfl, rfl, rfl, rfl, rfl, rfl, rfl, rfl, rfl, rfl, rfl, rfl, rfl, rfl, rfl, rfl, rfl, rfl, trivial⟩
              · intro whs199 hs199
                refine WL.val rfl rfl rfl (Run.move rfl rfl) ?_
                apply WL.meetAnd 4 149 153 [(0, _), (1, _), (2, _), (3, _), (4, _), (6, _), (7, _), (8, _), (9, _), (10, _), (11, _), (28, _), (29, _), (52, _), (53, _), (54, _), (55, _), (57, _), (58, _), (59, _), (60, _)] rfl hs199
                · intro g200 J201
                  refine WL.val (wantT rfl g200) rfl rfl (Run.field Try.runUnderlying27 rfl rfl rfl Try.sizeOf3 rfl) ?_
                  refine WL.val (wantT rfl g200) rfl rfl (Run.loadL hs199 0 Try.isAgg3 rfl rfl rfl rfl) ?_
                  refine WL.val (wantT rfl g200) rfl rfl (Run.eql rfl rfl rfl) ?_
                  refine WL.val rfl rfl rfl (Run.pickT rfl rfl g200 rfl) ?_
                  exact WL.fin J201 hs199 rfl (andT g200) ⟨rfl, rfl, rfl, rfl, rfl, rfl, rfl, rfl, rfl, rfl, rfl, rfl, rfl, rfl, rfl, rfl, rfl, rfl, rfl, rfl, rfl, trivial⟩
                · intro g200 J201
                  refine WL.skip (wantNT rfl g200) rfl rfl ?_
                  refine WL.skip (wantNT rfl g200) rfl rfl ?_
                  refine WL.skip (wantNT rfl g200) rfl rfl ?_
                  refine WL.val rfl rfl rfl (Run.pickF rfl rfl g200 rfl) ?_
                  exact WL.fin J201 hs199 rfl (andF g200) ⟨rfl, rfl, rfl, rfl, rfl, rfl, rfl, rfl, rfl, rfl, rfl, rfl, rfl, rfl, rfl, rfl, rfl, rfl, rfl, rfl, rfl, trivial⟩
                · intro whs202 hs202
                  refine WL.val rfl rfl rfl (Run.move rfl rfl) ?_
                  apply WL.meetAnd 4 154 158 [(0, _), (1, _), (2, _), (3, _), (4, _), (6, _), (7, _), (8, _), (9, _), (10, _), (11, _), (28, _), (29, _), (52, _), (53, _), (54, _), (55, _), (57, _), (58, _), (59, _), (60, _)] rfl hs202
                  · intro g203 J204
                    refine WL.val (wantT rfl g203) rfl rfl (Run.field Try.runUnderlying27 rfl rfl rfl Try.sizeOf9 rfl) ?_
                    refine WL.val (wantT rfl g203) rfl rfl (Run.loadL hs202 0 Try.isAgg9 rfl rfl rfl rfl) ?_
                    refine WL.val (wantT rfl g203) rfl rfl (Run.eqlS rfl rfl rfl) ?_
                    refine WL.val rfl rfl rfl (Run.pickT rfl rfl g203 rfl) ?_
                    exact WL.fin J204 hs202 rfl (andT g203) ⟨rfl, rfl, rfl, rfl, rfl, rfl, rfl, rfl, rfl, rfl, rfl, rfl, rfl, rfl, rfl, rfl, rfl, rfl, rfl, rfl, rfl, trivial⟩
                  · intro g203 J204
                    refine WL.skip (wantNT rfl g203) rfl rfl ?_
                    refine WL.skip (wantNT rfl g203) rfl rfl ?_
                    refine WL.skip (wantNT rfl g203) rfl rfl ?_
                    refine WL.val rfl rfl rfl (Run.pickF rfl rfl g203 rfl) ?_
                    exact WL.fin J204 hs202 rfl (andF g203) ⟨rfl, rfl, rfl, rfl, rfl, rfl, rfl, rfl, rfl, rfl, rfl, rfl, rfl, rfl, rfl, rfl, rfl, rfl, rfl, rfl, rfl, trivial⟩
                  · intro whs205 hs205
                    refine WL.val rfl rfl rfl (Run.move rfl rfl) ?_
                    apply WL.meetAnd 4 159 163 [(0, _), (1, _), (2, _), (3, _), (4, _), (6, _), (7, _), (8, _), (9, _), (10, _), (11, _), (28, _), (29, _), (52, _), (53, _), (54, _), (55, _), (57, _), (58, _), (59, _), (60, _)] rfl hs205
                    · intro g206 J207
                      refine WL.val (wantT rfl g206) rfl rfl (Run.field Try.runUnderlying27 rfl rfl rfl Try.sizeOf9 rfl) ?_
                      refine WL.val (wantT rfl g206) rfl rfl (Run.loadL hs205 0 Try.isAgg9 rfl rfl rfl rfl) ?_
                      refine WL.val (wantT rfl g206) rfl rfl (Run.eqlS rfl rfl rfl) ?_
                      refine WL.val rfl rfl rfl (Run.pickT rfl rfl g206 rfl) ?_
                      exact WL.fin J207 hs205 rfl (andT g206) ⟨rfl, rfl, rfl, rfl, rfl, rfl, rfl, rfl, rfl, rfl, rfl, rfl, rfl, rfl, rfl, rfl, rfl, rfl, rfl, rfl, rfl, trivial⟩
                    · intro g206 J207
                      refine WL.skip (wantNT rfl g206) rfl rfl ?_
                      refine WL.skip (wantNT rfl g206) rfl rfl ?_
                      refine WL.skip (wantNT rfl g206) rfl rfl ?_
                      refine WL.val rfl rfl rfl (Run.pickF rfl rfl g206 rfl) ?_
                      exact WL.fin J207 hs205 rfl (andF g206) ⟨rfl, rfl, rfl, rfl, rfl, rfl, rfl, rfl, rfl, rfl, rfl, rfl, rfl, rfl, rfl, rfl, rfl, rfl, rfl, rfl, rfl, trivial⟩
                    · intro whs208 hs208
                      refine WL.val rfl rfl rfl (Run.move rfl rfl) ?_
                      apply WL.meetAnd 4 164 168 [(0, _), (1, _), (2, _), (3, _), (4, _), (6, _), (7, _), (8, _), (9, _), (10, _), (11, _), (28, _), (29, _), (52, _), (53, _), (54, _), (55, _), (57, _), (58, _), (59, _), (60, _)] rfl hs208
                      · intro g209 J210
                        refine WL.val (wantT rfl g209) rfl rfl (Run.field Try.runUnderlying27 rfl rfl rfl Try.sizeOf9 rfl) ?_
                        refine WL.val (wantT rfl g209) rfl rfl (Run.loadL hs208 0 Try.isAgg9 rfl rfl rfl rfl) ?_
                        refine WL.val (wantT rfl g209) rfl rfl (Run.eqlS rfl rfl rfl) ?_
                        refine WL.val rfl rfl rfl (Run.pickT rfl rfl g209 rfl) ?_
                        exact WL.fin J210 hs208 rfl (andT g209) ⟨rfl, rfl, rfl, rfl, rfl, rfl, rfl, rfl, rfl, rfl, rfl, rfl, rfl, rfl, rfl, rfl, rfl, rfl, rfl, rfl, rfl, trivial⟩
                      · intro g209 J210
                        refine WL.skip (wantNT rfl g209) rfl rfl ?_
                        refine WL.skip (wantNT rfl g209) rfl rfl ?_
                        refine WL.skip (wantNT rfl g209) rfl rfl ?_
                        refine WL.val rfl rfl rfl (Run.pickF rfl rfl g209 rfl) ?_
                        exact WL.fin J210 hs208 rfl (andF g209) ⟨rfl, rfl, rfl, rfl, rfl, rfl, rfl, rfl, rfl, rfl, rfl, rfl, rfl, rfl, rfl, rfl, rfl, rfl, rfl, rfl, rfl, trivial⟩
                      · intro whs211 hs211
                        refine WL.val rfl rfl rfl (Run.move rfl rfl) ?_
                        apply WL.meetAnd 5 169 174 [(0, _), (1, _), (2, _), (3, _), (4, _), (6, _), (7, _), (8, _), (9, _), (10, _), (11, _), (28, _), (29, _), (52, _), (53, _), (54, _), (55, _), (57, _), (58, _), (59, _), (60, _)] rfl hs211
                        · intro g212 J213
                          refine WL.val (wantT rfl g212) rfl rfl (Run.field Try.runUnderlying27 rfl rfl rfl Try.sizeOf22 rfl) ?_
                          refine WL.val (wantT rfl g212) rfl rfl (Run.loadL hs211 0 Try.isAgg22 rfl rfl rfl rfl) ?_
                          refine WL.val (wantT rfl g212) rfl rfl (Run.lenSl Try.runUnderlying22 rfl rfl) ?_
                          refine WL.val (wantT rfl g212) rfl rfl (Run.eql rfl rfl rfl) ?_
                          refine WL.val rfl rfl rfl (Run.pickT rfl rfl g212 rfl) ?_
                          exact WL.fin J213 hs211 rfl (andT g212) ⟨rfl, rfl, rfl, rfl, rfl, rfl, rfl, rfl, rfl, rfl, rfl, rfl, rfl, rfl, rfl, rfl, rfl, rfl, rfl, rfl, rfl, trivial⟩
                        · intro g212 J213
                          refine WL.skip (wantNT rfl g212) rfl rfl ?_
                          refine WL.skip (wantNT rfl g212) rfl rfl ?_
                          refine WL.skip (wantNT rfl g212) rfl rfl ?_
                          refine WL.skip (wantNT rfl g212) rfl rfl ?_
                          refine WL.val rfl rfl rfl (Run.pickF rfl rfl g212 rfl) ?_
                          exact WL.fin J213 hs211 rfl (andF g212) ⟨rfl, rfl, rfl, rfl, rfl, rfl, rfl, rfl, rfl, rfl, rfl, rfl, rfl, rfl, rfl, rfl, rfl, rfl, rfl, rfl, rfl, trivial⟩
                        · intro whs214 hs214
                          refine WL.val rfl rfl rfl (Run.assign rfl rfl) ?_
                          refine WL.nil ?_
                          refine tkN ?_
                          refine hK196 _ _ ?_
                          clear hK196
                          refine WC.seq (fun K215 hK215 => ?_)
                          refine WC.region ?_
                          refine WL.val rfl rfl rfl (Run.move rfl rfl) ?_
                          refine WL.val rfl rfl rfl (Run.move rfl rfl) ?_
                          apply WL.meetAnd 2 176 178 [(0, _), (1, _), (2, _), (3, _), (4, _), (5, _), (6, _), (7, _), (8, _), (9, _), (10, _), (11, _), (28, _), (29, _), (52, _), (53, _), (54, _), (55, _), (57, _), (58, _), (59, _), (60, _), (174, _)] rfl hs214
                          · intro g216 J217
                            refine WL.val (wantT rfl g216) rfl rfl (Run.move rfl rfl) ?_
                            refine WL.val rfl rfl rfl (Run.pickT rfl rfl g216 rfl) ?_
                            exact WL.fin J217 hs214 rfl (andT g216) ⟨rfl, rfl, rfl, rfl, rfl, rfl, rfl, rfl, rfl, rfl, rfl, rfl, rfl, rfl, rfl, rfl, rfl, rfl, rfl, rfl, rfl, rfl, rfl, trivial⟩
                          · intro g216 J217
                            refine WL.skip (wantNT rfl g216) rfl rfl ?_
                            refine WL.val rfl rfl rfl (Run.pickF rfl rfl g216 rfl) ?_
                            exact WL.fin J217 hs214 rfl (andF g216) ⟨rfl, rfl, rfl, rfl, rfl, rfl, rfl, rfl, rfl, rfl, rfl, rfl, rfl, rfl, rfl, rfl, rfl, rfl, rfl, rfl, rfl, rfl, rfl, trivial⟩
                          · intro whs218 hs218
                            refine WL.val rfl rfl rfl (Run.assign rfl rfl) ?_
                            refine WL.nil ?_
                            refine tkN ?_
                            refine hK215 _ _ ?_
                            clear hK215
                            refine WC.ret ?_
                            refine retV1 rfl (resV.tmp rfl) ?_
                            refine ⟨congrArg Ending.returned ?_, hs218.nil⟩
                            simp_all [opOk, noText]
            · have qh191 := h191
              try simp only [decide_eq_true_eq, decide_eq_false_iff_not, Bool.not_eq_true', Bool.not_eq_false', Bool.and_eq_true, Bool.or_eq_false_iff, within_iff, within_not] at qh191
              refine WC.region ?_
              refine WL.val rfl rfl rfl (Run.eql rfl rfl rfl) ?_
              refine WL.val rfl rfl rfl (Run.assign rfl rfl) ?_
              refine WL.nil ?_
              refine tkN ?_
              refine hK131 _ _ ?_
              clear hK131
              refine WC.cond rfl (fun h219 => ?_) (fun h219 => ?_)
              · have qh219 := h219
                try simp only [decide_eq_true_eq, decide_eq_false_iff_not, Bool.not_eq_true', Bool.not_eq_false', Bool.and_eq_true, Bool.or_eq_false_iff, within_iff, within_not] at qh219
                refine WC.seq (fun K220 hK220 => ?_)
                refine WC.region ?_
                refine WL.val rfl rfl rfl (Run.field Try.runUnderlying27 rfl rfl rfl Try.sizeOf3 rfl) ?_
                refine WL.store hs8 0 Try.sizeOf3 rfl rfl rfl rfl rfl rfl rfl rfl rfl rfl (fun whs221 hs221 => ?_)
                refine WL.nil ?_
                refine tkN ?_
                refine hK220 _ _ ?_
                clear hK220
                refine WC.region ?_
                refine WL.val rfl rfl rfl (Run.field Try.runUnderlying27 rfl rfl rfl Try.sizeOf3 rfl) ?_
                refine WL.val rfl rfl rfl (Run.loadL hs221 1 Try.isAgg3 rfl rfl rfl rfl) ?_
                refine WL.call rfl rfl rfl (Run.call Try.call50 rfl rfl rfl) (c_impl_isId _ _) ?_
                rintro _ whs222 ⟨rfl, hs222⟩
                replace hs222 := hs221.call0 hs222
                refine ⟨_, rfl, ?_⟩
                refine WL.val rfl rfl rfl (Run.assign rfl rfl) ?_
                refine WL.nil ?_
                refine ibN ?_
                refine tkN ?_
                refine hK9 _ _ ?_
                clear hK9
                refine WC.seq (fun K223 hK223 => ?_)
                refine WC.region ?_
                refine WL.val rfl rfl rfl (Run.field Try.runUnderlying27 rfl rfl rfl Try.sizeOf3 rfl) ?_
                refine WL.val rfl rfl rfl (Run.loadL hs222 0 Try.isAgg3 rfl rfl rfl rfl) ?_
                refine WL.val rfl rfl rfl (Run.eql rfl rfl rfl) ?_
                refine WL.val rfl rfl rfl (Run.move rfl rfl) ?_
                apply WL.meetAnd 4 144 148 [(0, _), (1, _), (2, _), (3, _), (4, _), (6, _), (7, _), (8, _), (9, _), (10, _), (11, _), (28, _), (29, _), (52, _), (53, _), (54, _), (55, _), (56, _), (57, _), (58, _), (59, _), (60, _)] rfl hs222
                · intro g224 J225
                  refine WL.val (wantT rfl g224) rfl rfl (Run.field Try.runUnderlying27 rfl rfl rfl Try.sizeOf3 rfl) ?_
                  refine WL.val (wantT rfl g224) rfl rfl (Run.loadL hs222 0 Try.isAgg3 rfl rfl rfl rfl) ?_
                  refine WL.val (wantT rfl g224) rfl rfl (Run.eql rfl rfl rfl) ?_
                  refine WL.val rfl rfl rfl (Run.pickT rfl rfl g224 rfl) ?_
                  exact WL.fin J225 hs222 rfl (andT g224) ⟨rfl, rfl, rfl, rfl, rfl, rfl, rfl, rfl, rfl, rfl, rfl, rfl, rfl, rfl, rfl, rfl, rfl, rfl, rfl, rfl, rfl, rfl, trivial⟩
                · intro g224 J225
                  refine WL.skip (wantNT rfl g224) rfl rfl ?_
                  refine WL.skip (wantNT rfl g224) rfl rfl ?_
                  refine WL.skip (wantNT rfl g224) rfl rfl ?_
                  refine WL.val rfl rfl rfl (Run.pickF rfl rfl g224 rfl) ?_
                  exact WL.fin J225 hs222 rfl (andF g224) ⟨rfl, rfl, rfl, rfl, rfl, rfl, rfl, rfl, rfl, rfl, rfl, rfl, rfl, rfl, rfl, rfl, rfl, rfl, rfl, rfl, rfl, rfl, trivial⟩
                · intro whs226 hs226
                  refine WL.val rfl rfl rfl (Run.move rfl rfl) ?_
                  apply WL.meetAnd 4 149 153 [(0, _), (1, _), (2, _), (3, _), (4, _), (6, _), (7, _), (8, _), (9, _), (10, _), (11, _), (28, _), (29, _), (52, _), (53, _), (54, _), (55, _), (56, _), (57, _), (58, _), (59, _), (60, _)] rfl hs226
                  · intro g227 J228
                    refine WL.val (wantT rfl g227) rfl rfl (Run.field Try.runUnderlying27 rfl rfl rfl Try.sizeOf3 rfl) ?_
                    refine WL.val (wantT rfl g227) rfl rfl (Run.loadL hs226 0 Try.isAgg3 rfl rfl rfl rfl) ?_
                    refine WL.val (wantT rfl g227) rfl rfl (Run.eql rfl rfl rfl) ?_
                    refine WL.val rfl rfl rfl (Run.pickT rfl rfl g227 rfl) ?_
                    exact WL.fin J228 hs226 rfl (andT g227) ⟨rfl, rfl, rfl, rfl, rfl, rfl, rfl, rfl, rfl, rfl, rfl, rfl, rfl, rfl, rfl, rfl, rfl, rfl, rfl, rfl, rfl, rfl, trivial⟩
                  · intro g227 J228
                    refine WL.skip (wantNT rfl g227) rfl rfl ?_
                    refine WL.skip (wantNT rfl g227) rfl rfl ?_
                    refine WL.skip (wantNT rfl g227) rfl rfl ?_
                    refine WL.val rfl rfl rfl (Run.pickF rfl rfl g227 rfl) ?_
                    exact WL.fin J228 hs226 rfl (andF g227) ⟨rfl, rfl, rfl, rfl, rfl, rfl, rfl, rfl, rfl, rfl, rfl, rfl, rfl, rfl, rfl, rfl, rfl, rfl, rfl, rfl, rfl, rfl, trivial⟩
                  · intro whs229 hs229
                    refine WL.val rfl rfl rfl (Run.move rfl rfl) ?_
                    apply WL.meetAnd 4 154 158 [(0, _), (1, _), (2, _), (3, _), (4, _), (6, _), (7, _), (8, _), (9, _), (10, _), (11, _), (28, _), (29, _), (52, _), (53, _), (54, _), (55, _), (56, _), (57, _), (58, _), (59, _), (60, _)] rfl hs229
                    · intro g230 J231
                      refine WL.val (wantT rfl g230) rfl rfl (Run.field Try.runUnderlying27 rfl rfl rfl Try.sizeOf9 rfl) ?_
                      refine WL.val (wantT rfl g230) rfl rfl (Run.loadL hs229 0 Try.isAgg9 rfl rfl rfl rfl) ?_
                      refine WL.val (wantT rfl g230) rfl rfl (Run.eqlS rfl rfl rfl) ?_
                      refine WL.val rfl rfl rfl (Run.pickT rfl rfl g230 rfl) ?_
                      exact WL.fin J231 hs229 rfl (andT g230) ⟨rfl, rfl, rfl, rfl, rfl, rfl, rfl, rfl, rfl, rfl, rfl, rfl, rfl, rfl, rfl, rfl, rfl, rfl, rfl, rfl, rfl, rfl, trivial⟩
                    · intro g230 J231
                      refine WL.skip (wantNT rfl g230) rfl rfl ?_
                      refine WL.skip (wantNT rfl g230) rfl rfl ?_
                      refine WL.skip (wantNT rfl g230) rfl rfl ?_
                      refine WL.val rfl rfl rfl (Run.pickF rfl rfl g230 rfl) ?_
                      exact WL.fin J231 hs229 rfl (andF g230) ⟨rfl, rfl, rfl, rfl, rfl, rfl, rfl, rfl, rfl, rfl, rfl, rfl, rfl, rfl, rfl, rfl, rfl, rfl, rfl, rfl, rfl, rfl, trivial⟩
                    · intro whs232 hs232
                      refine WL.val rfl rfl rfl (Run.move rfl rfl) ?_
                      apply WL.meetAnd 4 159 163 [(0, _), (1, _), (2, _), (3, _), (4, _), (6, _), (7, _), (8, _), (9, _), (10, _), (11, _), (28, _), (29, _), (52, _), (53, _), (54, _), (55, _), (56, _), (57, _), (58, _), (59, _), (60, _)] rfl hs232
                      · intro g233 J234
                        refine WL.val (wantT rfl g233) rfl rfl (Run.field Try.runUnderlying27 rfl rfl rfl Try.sizeOf9 rfl) ?_
                        refine WL.val (wantT rfl g233) rfl rfl (Run.loadL hs232 0 Try.isAgg9 rfl rfl rfl rfl) ?_
                        refine WL.val (wantT rfl g233) rfl rfl (Run.eqlS rfl rfl rfl) ?_
                        refine WL.val rfl rfl rfl (Run.pickT rfl rfl g233 rfl) ?_
                        exact WL.fin J234 hs232 rfl (andT g233) ⟨rfl, rfl, rfl, rfl, rfl, rfl, rfl, rfl, rfl, rfl, rfl, rfl, rfl, rfl, rfl, rfl, rfl, rfl, rfl, rfl, rfl, rfl, trivial⟩
                      · intro g233 J234
                        refine WL.skip (wantNT rfl g233) rfl rfl ?_
                        refine WL.skip (wantNT rfl g233) rfl rfl ?_
                        refine WL.skip (wantNT rfl g233) rfl rfl ?_
                        refine WL.val rfl rfl rfl (Run.pickF rfl rfl g233 rfl) ?_
                        exact WL.fin J234 hs232 rfl (andF g233) ⟨rfl, rfl, rfl, rfl, rfl, rfl, rfl, rfl, rfl, rfl, rfl, rfl, rfl, rfl, rfl, rfl, rfl, rfl, rfl, rfl, rfl, rfl, trivial⟩
                      · intro whs235 hs235
                        refine WL.val rfl rfl rfl (Run.move rfl rfl) ?_
                        apply WL.meetAnd 4 164 168 [(0, _), (1, _), (2, _), (3, _), (4, _), (6, _), (7, _), (8, _), (9, _), (10, _), (11, _), (28, _), (29, _), (52, _), (53, _), (54, _), (55, _), (56, _), (57, _), (58, _), (59, _), (60, _)] rfl hs235
                        · intro g236 J237
                          refine WL.val (wantT rfl g236) rfl rfl (Run.field Try.runUnderlying27 rfl rfl rfl Try.sizeOf9 rfl) ?_
                          refine WL.val (wantT rfl g236) rfl rfl (Run.loadL hs235 0 Try.isAgg9 rfl rfl rfl rfl) ?_
                          refine WL.val (wantT rfl g236) rfl rfl (Run.eqlS rfl rfl rfl) ?_
                          refine WL.val rfl rfl rfl (Run.pickT rfl rfl g236 rfl) ?_
                          exact WL.fin J237 hs235 rfl (andT g236) ⟨rfl, rfl, rfl, rfl, rfl, rfl, rfl, rfl, rfl, rfl, rfl, rfl, rfl, rfl, rfl, rfl, rfl, rfl, rfl, rfl, rfl, rfl, trivial⟩
                        · intro g236 J237
                          refine WL.skip (wantNT rfl g236) rfl rfl ?_
                          refine WL.skip (wantNT rfl g236) rfl rfl ?_
                          refine WL.skip (wantNT rfl g236) rfl rfl ?_
                          refine WL.val rfl rfl rfl (Run.pickF rfl rfl g236 rfl) ?_
                          exact WL.fin J237 hs235 rfl (andF g236) ⟨rfl, rfl, rfl, rfl, rfl, rfl, rfl, rfl, rfl, rfl, rfl, rfl, rfl, rfl, rfl, rfl, rfl, rfl, rfl, rfl, rfl, rfl, trivial⟩
                        · intro whs238 hs238
                          refine WL.val rfl rfl rfl (Run.move rfl rfl) ?_
                          apply WL.meetAnd 5 169 174 [(0, _), (1, _), (2, _), (3, _), (4, _), (6, _), (7, _), (8, _), (9, _), (10, _), (11, _), (28, _), (29, _), (52, _), (53, _), (54, _), (55, _), (56, _), (57, _), (58, _), (59, _), (60, _)] rfl hs238
                          · intro g239 J240
                            refine WL.val (wantT rfl g239) rfl rfl (Run.field Try.runUnderlying27 rfl rfl rfl Try.sizeOf22 rfl) ?_
                            refine WL.val (wantT rfl g239) rfl rfl (Run.loadL hs238 0 Try.isAgg22 rfl rfl rfl rfl) ?_
                            refine WL.val (wantT rfl g239) rfl rfl (Run.lenSl Try.runUnderlying22 rfl rfl) ?_
                            refine WL.val (wantT rfl g239) rfl rfl (Run.eql rfl rfl rfl) ?_
                            refine WL.val rfl rfl rfl (Run.pickT rfl rfl g239 rfl) ?_
                            exact WL.fin J240 hs238 rfl (andT g239) ⟨rfl, rfl, rfl, rfl, rfl, rfl, rfl, rfl, rfl, rfl, rfl, rfl, rfl, rfl, rfl, rfl, rfl, rfl, rfl, rfl, rfl, rfl, trivial⟩
                          · intro g239 J240
                            refine WL.skip (wantNT rfl g239) rfl rfl ?_
                            refine WL.skip (wantNT rfl g239) rfl rfl ?_
                            refine WL.skip (wantNT rfl g239) rfl rfl ?_
                            refine WL.skip (wantNT rfl g239) rfl rfl ?_
                            refine WL.val rfl rfl rfl (Run.pickF rfl rfl g239 rfl) ?_
                            exact WL.fin J240 hs238 rfl (andF g239) ⟨rfl, rfl, rfl, rfl, rfl, rfl, rfl, rfl, rfl, rfl, rfl, rfl, rfl, rfl, rfl, rfl, rfl, rfl, rfl, rfl, rfl, rfl, trivial⟩
                          · intro whs241 hs241
                            refine WL.val rfl rfl rfl (Run.assign rfl rfl) ?_
                            refine WL.nil ?_
                            refine tkN ?_
                            refine hK223 _ _ ?_
                            clear hK223
                            refine WC.seq (fun K242 hK242 => ?_)
                            refine WC.region ?_
                            refine WL.val rfl rfl rfl (Run.move rfl rfl) ?_
                            refine WL.val rfl rfl rfl (Run.move rfl rfl) ?_
                            apply WL.meetAnd 2 176 178 [(0, _), (1, _), (2, _), (3, _), (4, _), (5, _), (6, _), (7, _), (8, _), (9, _), (10, _), (11, _), (28, _), (29, _), (52, _), (53, _), (54, _), (55, _), (56, _), (57, _), (58, _), (59, _), (60, _), (174, _)] rfl hs241
                            · intro g243 J244
                              refine WL.val (wantT rfl g243) rfl rfl (Run.move rfl rfl) ?_
                              refine WL.val rfl rfl rfl (Run.pickT rfl rfl g243 rfl) ?_
                              exact WL.fin J244 hs241 rfl (andT g243) ⟨rfl, rfl, rfl, rfl, rfl, rfl, rfl, rfl, rfl, rfl, rfl, rfl, rfl, rfl, rfl, rfl, rfl, rfl, rfl, rfl, rfl, rfl, rfl, rfl, trivial⟩
                            · intro g243 J244
                              refine WL.skip (wantNT rfl g243) rfl rfl ?_
                              refine WL.val rfl rfl rfl (Run.pickF rfl rfl g243 rfl) ?_
                              exact WL.fin J244 hs241 rfl (andF g243) ⟨rfl, rfl, rfl, rfl, rfl, rfl, rfl, rfl, rfl, rfl, rfl, rfl, rfl, rfl, rfl, rfl, rfl, rfl, rfl, rfl, rfl, rfl, rfl, rfl, trivial⟩
                            · intro whs245 hs245
                              refine WL.val rfl rfl rfl (Run.assign rfl rfl) ?_
                              refine WL.nil ?_
                              refine tkN ?_
                              refine hK242 _ _ ?_
                              clear hK242
                              refine WC.ret ?_
                              refine retV1 rfl (resV.tmp rfl) ?_
                              refine ⟨congrArg Ending.returned ?_, hs245.nil⟩
                              simp_all [opOk, noText]
              · have qh219 := h219
                try simp only [decide_eq_true_eq, decide_eq_false_iff_not, Bool.not_eq_true', Bool.not_eq_false', Bool.and_eq_true, Bool.or_eq_false_iff, within_iff, within_not] at qh219
                refine WC.seq (fun K246 hK246 => ?_)
                refine WC.region ?_
                refine WL.val rfl rfl rfl (Run.eql rfl rfl rfl) ?_
                refine WL.val rfl rfl rfl (Run.assign rfl rfl) ?_
                refine WL.nil ?_
                refine tkN ?_
                refine hK246 _ _ ?_
                clear hK246
                refine WC.cond rfl (fun h247 => ?_) (fun h247 => ?_)
                · have qh247 := h247
                  try simp only [decide_eq_true_eq, decide_eq_false_iff_not, Bool.not_eq_true', Bool.not_eq_false', Bool.and_eq_true, Bool.or_eq_false_iff, within_iff, within_not] at qh247
                  refine WC.seq (fun K248 hK248 => ?_)
                  refine WC.region ?_
                  refine WL.val rfl rfl rfl (Run.field Try.runUnderlying27 rfl rfl rfl Try.sizeOf3 rfl) ?_
                  refine WL.store hs8 0 Try.sizeOf3 rfl rfl rfl rfl rfl rfl rfl rfl rfl rfl (fun whs249 hs249 => ?_)
                  refine WL.val rfl rfl rfl (Run.field Try.runUnderlying27 rfl rfl rfl Try.sizeOf22 rfl) ?_
                  refine WL.store hs249 0 Try.sizeOf22 rfl rfl rfl rfl rfl rfl rfl rfl rfl rfl (fun whs250 hs250 => ?_)
                  refine WL.nil ?_
                  refine tkN ?_
                  refine hK248 _ _ ?_
                  clear hK248
                  refine WC.region ?_
                  refine WL.val rfl rfl rfl (Run.field Try.runUnderlying27 rfl rfl rfl Try.sizeOf3 rfl) ?_
                  refine WL.val rfl rfl rfl (Run.loadL hs250 1 Try.isAgg3 rfl rfl rfl rfl) ?_
                  refine WL.call rfl rfl rfl (Run.call Try.call50 rfl rfl rfl) (c_impl_isId _ _) ?_
                  rintro _ whs251 ⟨rfl, hs251⟩
                  replace hs251 := hs250.call0 hs251
                  refine ⟨_, rfl, ?_⟩
                  refine WL.val rfl rfl rfl (Run.move rfl rfl) ?_
                  apply WL.meetAnd 5 68 73 [(0, _), (1, _), (2, _), (3, _), (4, _), (6, _), (7, _), (8, _), (9, _), (10, _), (11, _), (28, _), (29, _), (52, _), (53, _), (54, _), (55, _), (56, _), (61, _), (62, _), (63, _), (64, _)] rfl hs251
                  · intro g252 J253
                    refine WL.val (wantT rfl g252) rfl rfl (Run.field Try.runUnderlying27 rfl rfl rfl Try.sizeOf22 rfl) ?_
                    refine WL.val (wantT rfl g252) rfl rfl (Run.loadL hs251 1 Try.isAgg22 rfl rfl rfl rfl) ?_
                    refine WL.val (wantT rfl g252) rfl rfl (Run.lenSl Try.runUnderlying22 rfl rfl) ?_
                    refine WL.call (wantT rfl g252) rfl rfl (Run.call Try.call51 rfl rfl rfl) (c_impl_within _ _ _ _) ?_
                    rintro _ whs254 ⟨rfl, hs254⟩
                    replace hs254 := hs251.call0 hs254
                    refine ⟨_, rfl, ?_⟩
                    refine WL.val rfl rfl rfl (Run.pickT rfl rfl g252 rfl) ?_
                    exact WL.fin J253 hs254 rfl (andT g252) ⟨rfl, rfl, rfl, rfl, rfl, rfl, rfl, rfl, rfl, rfl, rfl, rfl, rfl, rfl, rfl, rfl, rfl, rfl, rfl, rfl, rfl, rfl, trivial⟩
                  · intro g252 J253
                    refine WL.skip (wantNT rfl g252) rfl rfl ?_
                    refine WL.skip (wantNT rfl g252) rfl rfl ?_
                    refine WL.skip (wantNT rfl g252) rfl rfl ?_
                    refine WL.skip (wantNT rfl g252) rfl rfl ?_
                    refine WL.val rfl rfl rfl (Run.pickF rfl rfl g252 rfl) ?_
                    exact WL.fin J253 hs251 rfl (andF g252) ⟨rfl, rfl, rfl, rfl, rfl, rfl, rfl, rfl, rfl, rfl, rfl, rfl, rfl, rfl, rfl, rfl, rfl, rfl, rfl, rfl, rfl, rfl, trivial⟩
                  · intro whs255 hs255
                    refine WL.val rfl rfl rfl (Run.assign rfl rfl) ?_
                    refine WL.nil ?_
                    refine ibN ?_
                    refine tkN ?_
                    refine hK9 _ _ ?_
                    clear hK9
                    refine WC.seq (fun K256 hK256 => ?_)
                    refine WC.region ?_
                    refine WL.val rfl rfl rfl (Run.field Try.runUnderlying27 rfl rfl rfl Try.sizeOf3 rfl) ?_
                    refine WL.val rfl rfl rfl (Run.loadL hs255 0 Try.isAgg3 rfl rfl rfl rfl) ?_
                    refine WL.val rfl rfl rfl (Run.eql rfl rfl rfl) ?_
                    refine WL.val rfl rfl rfl (Run.move rfl rfl) ?_
                    apply WL.meetAnd 4 144 148 [(0, _), (1, _), (2, _), (3, _), (4, _), (6, _), (7, _), (8, _), (9, _), (10, _), (11, _), (28, _), (29, _), (52, _), (53, _), (54, _), (55, _), (56, _), (61, _), (62, _), (63, _), (64, _), (73, _)] rfl hs255
                    · intro g257 J258
                      refine WL.val (wantT rfl g257) rfl rfl (Run.field Try.runUnderlying27 rfl rfl rfl Try.sizeOf3 rfl) ?_
                      refine WL.val (wantT rfl g257) rfl rfl (Run.loadL hs255 0 Try.isAgg3 rfl rfl rfl rfl) ?_
                      refine WL.val (wantT rfl g257) rfl rfl (Run.eql rfl rfl rfl) ?_
                      refine WL.val rfl rfl rfl (Run.pickT rfl rfl g257 rfl) ?_
                      exact WL.fin J258 hs255 rfl (andT g257) ⟨rfl, rfl, rfl, rfl, rfl, rfl, rfl, rfl, rfl, rfl, rfl, rfl, rfl, rfl, rfl, rfl, rfl, rfl, rfl, rfl, rfl, rfl, rfl, trivial⟩
                    · intro g257 J258
                      refine WL.skip (wantNT rfl g257) rfl rfl ?_
                      refine WL.skip (wantNT rfl g257) rfl rfl ?_
                      refine WL.skip (wantNT rfl g257) rfl rfl ?_
                      refine WL.val rfl rfl rfl (Run.pickF rfl rfl g257 rfl) ?_
                      exact WL.fin J258 hs255 rfl (andF g257) ⟨rfl, rfl, rfl, rfl, rfl, rfl, rfl, rfl, rfl, rfl, rfl, rfl, rfl, rfl, rfl, rfl, rfl, rfl, rfl, rfl, rfl, rfl, rfl, trivial⟩
                    · intro whs259 hs259
                      refine WL.val rfl rfl rfl (Run.move rfl rfl) ?_
                      apply WL.meetAnd 4 149 153 [(0, _), (1, _), (2, _), (3, _), (4, _), (6, _), (7, _), (8, _), (9, _), (10, _), (11, _), (28, _), (29, _), (52, _), (53, _), (54, _), (55, _), (56, _), (61, _), (62, _), (63, _), (64, _), (73, _)] rfl hs259
                      · intro g260 J261
                        refine WL.val (wantT rfl g260) rfl rfl (Run.field Try.runUnderlying27 rfl rfl rfl Try.sizeOf3 rfl) ?_
                        refine WL.val (wantT rfl g260) rfl rfl (Run.loadL hs259 0 Try.isAgg3 rfl rfl rfl rfl) ?_
                        refine WL.val (wantT rfl g260) rfl rfl (Run.eql rfl rfl rfl) ?_
                        refine WL.val rfl rfl rfl (Run.pickT rfl rfl g260 rfl) ?_
                        exact WL.fin J261 hs259 rfl (andT g260) ⟨rfl, rfl, rfl, rfl, rfl, rfl, rfl, rfl, rfl, rfl, rfl, rfl, rfl, rfl, rfl, rfl, rfl, rfl, rfl, rfl, rfl, rfl, rfl, trivial⟩
                      · intro g260 J261
                        refine WL.skip (wantNT rfl g260) rfl rfl ?_
                        refine WL.skip (wantNT rfl g260) rfl rfl ?_
                        refine WL.skip (wantNT rfl g260) rfl rfl ?_
                        refine WL.val rfl rfl rfl (Run.pickF rfl rfl g260 rfl) ?_
                        exact WL.fin J261 hs259 rfl (andF g260) ⟨rfl, rfl, rfl, rfl, rfl, rfl, rfl, rfl, rfl, rfl, rfl, rfl, rfl, rfl, rfl, rfl, rfl, rfl, rfl, rfl, rfl, rfl, rfl, trivial⟩
                      · intro whs262 hs262
                        refine WL.val rfl rfl rfl (Run.move rfl rfl) ?_
                        apply WL.meetAnd 4 154 158 [(0, _), (1, _), (2, _), (3, _), (4, _), (6, _), (7, _), (8, _), (9, _), (10, _), (11, _), (28, _), (29, _), (52, _), (53, _), (54, _), (55, _), (56, _), (61, _), (62, _), (63, _), (64, _), (73, _)] rfl hs262
                        · intro g263 J264
                          refine WL.val (wantT rfl g263) rfl rfl (Run.field Try.runUnderlying27 rfl rfl rfl Try.sizeOf9 rfl) ?_
                          refine WL.val (wantT rfl g263) rfl rfl (Run.loadL hs262 0 Try.isAgg9 rfl rfl rfl rfl) ?_
                          refine WL.val (wantT rfl g263) rfl rfl (Run.eqlS rfl rfl rfl) ?_
                          refine WL.val rfl rfl rfl (Run.pickT rfl rfl g263 rfl) ?_
                          exact WL.fin J264 hs262 rfl (andT g263) ⟨rfl, rfl, rfl, rfl, rfl, rfl, rfl, rfl, rfl, rfl, rfl, rfl, rfl, rfl, rfl, rfl, rfl, rfl, rfl, rfl, rfl, rfl, rfl, trivial⟩
                        · intro g263 J264
                          refine WL.skip (wantNT rfl g263) rfl rfl ?_
                          refine WL.skip (wantNT rfl g263) rfl rfl ?_
                          refine WL.skip (wantNT rfl g263) rfl rfl ?_
                          refine WL.val rfl rfl rfl (Run.pickF rfl rfl g263 rfl) ?_
                          exact WL.fin J264 hs262 rfl (andF g263) ⟨rfl, rfl, rfl, rfl, rfl, rfl, rfl, rfl, rfl, rfl, rfl, rfl, rfl, rfl, rfl, rfl, rfl, rfl, rfl, rfl, rfl, rfl, rfl, trivial⟩
                        · intro whs265 hs265
                          refine WL.val rfl rfl rfl (Run.move rfl rfl) ?_
                          apply WL.meetAnd 4 159 163 [(0, _), (1, _), (2, _), (3, _), (4, _), (6, _), (7, _), (8, _), (9, _), (10, _), (11, _), (28, _), (29, _), (52, _), (53, _), (54, _), (55, _), (56, _), (61, _), (62, _), (63, _), (64, _), (73, _)] rfl hs265
                          · intro g266 J267
                            refine WL.val (wantT rfl g266) rfl rfl (Run.field Try.runUnderlying27 rfl rfl rfl Try.sizeOf9 rfl) ?_
                            refine WL.val (wantT rfl g266) rfl rfl (Run.loadL hs265 0 Try.isAgg9 rfl rfl rfl rfl) ?_
                            refine WL.val (wantT rfl g266) rfl rfl (Run.eqlS rfl rfl rfl) ?_
                            refine WL.val rfl rfl rfl (Run.pickT rfl rfl g266 rfl) ?_
                            exact WL.fin J267 hs265 rfl (andT g266) ⟨rfl, rfl, rfl, rfl, rfl, rfl, rfl, rfl, rfl, rfl, rfl, rfl, rfl, rfl, rfl, rfl, rfl, rfl, rfl, rfl, rfl, rfl, rfl, trivial⟩
                          · intro g266 J267
                            refine WL.skip (wantNT rfl g266) rfl rfl ?_
                            refine WL.skip (wantNT rfl g266) rfl rfl ?_
                            refine WL.skip (wantNT rfl g266) rfl rfl ?_
                            refine WL.val rfl rfl rfl (Run.pickF rfl rfl g266 rfl) ?_
                            exact WL.fin J267 hs265 rfl (andF g266) ⟨rfl, rfl, rfl, rfl, rfl, rfl, rfl, rfl, rfl, rfl, rfl, rfl, rfl, rfl, rfl, rfl, rfl, rfl, rfl, rfl, rfl, rfl, rfl, trivial⟩
                          · intro whs268 hs268
                            refine WL.val rfl rfl rfl (Run.move rfl rfl) ?_
                            apply WL.meetAnd 4 164 168 [(0, _), (1, _), (2, _), (3, _), (4, _), (6, _), (7, _), (8, _), (9, _), (10, _), (11, _), (28, _), (29, _), (52, _), (53, _), (54, _), (55, _), (56, _), (61, _), (62, _), (63, _), (64, _), (73, _)] rfl hs268
                            · intro g269 J270
                              refine WL.val (wantT rfl g269) rfl rfl (Run.field Try.runUnderlying27 rfl rfl rfl Try.sizeOf9 rfl) ?_
                              refine WL.val (wantT rfl g269) rfl rfl (Run.loadL hs268 0 Try.isAgg9 rfl rfl rfl rfl) ?_
                              refine WL.val (wantT rfl g269) rfl rfl (Run.eqlS rfl rfl rfl) ?_
                              refine WL.val rfl rfl rfl (Run.pickT rfl rfl g269 rfl) ?_
                              exact WL.fin J270 hs268 rfl (andT g269) ⟨rfl, rfl, rfl, rfl, rfl, rfl, rfl, rfl, rfl, rfl, rfl, rfl, rfl, rfl, rfl, rfl, rfl, rfl, rfl, rfl, rfl, rfl, rfl, trivial⟩
                            · intro g269 J270
                              refine WL.skip (wantNT rfl g269) rfl rfl ?_
                              refine WL.skip (wantNT rfl g269) rfl rfl ?_
                              refine WL.skip (wantNT rfl g269) rfl rfl ?_
                              refine WL.val rfl rfl rfl (Run.pickF rfl rfl g269 rfl) ?_
                              exact WL.fin J270 hs268 rfl (andF g269) ⟨rfl, rfl, rfl, rfl, rfl, rfl, rfl, rfl, rfl, rfl, rfl, rfl, rfl, rfl, rfl, rfl, rfl, rfl, rfl, rfl, rfl, rfl, rfl, trivial⟩
                            · intro whs271 hs271
                              refine WL.val rfl rfl rfl (Run.move rfl rfl) ?_
                              apply WL.meetAnd 5 169 174 [(0, _), (1, _), (2, _), (3, _), (4, _), (6, _), (7, _), (8, _), (9, _), (10, _), (11, _), (28, _), (29, _), (52, _), (53, _), (54, _), (55, _), (56, _), (61, _), (62, _), (63, _), (64, _), (73, _)] rfl hs271
                              · intro g272 J273
                                refine WL.val (wantT rfl g272) rfl rfl (Run.field Try.runUnderlying27 rfl rfl rfl Try.sizeOf22 rfl) ?_
                                refine WL.val (wantT rfl g272) rfl rfl (Run.loadL hs271 0 Try.isAgg22 rfl rfl rfl rfl) ?_
                                refine WL.val (wantT rfl g272) rfl rfl (Run.lenSl Try.runUnderlying22 rfl rfl) ?_
                                refine WL.val (wantT rfl g272) rfl rfl (Run.eql rfl rfl rfl) ?_
                                refine WL.val rfl rfl rfl (Run.pickT rfl rfl g272 rfl) ?_
                                exact WL.fin J273 hs271 rfl (andT g272) ⟨rfl, rfl, rfl, rfl, rfl, rfl, rfl, rfl, rfl, rfl, rfl, rfl, rfl, rfl, rfl, rfl, rfl, rfl, rfl, rfl, rfl, rfl, rfl, trivial⟩
                              · intro g272 J273
                                refine WL.skip (wantNT rfl g272) rfl rfl ?_
                                refine WL.skip (wantNT rfl g272) rfl rfl ?_
                                refine WL.skip (wantNT rfl g272) rfl rfl ?_
                                refine WL.skip (wantNT rfl g272) rfl rfl ?_
                                refine WL.val rfl rfl rfl (Run.pickF rfl rfl g272 rfl) ?_
                                exact WL.fin J273 hs271 rfl (andF g272) ⟨rfl, rfl, rfl, rfl, rfl, rfl, rfl, rfl, rfl, rfl, rfl, rfl, rfl, rfl, rfl, rfl, rfl, rfl, rfl, rfl, rfl, rfl, rfl, trivial⟩
                              · intro whs274 hs274
                                refine WL.val rfl rfl rfl (Run.assign rfl rfl) ?_
                                refine WL.nil ?_
                                refine tkN ?_
                                refine hK256 _ _ ?_
                                clear hK256
                                refine WC.seq (fun K275 hK275 => ?_)
                                refine WC.region ?_
                                refine WL.val rfl rfl rfl (Run.move rfl rfl) ?_
                                refine WL.val rfl rfl rfl (Run.move rfl rfl) ?_
                                apply WL.meetAnd 2 176 178 [(0, _), (1, _), (2, _), (3, _), (4, _), (5, _), (6, _), (7, _), (8, _), (9, _), (10, _), (11, _), (28, _), (29, _), (52, _), (53, _), (54, _), (55, _), (56, _), (61, _), (62, _), (63, _), (64, _), (73, _), (174, _)] rfl hs274
                                · intro g276 J277
                                  refine WL.val (wantT rfl g276) rfl rfl (Run.move rfl rfl) ?_
                                  refine WL.val rfl rfl rfl (Run.pickT rfl rfl g276 rfl) ?_
                                  exact WL.fin J277 hs274 rfl (andT g276) ⟨rfl, rfl, rfl, rfl, rfl, rfl, rfl, rfl, rfl, rfl, rfl, rfl, rfl, rfl, rfl, rfl, rfl, rfl, rfl, rfl, rfl, rfl, rfl, rfl, rfl, trivial⟩
                                · intro g276 J277
                                  refine WL.skip (wantNT rfl g276) rfl rfl ?_
                                  refine WL.val rfl rfl rfl (Run.pickF rfl rfl g276 rfl) ?_
                                  exact WL.fin J277 hs274 rfl (andF g276) ⟨rfl, rfl, rfl, rfl, rfl, rfl, rfl, rfl, rfl, rfl, rfl, rfl, rfl, rfl, rfl, rfl, rfl, rfl, rfl, rfl, rfl, rfl, rfl, rfl, rfl, trivial⟩
                                · intro whs278 hs278
                                  refine WL.val rfl rfl rfl (Run.assign rfl rfl) ?_
                                  refine WL.nil ?_
                                  refine tkN ?_
                                  refine hK275 _ _ ?_
                                  clear hK275
                                  refine WC.ret ?_
                                  refine retV1 rfl (resV.tmp rfl) ?_
                                  refine ⟨congrArg Ending.returned ?_, hs278.nil⟩
                                  simp_all [opOk, noText]
                · have qh247 := h247
                  try simp only [decide_eq_true_eq, decide_eq_false_iff_not, Bool.not_eq_true', Bool.not_eq_false', Bool.and_eq_true, Bool.or_eq_false_iff, within_iff, within_not] at qh247
                  refine WC.seq (fun K279 hK279 => ?_)
                  refine WC.region ?_
                  refine WL.val rfl rfl rfl (Run.eql rfl rfl rfl) ?_
                  refine WL.val rfl rfl rfl (Run.assign rfl rfl) ?_
                  refine WL.nil ?_
                  refine tkN ?_
                  refine hK279 _ _ ?_
                  clear hK279
                  refine WC.cond rfl (fun h280 => ?_) (fun h280 => ?_)
                  · have qh280 := h280
                    try simp only [decide_eq_true_eq, decide_eq_false_iff_not, Bool.not_eq_true', Bool.not_eq_false', Bool.and_eq_true, Bool.or_eq_false_iff, within_iff, within_not] at qh280
                    refine WC.seq (fun K281 hK281 => ?_)
                    refine WC.region ?_
                    refine WL.val rfl rfl rfl (Run.field Try.runUnderlying27 rfl rfl rfl Try.sizeOf3 rfl) ?_
                    refine WL.store hs8 0 Try.sizeOf3 rfl rfl rfl rfl rfl rfl rfl rfl rfl rfl (fun whs282 hs282 => ?_)
                    refine WL.val rfl rfl rfl (Run.field Try.runUnderlying27 rfl rfl rfl Try.sizeOf3 rfl) ?_
                    refine WL.store hs282 0 Try.sizeOf3 rfl rfl rfl rfl rfl rfl rfl rfl rfl rfl (fun whs283 hs283 => ?_)
                    refine WL.nil ?_
                    refine tkN ?_
                    refine hK281 _ _ ?_
                    clear hK281
                    refine WC.region ?_
                    refine WL.val rfl rfl rfl (Run.field Try.runUnderlying27 rfl rfl rfl Try.sizeOf3 rfl) ?_
                    refine WL.val rfl rfl rfl (Run.loadL hs283 1 Try.isAgg3 rfl rfl rfl rfl) ?_
                    refine WL.call rfl rfl rfl (Run.call Try.call50 rfl rfl rfl) (c_impl_isId _ _) ?_
                    rintro _ whs284 ⟨rfl, hs284⟩
                    replace hs284 := hs283.call0 hs284
                    refine ⟨_, rfl, ?_⟩
                    refine WL.val rfl rfl rfl (Run.move rfl rfl) ?_
                    apply WL.meetAnd 4 81 85 [(0, _), (1, _), (2, _), (3, _), (4, _), (6, _), (7, _), (8, _), (9, _), (10, _), (11, _), (28, _), (29, _), (52, _), (53, _), (54, _), (55, _), (56, _), (61, _), (62, _), (74, _), (75, _), (76, _), (77, _)] rfl hs284
                    · intro g285 J286
                      refine WL.val (wantT rfl g285) rfl rfl (Run.field Try.runUnderlying27 rfl rfl rfl Try.sizeOf3 rfl) ?_
                      refine WL.val (wantT rfl g285) rfl rfl (Run.loadL hs284 1 Try.isAgg3 rfl rfl rfl rfl) ?_
                      refine WL.call (wantT rfl g285) rfl rfl (Run.call Try.call51 rfl rfl rfl) (c_impl_within _ _ _ _) ?_
                      rintro _ whs287 ⟨rfl, hs287⟩
                      replace hs287 := hs284.call0 hs287
                      refine ⟨_, rfl, ?_⟩
                      refine WL.val rfl rfl rfl (Run.pickT rfl rfl g285 rfl) ?_
                      exact WL.fin J286 hs287 rfl (andT g285) ⟨rfl, rfl, rfl, rfl, rfl, rfl, rfl, rfl, rfl, rfl, rfl, rfl, rfl, rfl, rfl, rfl, rfl, rfl, rfl, rfl, rfl, rfl, rfl, rfl, trivial⟩
                    · intro g285 J286
                      refine WL.skip (wantNT rfl g285) rfl rfl ?_
                      refine WL.skip (wantNT rfl g285) rfl rfl ?_
                      refine WL.skip (wantNT rfl g285) rfl rfl ?_
                      refine WL.val rfl rfl rfl (Run.pickF rfl rfl g285 rfl) ?_
                      exact WL.fin J286 hs284 rfl (andF g285) ⟨rfl, rfl, rfl, rfl, rfl, rfl, rfl, rfl, rfl, rfl, rfl, rfl, rfl, rfl, rfl, rfl, rfl, rfl, rfl, rfl, rfl, rfl, rfl, rfl, trivial⟩
                    · intro whs288 hs288
                      refine WL.val rfl rfl rfl (Run.assign rfl rfl) ?_
                      refine WL.nil ?_
                      refine ibN ?_
                      refine tkN ?_
                      refine hK9 _ _ ?_
                      clear hK9
                      refine WC.seq (fun K289 hK289 => ?_)
                      refine WC.region ?_
                      refine WL.val rfl rfl rfl (Run.field Try.runUnderlying27 rfl rfl rfl Try.sizeOf3 rfl) ?_
                      refine WL.val rfl rfl rfl (Run.loadL hs288 0 Try.isAgg3 rfl rfl rfl rfl) ?_
                      refine WL.val rfl rfl rfl (Run.eql rfl rfl rfl) ?_
                      refine WL.val rfl rfl rfl (Run.move rfl rfl) ?_
                      apply WL.meetAnd 4 144 148 [(0, _), (1, _), (2, _), (3, _), (4, _), (6, _), (7, _), (8, _), (9, _), (10, _), (11, _), (28, _), (29, _), (52, _), (53, _), (54, _), (55, _), (56, _), (61, _), (62, _), (74, _), (75, _), (76, _), (77, _), (85, _)] rfl hs288
                      · intro g290 J291
                        refine WL.val (wantT rfl g290) rfl rfl (Run.field Try.runUnderlying27 rfl rfl rfl Try.sizeOf3 rfl) ?_
                        refine WL.val (wantT rfl g290) rfl rfl (Run.loadL hs288 0 Try.isAgg3 rfl rfl rfl rfl) ?_
                        refine WL.val (wantT rfl g290) rfl rfl (Run.eql rfl rfl rfl) ?_
                        refine WL.val rfl rfl rfl (Run.pickT rfl rfl g290 rfl) ?_
                        exact WL.fin J291 hs288 rfl (andT g290) ⟨rfl, rfl, rfl, rfl, rfl, rfl, rfl, rfl, rfl, rfl, rfl, rfl, rfl, rfl, rfl, rfl, rfl, rfl, rfl, rfl, rfl, rfl, rfl, rfl, rfl, trivial⟩
                      · intro g290 J291
                        refine WL.skip (wantNT rfl g290) rfl rfl ?_
                        refine WL.skip (wantNT rfl g290) rfl rfl ?_
                        refine WL.skip (wantNT rfl g290) rfl rfl ?_
                        refine WL.val rfl rfl rfl (Run.pickF rfl rfl g290 rfl) ?_
                        exact WL.fin J291 hs288 rfl (andF g290) ⟨rfl, rfl, rfl, rfl, rfl, rfl, rfl, rfl, rfl, rfl, rfl, rfl, rfl, rfl, rfl, rfl, rfl, rfl, rfl, rfl, rfl, rfl, rfl, rfl, rfl, trivial⟩
                      · intro whs292 hs292
                        refine WL.val rfl rfl rfl (Run.move rfl rfl) ?_
                        apply WL.meetAnd 4 149 153 [(0, _), (1, _), (2, _), (3, _), (4, _), (6, _), (7, _), (8, _), (9, _), (10, _), (11, _), (28, _), (29, _), (52, _), (53, _), (54, _), (55, _), (56, _), (61, _), (62, _), (74, _), (75, _), (76, _), (77, _), (85, _)] rfl hs292
                        · intro g293 J294
                          refine WL.val (wantT rfl g293) rfl rfl (Run.field Try.runUnderlying27 rfl rfl rfl Try.sizeOf3 rfl) ?_
                          refine WL.val (wantT rfl g293) rfl rfl (Run.loadL hs292 0 Try.isAgg3 rfl rfl rfl rfl) ?_
                          refine WL.val (wantT rfl g293) rfl rfl (Run.eql rfl rfl rfl) ?_
                          refine WL.val rfl rfl rfl (Run.pickT rfl rfl g293 rfl) ?_
                          exact WL.fin J294 hs292 rfl (andT g293) ⟨rfl, rfl, rfl, rfl, rfl, rfl, rfl, rfl, rfl, rfl, rfl, rfl, rfl, rfl, rfl, rfl, rfl, rfl, rfl, rfl, rfl, rfl, rfl, rfl, rfl, trivial⟩
                        · intro g293 J294
                          refine WL.skip (wantNT rfl g293) rfl rfl ?_
                          refine WL.skip (wantNT rfl g293) rfl rfl ?_
                          refine WL.skip (wantNT rfl g293) rfl rfl ?_
                          refine WL.val rfl rfl rfl (Run.pickF rfl rfl g293 rfl) ?_
                          exact WL.fin J294 hs292 rfl (andF g293) ⟨rfl, rfl, rfl, rfl, rfl, rfl, rfl, rfl, rfl, rfl, rfl, rfl, rfl, rfl, rfl, rfl, rfl, rfl, rfl, rfl, rfl, rfl, rfl, rfl, rfl, trivial⟩
                        · intro whs295 hs295
                          refine WL.val rfl rfl rfl (Run.move rfl rfl) ?_
                          apply WL.meetAnd 4 154 158 [(0, _), (1, _), (2, _), (3, _), (4, _), (6, _), (7, _), (8, _), (9, _), (10, _), (11, _), (28, _), (29, _), (52, _), (53, _), (54, _), (55, _), (56, _), (61, _), (62, _), (74, _), (75, _), (76, _), (77, _), (85, _)] rfl hs295
                          · intro g296 J297
                            refine WL.val (wantT rfl g296) rfl rfl (Run.field Try.runUnderlying27 rfl rfl rfl Try.sizeOf9 rfl) ?_
                            refine WL.val (wantT rfl g296) rfl rfl (Run.loadL hs295 0 Try.isAgg9 rfl rfl rfl rfl) ?_
                            refine WL.val (wantT rfl g296) rfl rfl (Run.eqlS rfl rfl rfl) ?_
                            refine WL.val rfl rfl rfl (Run.pickT rfl rfl g296 rfl) ?_
                            exact WL.fin J297 hs295 rfl (andT g296) ⟨rfl, rfl, rfl, rfl, rfl, rfl, rfl, rfl, rfl, rfl, rfl, rfl, rfl, rfl, rfl, rfl, rfl, rfl, rfl, rfl, rfl, rfl, rfl, rfl, rfl, trivial⟩
                          · intro g296 J297
                            refine WL.skip (wantNT rfl g296) rfl rfl ?_
                            refine WL.skip (wantNT rfl g296) rfl rfl ?_
                            refine WL.skip (wantNT rfl g296) rfl rfl ?_
                            refine WL.val rfl rfl rfl (Run.pickF rfl rfl g296 rfl) ?_
                            exact WL.fin J297 hs295 rfl (andF g296) ⟨rfl, rfl, rfl, rfl, rfl, rfl, rfl, rfl, rfl, rfl, rfl, rfl, rfl, rfl, rfl, rfl, rfl, rfl, rfl, rfl, rfl, rfl, rfl, rfl, rfl, trivial⟩
                          · intro whs298 hs298
                            refine WL.val rfl rfl rfl (Run.move rfl rfl) ?_
                            apply WL.meetAnd 4 159 163 [(0, _), (1, _), (2, _), (3, _), (4, _), (6, _), (7, _), (8, _), (9, _), (10, _), (11, _), (28, _), (29, _), (52, _), (53, _), (54, _), (55, _), (56, _), (61, _), (62, _), (74, _), (75, _), (76, _), (77, _), (85, _)] rfl hs298
                            · intro g299 J300
                              refine WL.val (wantT rfl g299) rfl rfl (Run.field Try.runUnderlying27 rfl rfl rfl Try.sizeOf9 rfl) ?_
                              refine WL.val (wantT rfl g299) rfl rfl (Run.loadL hs298 0 Try.isAgg9 rfl rfl rfl rfl) ?_
                              refine WL.val (wantT rfl g299) rfl rfl (Run.eqlS rfl rfl rfl) ?_
                              refine WL.val rfl rfl rfl (Run.pickT rfl rfl g299 rfl) ?_
                              exact WL.fin J300 hs298 rfl (andT g299) ⟨rfl, rfl, rfl, rfl, rfl, rfl, rfl, rfl, rfl, rfl, rfl, rfl, rfl, rfl, rfl, rfl, rfl, rfl, rfl, rfl, rfl, rfl, rfl, rfl, rfl, trivial⟩
                            · intro g299 J300
                              refine WL.skip (wantNT rfl g299) rfl rfl ?_
                              refine WL.skip (wantNT rfl g299) rfl rfl ?_
                              refine WL.skip (wantNT rfl g299) rfl rfl ?_
                              refine WL.val rfl rfl rfl (Run.pickF rfl rfl g299 rfl) ?_
                              exact WL.fin J300 hs298 rfl (andF g299) ⟨rfl, rfl, rfl, rfl, rfl, rfl, rfl, rfl, rfl, rfl, rfl, rfl, rfl, rfl, rfl, rfl, rfl, rfl, rfl, rfl, rfl, rfl, rfl, rfl, rfl, trivial⟩
                            · intro whs301 hs301
                              refine WL.val rfl rfl rfl (Run.move rfl rfl) ?_
                              apply WL.meetAnd 4 164 168 [(0, _), (1, _), (2, _), (3, _), (4, _), (6, _), (7, _), (8, _), (9, _), (10, _), (11, _), (28, _), (29, _), (52, _), (53, _), (54, _), (55, _), (56, _), (61, _), (62, _), (74, _), (75, _), (76, _), (77, _), (85, _)] rfl hs301
                              · intro g302 J303
                                refine WL.val (wantT rfl g302) rfl rfl (Run.field Try.runUnderlying27 rfl rfl rfl Try.sizeOf9 rfl) ?_
                                refine WL.val (wantT rfl g302) rfl rfl (Run.loadL hs301 0 Try.isAgg9 rfl rfl rfl rfl) ?_
                                refine WL.val (wantT rfl g302) rfl rfl (Run.eqlS rfl rfl rfl) ?_
                                refine WL.val rfl rfl rfl (Run.pickT rfl rfl g302 rfl) ?_
                                exact WL.fin J303 hs301 rfl (andT g302) ⟨rfl, rfl, rfl, rfl, rfl, rfl, rfl, rfl, rfl, rfl, rfl, rfl, rfl, rfl, rfl, rfl, rfl, rfl, rfl, rfl, rfl, rfl, rfl, rfl, rfl, trivial⟩
                              · intro g302 J303
                                refine WL.skip (wantNT rfl g302) rfl rfl ?_
                                refine WL.skip (wantNT rfl g302) rfl rfl ?_
                                refine WL.skip (wantNT rfl g302) rfl rfl ?_
                                refine WL.val rfl rfl rfl (Run.pickF rfl rfl g302 rfl) ?_
                                exact WL.fin J303 hs301 rfl (andF g302) ⟨rfl, rfl, rfl, rfl, rfl, rfl, rfl, rfl, rfl, rfl, rfl, rfl, rfl, rfl, rfl, rfl, rfl, rfl, rfl, rfl, rfl, rfl, rfl, rfl, rfl, trivial⟩
                              · intro whs304 hs304
                                refine WL.val rfl rfl rfl (Run.move rfl rfl) ?_
                                apply WL.meetAnd 5 169 174 [(0, _), (1, _), (2, _), (3, _), (4, _), (6, _), (7, _), (8, _), (9, _), (10, _), (11, _), (28, _), (29, _), (52, _), (53, _), (54, _), (55, _), (56, _), (61, _), (62, _), (74, _), (75, _), (76, _), (77, _), (85, _)] rfl hs304
                                · intro g305 J306
                                  refine WL.val (wantT rfl g305) rfl rfl (Run.field Try.runUnderlying27 rfl rfl rfl Try.sizeOf22 rfl) ?_
                                  refine WL.val (wantT rfl g305) rfl rfl (Run.loadL hs304 0 Try.isAgg22 rfl rfl rfl rfl) ?_
                                  refine WL.val (wantT rfl g305) rfl rfl (Run.lenSl Try.runUnderlying22 rfl rfl) ?_
                                  refine WL.val (wantT rfl g305) rfl rfl (Run.eql rfl rfl rfl) ?_
                                  refine WL.val rfl rfl rfl (Run.pickT rfl rfl g305 rfl) ?_
                                  exact WL.fin J306 hs304 rfl (andT g305) ⟨rfl, rfl, rfl, rfl, rfl, rfl, rfl, rfl, rfl, rfl, rfl, rfl, rfl, rfl, rfl, rfl, rfl, rfl, rfl, rfl, rfl, rfl, rfl, rfl, rfl, trivial⟩
                                · intro g305 J306
                                  refine WL.skip (wantNT rfl g305) rfl rfl ?_
                                  refine WL.skip (wantNT rfl g305) rfl rfl ?_
                                  refine WL.skip (wantNT rfl g305) rfl rfl ?_
                                  refine WL.skip (wantNT rfl g305) rfl rfl ?_
                                  refine WL.val rfl rfl rfl (Run.pickF rfl rfl g305 rfl) ?_
                                  exact WL.fin J306 hs304 rfl (andF g305) ⟨rfl, rfl, rfl, rfl, rfl, rfl, rfl, rfl, rfl, rfl, rfl, rfl, rfl, rfl, rfl, rfl, rfl, rfl, rfl, rfl, rfl, rfl, rfl, rfl, rfl, trivial⟩
                                · intro whs307 hs307
                                  refine WL.val rfl rfl rfl (Run.assign rfl rfl) ?_
                                  refine WL.nil ?_
                                  refine tkN ?_
                                  refine hK289 _ _ ?_
                                  clear hK289
                                  refine WC.seq (fun K308 hK308 => ?_)
                                  refine WC.region ?_
                                  refine WL.val rfl rfl rfl (Run.move rfl rfl) ?_
                                  refine WL.val rfl rfl rfl (Run.move rfl rfl) ?_
                                  apply WL.meetAnd 2 176 178 [(0, _), (1, _), (2, _), (3, _), (4, _), (5, _), (6, _), (7, _), (8, _), (9, _), (10, _), (11, _), (28, _), (29, _), (52, _), (53, _), (54, _), (55, _), (56, _), (61, _), (62, _), (74, _), (75, _), (76, _), (77, _), (85, _), (174, _)] rfl hs307
                                  · intro g309 J310
                                    refine WL.val (wantT rfl g309) rfl rfl (Run.move rfl rfl) ?_
                                    refine WL.val rfl rfl rfl (Run.pickT rfl rfl g309 rfl) ?_
                                    exact WL.fin J310 hs307 rfl (andT g309) ⟨rfl, rfl, rfl, rfl, rfl, rfl, rfl, rfl, rfl, rfl, rfl, rfl, rfl, rfl, rfl, rfl, rfl, rfl, rfl, rfl, rfl, rfl, rfl, rfl, rfl, rfl, rfl, trivial⟩
                                  · intro g309 J310
                                    refine WL.skip (wantNT rfl g309) rfl rfl ?_
                                    refine WL.val rfl rfl rfl (Run.pickF rfl rfl g309 rfl) ?_
                                    exact WL.fin J310 hs307 rfl (andF g309) ⟨rfl, rfl, rfl, rfl, rfl, rfl, rfl, rfl, rfl, rfl, rfl, rfl, rfl, rfl, rfl, rfl, rfl, rfl, rfl, rfl, rfl, rfl, rfl, rfl, rfl, rfl, rfl, trivial⟩
                                  · intro whs311 hs311
                                    refine WL.val rfl rfl rfl (Run.assign rfl rfl) ?_
                                    refine WL.nil ?_
                                    refine tkN ?_
                                    refine hK308 _ _ ?_
                                    clear hK308
                                    refine WC.ret ?_
                                    refine retV1 rfl (resV.tmp rfl) ?_
                                    refine ⟨congrArg Ending.returned ?_, hs311.nil⟩
                                    simp_all [opOk, noText]
                  · have qh280 := h280
                    try simp only [decide_eq_true_eq, decide_eq_false_iff_not, Bool.not_eq_true', Bool.not_eq_false', Bool.and_eq_true, Bool.or_eq_false_iff, within_iff, within_not] at qh280
                    refine WC.seq (fun K312 hK312 => ?_)
                    refine WC.seq (fun K313 hK313 => ?_)
                    refine WC.region ?_
                    refine WL.val rfl rfl rfl (Run.eql rfl rfl rfl) ?_
                    refine WL.val rfl rfl rfl (Run.assign rfl rfl) ?_
                    refine WL.nil ?_
                    refine tkN ?_
                    refine hK313 _ _ ?_
                    clear hK313
                    refine WC.cond rfl (fun h314 => ?_) (fun h314 => ?_)
                    · have qh314 := h314
                      try simp only [decide_eq_true_eq, decide_eq_false_iff_not, Bool.not_eq_true', Bool.not_eq_false', Bool.and_eq_true, Bool.or_eq_false_iff, within_iff, within_not] at qh314
                      refine WC.skip ?_
                      refine tkN ?_
                      refine hK312 _ _ ?_
                      clear hK312
                      refine WC.condT rfl h314 ?_
                      refine WC.seq (fun K316 hK316 => ?_)
                      refine WC.region ?_
                      refine WL.val rfl rfl rfl (Run.field Try.runUnderlying27 rfl rfl rfl Try.sizeOf3 rfl) ?_
                      refine WL.store hs8 0 Try.sizeOf3 rfl rfl rfl rfl rfl rfl rfl rfl rfl rfl (fun whs317 hs317 => ?_)
                      refine WL.val rfl rfl rfl (Run.field Try.runUnderlying27 rfl rfl rfl Try.sizeOf3 rfl) ?_
                      refine WL.store hs317 0 Try.sizeOf3 rfl rfl rfl rfl rfl rfl rfl rfl rfl rfl (fun whs318 hs318 => ?_)
                      refine WL.nil ?_
                      refine tkN ?_
                      refine hK316 _ _ ?_
                      clear hK316
                      refine WC.region ?_
                      refine WL.val rfl rfl rfl (Run.field Try.runUnderlying27 rfl rfl rfl Try.sizeOf3 rfl) ?_
                      refine WL.val rfl rfl rfl (Run.loadL hs318 1 Try.isAgg3 rfl rfl rfl rfl) ?_
                      refine WL.call rfl rfl rfl (Run.call Try.call50 rfl rfl rfl) (c_impl_isId _ _) ?_
                      rintro _ whs319 ⟨rfl, hs319⟩
                      replace hs319 := hs318.call0 hs319
                      refine ⟨_, rfl, ?_⟩
                      refine WL.val rfl rfl rfl (Run.move rfl rfl) ?_
                      apply WL.meetAnd 4 94 98 [(0, _), (1, _), (2, _), (3, _), (4, _), (6, _), (7, _), (8, _), (9, _), (10, _), (11, _), (28, _), (29, _), (52, _), (53, _), (54, _), (55, _), (56, _), (61, _), (62, _), (74, _), (75, _), (86, _), (87, _), (89, _), (90, _)] rfl hs319
                      · intro g320 J321
                        refine WL.val (wantT rfl g320) rfl rfl (Run.field Try.runUnderlying27 rfl rfl rfl Try.sizeOf3 rfl) ?_
                        refine WL.val (wantT rfl g320) rfl rfl (Run.loadL hs319 1 Try.isAgg3 rfl rfl rfl rfl) ?_
                        refine WL.call (wantT rfl g320) rfl rfl (Run.call Try.call50 rfl rfl rfl) (c_impl_isId _ _) ?_
                        rintro _ whs322 ⟨rfl, hs322⟩
                        replace hs322 := hs319.call0 hs322
                        refine ⟨_, rfl, ?_⟩
                        refine WL.val rfl rfl rfl (Run.pickT rfl rfl g320 rfl) ?_
                        exact WL.fin J321 hs322 rfl (andT g320) ⟨rfl, rfl, rfl, rfl, rfl, rfl, rfl, rfl, rfl, rfl, rfl, rfl, rfl, rfl, rfl, rfl, rfl, rfl, rfl, rfl, rfl, rfl, rfl, rfl, rfl, rfl, trivial⟩
                      · intro g320 J321
                        refine WL.skip (wantNT rfl g320) rfl rfl ?_
                        refine WL.skip (wantNT rfl g320) rfl rfl ?_
                        refine WL.skip (wantNT rfl g320) rfl rfl ?_
                        refine WL.val rfl rfl rfl (Run.pickF rfl rfl g320 rfl) ?_
                        exact WL.fin J321 hs319 rfl (andF g320) ⟨rfl, rfl, rfl, rfl, rfl, rfl, rfl, rfl, rfl, rfl, rfl, rfl, rfl, rfl, rfl, rfl, rfl, rfl, rfl, rfl, rfl, rfl, rfl, rfl, rfl, rfl, trivial⟩
                      · intro whs323 hs323
                        refine WL.val rfl rfl rfl (Run.assign rfl rfl) ?_
                        refine WL.nil ?_
                        refine ibN ?_
                        refine tkN ?_
                        refine hK9 _ _ ?_
                        clear hK9
                        refine WC.seq (fun K324 hK324 => ?_)
                        refine WC.region ?_
                        refine WL.val rfl rfl rfl (Run.field Try.runUnderlying27 rfl rfl rfl Try.sizeOf3 rfl) ?_
                        refine WL.val rfl rfl rfl (Run.loadL hs323 0 Try.isAgg3 rfl rfl rfl rfl) ?_
                        refine WL.val rfl rfl rfl (Run.eql rfl rfl rfl) ?_
                        refine WL.val rfl rfl rfl (Run.move rfl rfl) ?_
                        apply WL.meetAnd 4 144 148 [(0, _), (1, _), (2, _), (3, _), (4, _), (6, _), (7, _), (8, _), (9, _), (10, _), (11, _), (28, _), (29, _), (52, _), (53, _), (54, _), (55, _), (56, _), (61, _), (62, _), (74, _), (75, _), (86, _), (87, _), (89, _), (90, _), (98, _)] rfl hs323
                        · intro g325 J326
                          refine WL.val (wantT rfl g325) rfl rfl (Run.field Try.runUnderlying27 rfl rfl rfl Try.sizeOf3 rfl) ?_
                          refine WL.val (wantT rfl g325) rfl rfl (Run.loadL hs323 0 Try.isAgg3 rfl rfl rfl rfl) ?_
                          refine WL.val (wantT rfl g325) rfl rfl (Run.eql rfl rfl rfl) ?_
                          refine WL.val rfl rfl rfl (Run.pickT rfl rfl g325 rfl) ?_
                          exact WL.fin J326 hs323 rfl (andT g325) ⟨rfl, rfl, rfl, rfl, rfl, rfl, rfl, rfl, rfl, rfl, rfl, rfl, rfl, rfl, rfl, rfl, rfl, rfl, rfl, rfl, rfl, rfl, rfl, rfl, rfl, rfl, rfl, trivial⟩
                        · intro g325 J326
                          refine WL.skip (wantNT rfl g325) rfl rfl ?_
                          refine WL.skip (wantNT rfl g325) rfl rfl ?_
                          refine WL.skip (wantNT rfl g325) rfl rfl ?_
                          refine WL.val rfl rfl rfl (Run.pickF rfl rfl g325 rfl) ?_
                          exact WL.fin J326 hs323 rfl (andF g325) ⟨rfl, rfl, rfl, rfl, rfl, rfl, rfl, rfl, rfl, rfl, rfl, rfl, rfl, rfl, rfl, rfl, rfl, rfl, rfl, rfl, rfl, rfl, rfl, rfl, rfl, rfl, rfl, trivial⟩
                        · intro whs327 hs327
                          refine WL.val rfl rfl rfl (Run.move rfl rfl) ?_
                          apply WL.meetAnd 4 149 153 [(0, _), (1, _), (2, _), (3, _), (4, _), (6, _), (7, _), (8, _), (9, _), (10, _), (11, _), (28, _), (29, _), (52, _), (53, _), (54, _), (55, _), (56, _), (61, _), (62, _), (74, _), (75, _), (86, _), (87, _), (89, _), (90, _), (98, _)] rfl hs327
                          · intro g328 J329
                            refine WL.val (wantT rfl g328) rfl rfl (Run.field Try.runUnderlying27 rfl rfl rfl Try.sizeOf3 rfl) ?_
                            refine WL.val (wantT rfl g328) rfl rfl (Run.loadL hs327 0 Try.isAgg3 rfl rfl rfl rfl) ?_
                            refine WL.val (wantT rfl g328) rfl rfl (Run.eql rfl rfl rfl) ?_
                            refine WL.val rfl rfl rfl (Run.pickT rfl rfl g328 rfl) ?_
                            exact WL.fin J329 hs327 rfl (andT g328) ⟨rfl, rfl, rfl, rfl, rfl, rfl, rfl, rfl, rfl, rfl, rfl, rfl, rfl, rfl, rfl, rfl, rfl, rfl, rfl, rfl, rfl, rfl, rfl, rfl, rfl, rfl, rfl, trivial⟩
                          · intro g328 J329
                            refine WL.skip (wantNT rfl g328) rfl rfl ?_
                            refine WL.skip (wantNT rfl g328) rfl rfl ?_
                            refine WL.skip (wantNT rfl g328) rfl rfl ?_
                            refine WL.val rfl rfl rfl (Run.pickF rfl rfl g328 rfl) ?_
                            exact WL.fin J329 hs327 rfl (andF g328) ⟨rfl, rfl, rfl, rfl, rfl, rfl, rfl, rfl, rfl, rfl, rfl, rfl, rfl, rfl, rfl, rfl, rfl, rfl, rfl, rfl, rfl, rfl, rfl, rfl, rfl, rfl, rfl, trivial⟩
                          · intro whs330 hs330
                            refine WL.val rfl rfl rfl (Run.move rfl rfl) ?_
                            apply WL.meetAnd 4 154 158 [(0, _), (1, _), (2, _), (3, _), (4, _), (6, _), (7, _), (8, _), (9, _), (10, _), (11, _), (28, _), (29, _), (52, _), (53, _), (54, _), (55, _), (56, _), (61, _), (62, _), (74, _), (75, _), (86, _), (87, _), (89, _), (90, _), (98, _)] rfl hs330
                            · intro g331 J332
                              refine WL.val (wantT rfl g331) rfl rfl (Run.field Try.runUnderlying27 rfl rfl rfl Try.sizeOf9 rfl) ?_
                              refine WL.val (wantT rfl g331) rfl rfl (Run.loadL hs330 0 Try.isAgg9 rfl rfl rfl rfl) ?_
                              refine WL.val (wantT rfl g331) rfl rfl (Run.eqlS rfl rfl rfl) ?_
                              refine WL.val rfl rfl rfl (Run.pickT rfl rfl g331 rfl) ?_
                              exact WL.fin J332 hs330 rfl (andT g331) ⟨rfl, rfl, rfl, rfl, rfl, rfl, rfl, rfl, rfl, rfl, rfl, rfl, rfl, rfl, rfl, rfl, rfl, rfl, rfl, rfl, rfl, rfl, rfl, rfl, rfl, rfl, rfl, trivial⟩
                            · intro g331 J332
                              refine WL.skip (wantNT rfl g331) rfl rfl ?_
                              refine WL.skip (wantNT rfl g331) rfl rfl ?_
                              refine WL.skip (wantNT rfl g331) rfl rfl ?_
                              refine WL.val rfl rfl rfl (Run.pickF rfl rfl g331 rfl) ?_
                              exact WL.fin J332 hs330 rfl (andF g331) ⟨rfl, rfl, rfl, rfl, rfl, rfl, rfl, rfl, rfl, rfl, rfl, rfl, rfl, rfl, rfl, rfl, rfl, rfl, rfl, rfl, rfl, rfl, rfl, rfl, rfl, rfl, rfl, trivial⟩
                            · intro whs333 hs333
                              refine WL.val rfl rfl rfl (Run.move rfl rfl) ?_
                              apply WL.meetAnd 4 159 163 [(0, _), (1, _), (2, _), (3, _), (4, _), (6, _), (7, _), (8, _), (9, _), (10, _), (11, _), (28, _), (29, _), (52, _), (53, _), (54, _), (55, _), (56, _), (61, _), (62, _), (74, _), (75, _), (86, _), (87, _), (89, _), (90, _), (98, _)] rfl hs333
                              · intro g334 J335
                                refine WL.val (wantT rfl g334) rfl rfl (Run.field Try.runUnderlying27 rfl rfl rfl Try.sizeOf9 rfl) ?_
                                refine WL.val (wantT rfl g334) rfl rfl (Run.loadL hs333 0 Try.isAgg9 rfl rfl rfl rfl) ?_
                                refine WL.val (wantT rfl g334) rfl rfl (Run.eqlS rfl rfl rfl) ?_
                                refine WL.val rfl rfl rfl (Run.pickT rfl rfl g334 rfl) ?_
                                exact WL.fin J335 hs333 rfl (andT g334) ⟨rfl, rfl, rfl, rfl, rfl, rfl, rfl, rfl, rfl, rfl, rfl, rfl, rfl, rfl, rfl, rfl, rfl, rfl, rfl, rfl, rfl, rfl, rfl, rfl, rfl, rfl, rfl, trivial⟩
                              · intro g334 J335
                                refine WL.skip (wantNT rfl g334) rfl rfl ?_
                                refine WL.skip (wantNT rfl g334) rfl rfl ?_
                                refine WL.skip (wantNT rfl g334) rfl rfl ?_
                                refine WL.val rfl rfl rfl (Run.pickF rfl rfl g334 rfl) ?_
                                exact WL.fin J335 hs333 rfl (andF g334) ⟨rfl, rfl, rfl, rfl, rfl, rfl, rfl, rfl, rfl, rfl, rfl, rfl, rfl, rfl, rfl, rfl, rfl, rfl, rfl, rfl, rfl, rfl, rfl, rfl, rfl, rfl, rfl, trivial⟩
                              · intro whs336 hs336
                                refine WL.val rfl rfl rfl (Run.move rfl rfl) ?_
                                apply WL.meetAnd 4 164 168 [(0, _), (1, _), (2, _), (3, _), (4, _), (6, _), (7, _), (8, _), (9, _), (10, _), (11, _), (28, _), (29, _), (52, _), (53, _), (54, _), (55, _), (56, _), (61, _), (62, _), (74, _), (75, _), (86, _), (87, _), (89, _), (90, _), (98, _)] rfl hs336
                                · intro g337 J338
                                  refine WL.val (wantT rfl g337) rfl rfl (Run.field Try.runUnderlying27 rfl rfl rfl Try.sizeOf9 rfl) ?_
                                  refine WL.val (wantT rfl g337) rfl rfl (Run.loadL hs336 0 Try.isAgg9 rfl rfl rfl rfl) ?_
                                  refine WL.val (wantT rfl g337) rfl rfl (Run.eqlS rfl rfl rfl) ?_
                                  refine WL.val rfl rfl rfl (Run.pickT rfl rfl g337 rfl) ?_
                                  exact WL.fin J338 hs336 rfl (andT g337) ⟨rfl, rfl, rfl, rfl, rfl, rfl, rfl, rfl, rfl, rfl, rfl, rfl, rfl, rfl, rfl, rfl, rfl, rfl, rfl, rfl, rfl, rfl, rfl, rfl, rfl, rfl, rfl, trivial⟩
                                · intro g337 J338
                                  refine WL.skip (wantNT rfl g337) rfl rfl ?_
                                  refine WL.skip (wantNT rfl g337) rfl rfl ?_
                                  refine WL.skip (wantNT rfl g337) rfl rfl ?_
                                  refine WL.val rfl rfl rfl (Run.pickF rfl rfl g337 rfl) ?_
                                  exact WL.fin J338 hs336 rfl (andF g337) ⟨rfl, rfl, rfl, rfl, rfl, rfl, rfl, rfl, rfl, rfl, rfl, rfl, rfl, rfl, rfl, rfl, rfl, rfl, rfl, rfl, rfl, rfl, rfl, rfl, rfl, rfl, rfl, trivial⟩
                                · intro whs339 hs339
                                  refine WL.val rfl rfl rfl (Run.move rfl rfl) ?_
                                  apply WL.meetAnd 5 169 174 [(0, _), (1, _), (2, _), (3, _), (4, _), (6, _), (7, _), (8, _), (9, _), (10, _), (11, _), (28, _), (29, _), (52, _), (53, _), (54, _), (55, _), (56, _), (61, _), (62, _), (74, _), (75, _), (86, _), (87, _), (89, _), (90, _), (98, _)] rfl hs339
                                  · intro g340 J341
                                    refine WL.val (wantT rfl g340) rfl rfl (Run.field Try.runUnderlying27 rfl rfl rfl Try.sizeOf22 rfl) ?_
                                    refine WL.val (wantT rfl g340) rfl rfl (Run.loadL hs339 0 Try.isAgg22 rfl rfl rfl rfl) ?_
                                    refine WL.val (wantT rfl g340) rfl rfl (Run.lenSl Try.runUnderlying22 rfl rfl) ?_
                                    refine WL.val (wantT rfl g340) rfl rfl (Run.eql rfl rfl rfl) ?_
                                    refine WL.val rfl rfl rfl (Run.pickT rfl rfl g340 rfl) ?_
                                    exact WL.fin J341 hs339 rfl (andT g340) ⟨rfl, rfl, rfl, rfl, rfl, rfl, rfl, rfl, rfl, rfl, rfl, rfl, rfl, rfl, rfl, rfl, rfl, rfl, rfl, rfl, rfl, rfl, rfl, rfl, rfl, rfl, rfl, trivial⟩
                                  · intro g340 J341
                                    refine WL.skip (wantNT rfl g340) rfl rfl ?_
                                    refine WL.skip (wantNT rfl g340) rfl rfl ?_
                                    refine WL.skip (wantNT rfl g340) rfl rfl ?_
                                    refine WL.skip (wantNT rfl g340) rfl rfl ?_
                                    refine WL.val rfl rfl rfl (Run.pickF rfl rfl g340 rfl) ?_
                                    exact WL.fin J341 hs339 rfl (andF g340) ⟨rfl, rfl, rfl, rfl, rfl, rfl, rfl, rfl, rfl, rfl, rfl, rfl, rfl, rfl, rfl, rfl, rfl, rfl, rfl, rfl, rfl, rfl, rfl, rfl, rfl, rfl, rfl, trivial⟩
                                  · intro whs342 hs342
                                    refine WL.val rfl rfl rfl (Run.assign rfl rfl) ?_
                                    refine WL.nil ?_
                                    refine tkN ?_
                                    refine hK324 _ _ ?_
                                    clear hK324
                                    refine WC.seq (fun K343 hK343 => ?_)
                                    refine WC.region ?_
                                    refine WL.val rfl rfl rfl (Run.move rfl rfl) ?_
                                    refine WL.val rfl rfl rfl (Run.move rfl rfl) ?_
                                    apply WL.meetAnd 2 176 178 [(0, _), (1, _), (2, _), (3, _), (4, _), (5, _), (6, _), (7, _), (8, _), (9, _), (10, _), (11, _), (28, _), (29, _), (52, _), (53, _), (54, _), (55, _), (56, _), (61, _), (62, _), (74, _), (75, _), (86, _), (87, _), (89, _), (90, _), (98, _), (174, _)] rfl hs342
                                    · intro g344 J345
                                      refine WL.val (wantT rfl g344) rfl rfl (Run.move rfl rfl) ?_
                                      refine WL.val rfl rfl rfl (Run.pickT rfl rfl g344 rfl) ?_
                                      exact WL.fin J345 hs342 rfl (andT g344) ⟨rfl, rfl, rfl, rfl, rfl, rfl, rfl, rfl, rfl, rfl, rfl, rfl, rfl, rfl, rfl, rfl, rfl, rfl, rfl, rfl, rfl, rfl, rfl, rfl, rfl, rfl, rfl, rfl, rfl, trivial⟩
                                    · intro g344 J345
                                      refine WL.skip (wantNT rfl g344) rfl rfl ?_
                                      refine WL.val rfl rfl rfl (Run.pickF rfl rfl g344 rfl) ?_
                                      exact WL.fin J345 hs342 rfl (andF g344) ⟨rfl, rfl, rfl, rfl, rfl, rfl, rfl, rfl, rfl, rfl, rfl, rfl, rfl, rfl, rfl, rfl, rfl, rfl, rfl, rfl, rfl, rfl, rfl, rfl, rfl, rfl, rfl, rfl, rfl, trivial⟩
                                    · intro whs346 hs346
                                      refine WL.val rfl rfl rfl (Run.assign rfl rfl) ?_
                                      refine WL.nil ?_
                                      refine tkN ?_
                                      refine hK343 _ _ ?_
                                      clear hK343
                                      refine WC.ret ?_
                                      refine retV1 rfl (resV.tmp rfl) ?_
                                      refine ⟨congrArg Ending.returned ?_, hs346.nil⟩
                                      simp_all [opOk, noText]
                    · have qh314 := h314
                      try simp only [decide_eq_true_eq, decide_eq_false_iff_not, Bool.not_eq_true', Bool.not_eq_false', Bool.and_eq_true, Bool.or_eq_false_iff, within_iff, within_not] at qh314
                      refine WC.region ?_
                      refine WL.val rfl rfl rfl (Run.eql rfl rfl rfl) ?_
                      refine WL.val rfl rfl rfl (Run.assign rfl rfl) ?_
                      refine WL.nil ?_
                      refine tkN ?_
                      refine hK312 _ _ ?_
                      clear hK312
                      refine WC.cond rfl (fun h347 => ?_) (fun h347 => ?_)
                      · have qh347 := h347
                        try simp only [decide_eq_true_eq, decide_eq_false_iff_not, Bool.not_eq_true', Bool.not_eq_false', Bool.and_eq_true, Bool.or_eq_false_iff, within_iff, within_not] at qh347
                        refine WC.seq (fun K348 hK348 => ?_)
                        refine WC.region ?_
                        refine WL.val rfl rfl rfl (Run.field Try.runUnderlying27 rfl rfl rfl Try.sizeOf3 rfl) ?_
                        refine WL.store hs8 0 Try.sizeOf3 rfl rfl rfl rfl rfl rfl rfl rfl rfl rfl (fun whs349 hs349 => ?_)
                        refine WL.val rfl rfl rfl (Run.field Try.runUnderlying27 rfl rfl rfl Try.sizeOf3 rfl) ?_
                        refine WL.store hs349 0 Try.sizeOf3 rfl rfl rfl rfl rfl rfl rfl rfl rfl rfl (fun whs350 hs350 => ?_)
                        refine WL.nil ?_
                        refine tkN ?_
                        refine hK348 _ _ ?_
                        clear hK348
                        refine WC.region ?_
                        refine WL.val rfl rfl rfl (Run.field Try.runUnderlying27 rfl rfl rfl Try.sizeOf3 rfl) ?_
                        refine WL.val rfl rfl rfl (Run.loadL hs350 1 Try.isAgg3 rfl rfl rfl rfl) ?_
                        refine WL.call rfl rfl rfl (Run.call Try.call50 rfl rfl rfl) (c_impl_isId _ _) ?_
                        rintro _ whs351 ⟨rfl, hs351⟩
                        replace hs351 := hs350.call0 hs351
                        refine ⟨_, rfl, ?_⟩
                        refine WL.val rfl rfl rfl (Run.move rfl rfl) ?_
                        apply WL.meetAnd 4 94 98 [(0, _), (1, _), (2, _), (3, _), (4, _), (6, _), (7, _), (8, _), (9, _), (10, _), (11, _), (28, _), (29, _), (52, _), (53, _), (54, _), (55, _), (56, _), (61, _), (62, _), (74, _), (75, _), (86, _), (87, _), (88, _), (89, _), (90, _)] rfl hs351
                        · intro g352 J353
                          refine WL.val (wantT rfl g352) rfl rfl (Run.field Try.runUnderlying27 rfl rfl rfl Try.sizeOf3 rfl) ?_
                          refine WL.val (wantT rfl g352) rfl rfl (Run.loadL hs351 1 Try.isAgg3 rfl rfl rfl rfl) ?_
                          refine WL.call (wantT rfl g352) rfl rfl (Run.call Try.call50 rfl rfl rfl) (c_impl_isId _ _) ?_
                          rintro _ whs354 ⟨rfl, hs354⟩
                          replace hs354 := hs351.call0 hs354
                          refine ⟨_, rfl, ?_⟩
                          refine WL.val rfl rfl rfl (Run.pickT rfl rfl g352 rfl) ?_
                          exact WL.fin J353 hs354 rfl (andT g352) ⟨rfl, rfl, rfl, rfl, rfl, rfl, rfl, rfl, rfl, rfl, rfl, rfl, rfl, rfl, rfl, rfl, rfl, rfl, rfl, rfl, rfl, rfl, rfl, rfl, rfl, rfl, rfl, trivial⟩
                        · intro g352 J353
                          refine WL.skip (wantNT rfl g352) rfl rfl ?_
                          refine WL.skip (wantNT rfl g352) rfl rfl ?_
                          refine WL.skip (wantNT rfl g352) rfl rfl ?_
                          refine WL.val rfl rfl rfl (Run.pickF rfl rfl g352 rfl) ?_
                          exact WL.fin J353 hs351 rfl (andF g352) ⟨rfl, rfl, rfl, rfl, rfl, rfl, rfl, rfl, rfl, rfl, rfl, rfl, rfl, rfl, rfl, rfl, rfl, rfl, rfl, rfl, rfl, rfl, rfl, rfl, rfl, rfl, rfl, trivial⟩
                        · intro whs355 hs355
                          refine WL.val rfl rfl rfl (Run.assign rfl rfl) ?_
                          refine WL.nil ?_
                          refine ibN ?_
                          refine tkN ?_
                          refine hK9 _ _ ?_
                          clear hK9
                          refine WC.seq (fun K356 hK356 => ?_)
                          refine WC.region ?_
                          refine WL.val rfl rfl rfl (Run.field Try.runUnderlying27 rfl rfl rfl Try.sizeOf3 rfl) ?_
                          refine WL.val rfl rfl rfl (Run.loadL hs355 0 Try.isAgg3 rfl rfl rfl rfl) ?_
                          refine WL.val rfl rfl rfl (Run.eql rfl rfl rfl) ?_
                          refine WL.val rfl rfl rfl (Run.move rfl rfl) ?_
                          apply WL.meetAnd 4 144 148 [(0, _), (1, _), (2, _), (3, _), (4, _), (6, _), (7, _), (8, _), (9, _), (10, _), (11, _), (28, _), (29, _), (52, _), (53, _), (54, _), (55, _), (56, _), (61, _), (62, _), (74, _), (75, _), (86, _), (87, _), (88, _), (89, _), (90, _), (98, _)] rfl hs355
                          · intro g357 J358
                            refine WL.val (wantT rfl g357) rfl rfl (Run.field Try.runUnderlying27 rfl rfl rfl Try.sizeOf3 rfl) ?_
                            refine WL.val (wantT rfl g357) rfl rfl (Run.loadL hs355 0 Try.isAgg3 rfl rfl rfl rfl) ?_
                            refine WL.val (wantT rfl g357) rfl rfl (Run.eql rfl rfl rfl) ?_
                            refine WL.val rfl rfl rfl (Run.pickT rfl rfl g357 rfl) ?_
                            exact WL.fin J358 hs355 rfl (andT g357) ⟨rfl, rfl, rfl, rfl, rfl, rfl, rfl, rfl, rfl, rfl, rfl, rfl, rfl, rfl, rfl, rfl, rfl, rfl, rfl, rfl, rfl, rfl, rfl, rfl, rfl, rfl, rfl, rfl, trivial⟩
                          · intro g357 J358
                            refine WL.skip (wantNT rfl g357) rfl rfl ?_
                            refine WL.skip (wantNT rfl g357) rfl rfl ?_
                            refine WL.skip (wantNT rfl g357) rfl rfl ?_
                            refine WL.val rfl rfl rfl (Run.pickF rfl rfl g357 rfl) ?_
                            exact WL.fin J358 hs355 rfl (andF g357) ⟨rfl, rfl, rfl, rfl, rfl, rfl, rfl, rfl, rfl, rfl, rfl, rfl, rfl, rfl, rfl, rfl, rfl, rfl, rfl, rfl, rfl, rfl, rfl, rfl, rfl, rfl, rfl, rfl, trivial⟩
                          · intro whs359 hs359
                            refine WL.val rfl rfl rfl (Run.move rfl rfl) ?_
                            apply WL.meetAnd 4 149 153 [(0, _), (1, _), (2, _), (3, _), (4, _), (6, _), (7, _), (8, _), (9, _), (10, _), (11, _), (28, _), (29, _), (52, _), (53, _), (54, _), (55, _), (56, _), (61, _), (62, _), (74, _), (75, _), (86, _), (87, _), (88, _), (89, _), (90, _), (98, _)] rfl hs359
                            · intro g360 J361
                              refine WL.val (wantT rfl g360) rfl rfl (Run.field Try.runUnderlying27 rfl rfl rfl Try.sizeOf3 rfl) ?_
                              refine WL.val (wantT rfl g360) rfl rfl (Run.loadL hs359 0 Try.isAgg3 rfl rfl rfl rfl) ?_
                              refine WL.val (wantT rfl g360) rfl rfl (Run.eql rfl rfl rfl) ?_
                              refine WL.val rfl rfl rfl (Run.pickT rfl rfl g360 rfl) ?_
                              exact WL.fin J361 hs359 rfl (andT g360) ⟨rfl, rfl, rfl, rfl, rfl, rfl, rfl, rfl, rfl, rfl, rfl, rfl, rfl, rfl, rfl, rfl, rfl, rfl, rfl, rfl, rfl, rfl, rfl, rfl, rfl, rfl, rfl, rfl, trivial⟩
                            · intro g360 J361
                              refine WL.skip (wantNT rfl g360) rfl rfl ?_
                              refine WL.skip (wantNT rfl g360) rfl rfl ?_
                              refine WL.skip (wantNT rfl g360) rfl rfl ?_
                              refine WL.val rfl rfl rfl (Run.pickF rfl rfl g360 rfl) ?_
                              exact WL.fin J361 hs359 rfl (andF g360) ⟨rfl, rfl, rfl, rfl, rfl, rfl, rfl, rfl, rfl, rfl, rfl, rfl, rfl, rfl, rfl, rfl, rfl, rfl, rfl, rfl, rfl, rfl, rfl, rfl, rfl, rfl, rfl, rfl, trivial⟩
                            · intro whs362 hs362
                              refine WL.val rfl rfl rfl (Run.move rfl rfl) ?_
                              apply WL.meetAnd 4 154 158 [(0, _), (1, _), (2, _), (3, _), (4, _), (6, _), (7, _), (8, _), (9, _), (10, _), (11, _), (28, _), (29, _), (52, _), (53, _), (54, _), (55, _), (56, _), (61, _), (62, _), (74, _), (75, _), (86, _), (87, _), (88, _), (89, _), (90, _), (98, _)] rfl hs362
                              · intro g363 J364
                                refine WL.val (wantT rfl g363) rfl rfl (Run.field Try.runUnderlying27 rfl rfl rfl Try.sizeOf9 rfl) ?_
                                refine WL.val (wantT rfl g363) rfl rfl (Run.loadL hs362 0 Try.isAgg9 rfl rfl rfl rfl) ?_
                                refine WL.val (wantT rfl g363) rfl rfl (Run.eqlS rfl rfl rfl) ?_
                                refine WL.val rfl rfl rfl (Run.pickT rfl rfl g363 rfl) ?_
                                exact WL.fin J364 hs362 rfl (andT g363) ⟨rfl, rfl, rfl, rfl, rfl, rfl, rfl, rfl, rfl, rfl, rfl, rfl, rfl, rfl, rfl, rfl, rfl, rfl, rfl, rfl, rfl, rfl, rfl, rfl, rfl, rfl, rfl, rfl, trivial⟩
                              · intro g363 J364
                                refine WL.skip (wantNT rfl g363) rfl rfl ?_
                                refine WL.skip (wantNT rfl g363) rfl rfl ?_
                                refine WL.skip (wantNT rfl g363) rfl rfl ?_
                                refine WL.val rfl rfl rfl (Run.pickF rfl rfl g363 rfl) ?_
                                exact WL.fin J364 hs362 rfl (andF g363) ⟨rfl, rfl, rfl, rfl, rfl, rfl, rfl, rfl, rfl, rfl, rfl, rfl, rfl, rfl, rfl, rfl, rfl, rfl, rfl, rfl, rfl, rfl, rfl, rfl, rfl, rfl, rfl, rfl, trivial⟩
                              · intro whs365 hs365
                                refine WL.val rfl rfl rfl (Run.move rfl rfl) ?_
                                apply WL.meetAnd 4 159 163 [(0, _), (1, _), (2, _), (3, _), (4, _), (6, _), (7, _), (8, _), (9, _), (10, _), (11, _), (28, _), (29, _), (52, _), (53, _), (54, _), (55, _), (56, _), (61, _), (62, _), (74, _), (75, _), (86, _), (87, _), (88, _), (89, _), (90, _), (98, _)] rfl hs365
                                · intro g366 J367
                                  refine WL.val (wantT rfl g366) rfl rfl (Run.field Try.runUnderlying27 rfl rfl rfl Try.sizeOf9 rfl) ?_
                                  refine WL.val (wantT rfl g366) rfl rfl (Run.loadL hs365 0 Try.isAgg9 rfl rfl rfl rfl) ?_
                                  refine WL.val (wantT rfl g366) rfl rfl (Run.eqlS rfl rfl rfl) ?_
                                  refine WL.val rfl rfl rfl (Run.pickT rfl rfl g366 rfl) ?_
                                  exact WL.fin J367 hs365 rfl (andT g366) ⟨rfl, rfl, rfl, rfl, rfl, rfl, rfl, rfl, rfl, rfl, rfl, rfl, rfl, rfl, rfl, rfl, rfl, rfl, rfl, rfl, rfl, rfl, rfl, rfl, rfl, rfl, rfl, rfl, trivial⟩
                                · intro g366 J367
                                  refine WL.skip (wantNT rfl g366) rfl rfl ?_
                                  refine WL.skip (wantNT rfl g366) rfl rfl ?_
                                  refine WL.skip (wantNT rfl g366) rfl rfl ?_
                                  refine WL.val rfl rfl rfl (Run.pickF rfl rfl g366 rfl) ?_
                                  exact WL.fin J367 hs365 rfl (andF g366) ⟨rfl, rfl, rfl, rfl, rfl, rfl, rfl, rfl, rfl, rfl, rfl, rfl, rfl, rfl, rfl, rfl, rfl, rfl, rfl, rfl, rfl, rfl, rfl, rfl, rfl, rfl, rfl, rfl, trivial⟩
                                · intro whs368 hs368
                                  refine WL.val rfl rfl rfl (Run.move rfl rfl) ?_
                                  apply WL.meetAnd 4 164 168 [(0, _), (1, _), (2, _), (3, _), (4, _), (6, _), (7, _), (8, _), (9, _), (10, _), (11, _), (28, _), (29, _), (52, _), (53, _), (54, _), (55, _), (56, _), (61, _), (62, _), (74, _), (75, _), (86, _), (87, _), (88, _), (89, _), (90, _), (98, _)] rfl hs368
                                  · intro g369 J370
                                    refine WL.val (wantT rfl g369) rfl rfl (Run.field Try.runUnderlying27 rfl rfl rfl Try.sizeOf9 rfl) ?_
                                    refine WL.val (wantT rfl g369) rfl rfl (Run.loadL hs368 0 Try.isAgg9 rfl rfl rfl rfl) ?_
                                    refine WL.val (wantT rfl g369) rfl rfl (Run.eqlS rfl rfl rfl) ?_
                                    refine WL.val rfl rfl rfl (Run.pickT rfl rfl g369 rfl) ?_
                                    exact WL.fin J370 hs368 rfl (andT g369) ⟨rfl, rfl, rfl, rfl, rfl, rfl, rfl, rfl, rfl, rfl, rfl, rfl, rfl, rfl, rfl, rfl, rfl, rfl, rfl, rfl, rfl, rfl, rfl, rfl, rfl, rfl, rfl, rfl, trivial⟩
                                  · intro g369 J370
                                    refine WL.skip (wantNT rfl g369) rfl rfl ?_
                                    refine WL.skip (wantNT rfl g369) rfl rfl ?_
                                    refine WL.skip (wantNT rfl g369) rfl rfl ?_
                                    refine WL.val rfl rfl rfl (Run.pickF rfl rfl g369 rfl) ?_
                                    exact WL.fin J370 hs368 rfl (andF g369) ⟨rfl, rfl, rfl, rfl, rfl, rfl, rfl, rfl, rfl, rfl, rfl, rfl, rfl, rfl, rfl, rfl, rfl, rfl, rfl, rfl, rfl, rfl, rfl, rfl, rfl, rfl, rfl, rfl, trivial⟩
                                  · intro whs371 hs371
                                    refine WL.val rfl rfl rfl (Run.move rfl rfl) ?_
                                    apply WL.meetAnd 5 169 174 [(0, _), (1, _), (2, _), (3, _), (4, _), (6, _), (7, _), (8, _), (9, _), (10, _), (11, _), (28, _), (29, _), (52, _), (53, _), (54, _), (55, _), (56, _), (61, _), (62, _), (74, _), (75, _), (86, _), (87, _), (88, _), (89, _), (90, _), (98, _)] rfl hs371
                                    · intro g372 J373
                                      refine WL.val (wantT rfl g372) rfl rfl (Run.field Try.runUnderlying27 rfl rfl rfl Try.sizeOf22 rfl) ?_
                                      refine WL.val (wantT rfl g372) rfl rfl (Run.loadL hs371 0 Try.isAgg22 rfl rfl rfl rfl) ?_
                                      refine WL.val (wantT rfl g372) rfl rfl (Run.lenSl Try.runUnderlying22 rfl rfl) ?_
                                      refine WL.val (wantT rfl g372) rfl rfl (Run.eql rfl rfl rfl) ?_
                                      refine WL.val rfl rfl rfl (Run.pickT rfl rfl g372 rfl) ?_
                                      exact WL.fin J373 hs371 rfl (andT g372) ⟨rfl, rfl, rfl, rfl, rfl, rfl, rfl, rfl, rfl, rfl, rfl, rfl, rfl, rfl, rfl, rfl, rfl, rfl, rfl, rfl, rfl, rfl, rfl, rfl, rfl, rfl, rfl, rfl, trivial⟩
                                    · intro g372 J373
                                      refine WL.skip (wantNT rfl g372) rfl rfl ?_
                                      refine WL.skip (wantNT rfl g372) rfl rfl ?_
                                      refine WL.skip (wantNT rfl g372) rfl rfl ?_
                                      refine WL.skip (wantNT rfl g372) rfl rfl ?_
                                      refine WL.val rfl rfl rfl (Run.pickF rfl rfl g372 rfl) ?_
                                      exact WL.fin J373 hs371 rfl (andF g372) ⟨rfl, rfl, rfl, rfl, rfl, rfl, rfl, rfl, rfl, rfl, rfl, rfl, rfl, rfl, rfl, rfl, rfl, rfl, rfl, rfl, rfl, rfl, rfl, rfl, rfl, rfl, rfl, rfl, trivial⟩
                                    · intro whs374 hs374
                                      refine WL.val rfl rfl rfl (Run.assign rfl rfl) ?_
                                      refine WL.nil ?_
                                      refine tkN ?_
                                      refine hK356 _ _ ?_
                                      clear hK356
                                      refine WC.seq (fun K375 hK375 => ?_)
                                      refine WC.region ?_
                                      refine WL.val rfl rfl rfl (Run.move rfl rfl) ?_
                                      refine WL.val rfl rfl rfl (Run.move rfl rfl) ?_
                                      apply WL.meetAnd 2 176 178 [(0, _), (1, _), (2, _), (3, _), (4, _), (5, _), (6, _), (7, _), (8, _), (9, _), (10, _), (11, _), (28, _), (29, _), (52, _), (53, _), (54, _), (55, _), (56, _), (61, _), (62, _), (74, _), (75, _), (86, _), (87, _), (88, _), (89, _), (90, _), (98, _), (174, _)] rfl hs374
                                      · intro g376 J377
                                        refine WL.val (wantT rfl g376) rfl rfl (Run.move rfl rfl) ?_
                                        refine WL.val rfl rfl rfl (Run.pickT rfl rfl g376 rfl) ?_
                                        exact WL.fin J377 hs374 rfl (andT g376) ⟨rfl, rfl, rfl, rfl, rfl, rfl, rfl, rfl, rfl, rfl, rfl, rfl, rfl, rfl, rfl, rfl, rfl, rfl, rfl, rfl, rfl, rfl, rfl, rfl, rfl, rfl, rfl, rfl, rfl, rfl, trivial⟩
                                      · intro g376 J377
                                        refine WL.skip (wantNT rfl g376) rfl rfl ?_
                                        refine WL.val rfl rfl rfl (Run.pickF rfl rfl g376 rfl) ?_
                                        exact WL.fin J377 hs374 rfl (andF g376) ⟨rfl, rfl, rfl, rfl, rfl, rfl, rfl, rfl, rfl, rfl, rfl, rfl, rfl, rfl, rfl, rfl, rfl, rfl, rfl, rfl, rfl, rfl, rfl, rfl, rfl, rfl, rfl, rfl, rfl, rfl, trivial⟩
                                      · intro whs378 hs378
                                        refine WL.val rfl rfl rfl (Run.assign rfl rfl) ?_
                                        refine WL.nil ?_
                                        refine tkN ?_
                                        refine hK375 _ _ ?_
                                        clear hK375
                                        refine WC.ret ?_
                                        refine retV1 rfl (resV.tmp rfl) ?_
                                        refine ⟨congrArg Ending.returned ?_, hs378.nil⟩
                                        simp_all [opOk, noText]
                      · have qh347 := h347
                        try simp only [decide_eq_true_eq, decide_eq_false_iff_not, Bool.not_eq_true', Bool.not_eq_false', Bool.and_eq_true, Bool.or_eq_false_iff, within_iff, within_not] at qh347
                        refine WC.seq (fun K379 hK379 => ?_)
                        refine WC.region ?_
                        refine WL.val rfl rfl rfl (Run.eql rfl rfl rfl) ?_
                        refine WL.val rfl rfl rfl (Run.assign rfl rfl) ?_
                        refine WL.nil ?_
                        refine tkN ?_
                        refine hK379 _ _ ?_
                        clear hK379
                        refine WC.cond rfl (fun h380 => ?_) (fun h380 => ?_)
                        · have qh380 := h380
                          try simp only [decide_eq_true_eq, decide_eq_false_iff_not, Bool.not_eq_true', Bool.not_eq_false', Bool.and_eq_true, Bool.or_eq_false_iff, within_iff, within_not] at qh380
                          refine WC.seq (fun K381 hK381 => ?_)
                          refine WC.region ?_
                          refine WL.val rfl rfl rfl (Run.field Try.runUnderlying27 rfl rfl rfl Try.sizeOf3 rfl) ?_
                          refine WL.store hs8 0 Try.sizeOf3 rfl rfl rfl rfl rfl rfl rfl rfl rfl rfl (fun whs382 hs382 => ?_)
                          refine WL.val rfl rfl rfl (Run.field Try.runUnderlying27 rfl rfl rfl Try.sizeOf3 rfl) ?_
                          refine WL.store hs382 0 Try.sizeOf3 rfl rfl rfl rfl rfl rfl rfl rfl rfl rfl (fun whs383 hs383 => ?_)
                          refine WL.val rfl rfl rfl (Run.field Try.runUnderlying27 rfl rfl rfl Try.sizeOf3 rfl) ?_
                          refine WL.store hs383 0 Try.sizeOf3 rfl rfl rfl rfl rfl rfl rfl rfl rfl rfl (fun whs384 hs384 => ?_)
                          refine WL.nil ?_
                          refine tkN ?_
                          refine hK381 _ _ ?_
                          clear hK381
                          refine WC.region ?_
                          refine WL.val rfl rfl rfl (Run.field Try.runUnderlying27 rfl rfl rfl Try.sizeOf3 rfl) ?_
                          refine WL.val rfl rfl rfl (Run.loadL hs384 1 Try.isAgg3 rfl rfl rfl rfl) ?_
                          refine WL.call rfl rfl rfl (Run.call Try.call50 rfl rfl rfl) (c_impl_isId _ _) ?_
                          rintro _ whs385 ⟨rfl, hs385⟩
                          replace hs385 := hs384.call0 hs385
                          refine ⟨_, rfl, ?_⟩
                          refine WL.val rfl rfl rfl (Run.move rfl rfl) ?_
                          apply WL.meetAnd 4 107 111 [(0, _), (1, _), (2, _), (3, _), (4, _), (6, _), (7, _), (8, _), (9, _), (10, _), (11, _), (28, _), (29, _), (52, _), (53, _), (54, _), (55, _), (56, _), (61, _), (62, _), (74, _), (75, _), (86, _), (87, _), (88, _), (99, _), (100, _), (101, _), (102, _), (103, _)] rfl hs385
                          · intro g386 J387
                            refine WL.val (wantT rfl g386) rfl rfl (Run.field Try.runUnderlying27 rfl rfl rfl Try.sizeOf3 rfl) ?_
                            refine WL.val (wantT rfl g386) rfl rfl (Run.loadL hs385 1 Try.isAgg3 rfl rfl rfl rfl) ?_
                            refine WL.call (wantT rfl g386) rfl rfl (Run.call Try.call52 rfl rfl rfl) (c_impl_isSide _ _) ?_
                            rintro _ whs388 ⟨rfl, hs388⟩
                            replace hs388 := hs385.call0 hs388
                            refine ⟨_, rfl, ?_⟩
                            refine WL.val rfl rfl rfl (Run.pickT rfl rfl g386 rfl) ?_
                            exact WL.fin J387 hs388 rfl (andT g386) ⟨rfl, rfl, rfl, rfl, rfl, rfl, rfl, rfl, rfl, rfl, rfl, rfl, rfl, rfl, rfl, rfl, rfl, rfl, rfl, rfl, rfl, rfl, rfl, rfl, rfl, rfl, rfl, rfl, rfl, rfl, trivial⟩
                          · intro g386 J387
                            refine WL.skip (wantNT rfl g386) rfl rfl ?_
                            refine WL.skip (wantNT rfl g386) rfl rfl ?_
                            refine WL.skip (wantNT rfl g386) rfl rfl ?_
                            refine WL.val rfl rfl rfl (Run.pickF rfl rfl g386 rfl) ?_
                            exact WL.fin J387 hs385 rfl (andF g386) ⟨rfl, rfl, rfl, rfl, rfl, rfl, rfl, rfl, rfl, rfl, rfl, rfl, rfl, rfl, rfl, rfl, rfl, rfl, rfl, rfl, rfl, rfl, rfl, rfl, rfl, rfl, rfl, rfl, rfl, rfl, trivial⟩
                          · intro whs389 hs389
                            refine WL.val rfl rfl rfl (Run.move rfl rfl) ?_
                            apply WL.meetAnd 4 112 116 [(0, _), (1, _), (2, _), (3, _), (4, _), (6, _), (7, _), (8, _), (9, _), (10, _), (11, _), (28, _), (29, _), (52, _), (53, _), (54, _), (55, _), (56, _), (61, _), (62, _), (74, _), (75, _), (86, _), (87, _), (88, _), (99, _), (100, _), (101, _), (102, _), (103, _)] rfl hs389
                            · intro g390 J391
                              refine WL.val (wantT rfl g390) rfl rfl (Run.field Try.runUnderlying27 rfl rfl rfl Try.sizeOf3 rfl) ?_
                              refine WL.val (wantT rfl g390) rfl rfl (Run.loadL hs389 1 Try.isAgg3 rfl rfl rfl rfl) ?_
                              refine WL.call (wantT rfl g390) rfl rfl (Run.call Try.call53 rfl rfl rfl) (c_impl_isLength _ _) ?_
                              rintro _ whs392 ⟨rfl, hs392⟩
                              replace hs392 := hs389.call0 hs392
                              refine ⟨_, rfl, ?_⟩
                              refine WL.val rfl rfl rfl (Run.pickT rfl rfl g390 rfl) ?_
                              exact WL.fin J391 hs392 rfl (andT g390) ⟨rfl, rfl, rfl, rfl, rfl, rfl, rfl, rfl, rfl, rfl, rfl, rfl, rfl, rfl, rfl, rfl, rfl, rfl, rfl, rfl, rfl, rfl, rfl, rfl, rfl, rfl, rfl, rfl, rfl, rfl, trivial⟩
                            · intro g390 J391
                              refine WL.skip (wantNT rfl g390) rfl rfl ?_
                              refine WL.skip (wantNT rfl g390) rfl rfl ?_
                              refine WL.skip (wantNT rfl g390) rfl rfl ?_
                              refine WL.val rfl rfl rfl (Run.pickF rfl rfl g390 rfl) ?_
                              exact WL.fin J391 hs389 rfl (andF g390) ⟨rfl, rfl, rfl, rfl, rfl, rfl, rfl, rfl, rfl, rfl, rfl, rfl, rfl, rfl, rfl, rfl, rfl, rfl, rfl, rfl, rfl, rfl, rfl, rfl, rfl, rfl, rfl, rfl, rfl, rfl, trivial⟩
                            · intro whs393 hs393
                              refine WL.val rfl rfl rfl (Run.assign rfl rfl) ?_
                              refine WL.nil ?_
                              refine ibN ?_
                              refine tkN ?_
                              refine hK9 _ _ ?_
                              clear hK9
                              refine WC.seq (fun K394 hK394 => ?_)
                              refine WC.region ?_
                              refine WL.val rfl rfl rfl (Run.field Try.runUnderlying27 rfl rfl rfl Try.sizeOf3 rfl) ?_
                              refine WL.val rfl rfl rfl (Run.loadL hs393 0 Try.isAgg3 rfl rfl rfl rfl) ?_
                              refine WL.val rfl rfl rfl (Run.eql rfl rfl rfl) ?_
                              refine WL.val rfl rfl rfl (Run.move rfl rfl) ?_
                              apply WL.meetAnd 4 144 148 [(0, _), (1, _), (2, _), (3, _), (4, _), (6, _), (7, _), (8, _), (9, _), (10, _), (11, _), (28, _), (29, _), (52, _), (53, _), (54, _), (55, _), (56, _), (61, _), (62, _), (74, _), (75, _), (86, _), (87, _), (88, _), (99, _), (100, _), (101, _), (102, _), (103, _), (116, _)] rfl hs393
                              · intro g395 J396
                                refine WL.val (wantT rfl g395) rfl rfl (Run.field Try.runUnderlying27 rfl rfl rfl Try.sizeOf3 rfl) ?_
                                refine WL.val (wantT rfl g395) rfl rfl (Run.loadL hs393 0 Try.isAgg3 rfl rfl rfl rfl) ?_
                                refine WL.val (wantT rfl g395) rfl rfl (Run.eql rfl rfl rfl) ?_
                                refine WL.val rfl rfl rfl (Run.pickT rfl rfl g395 rfl) ?_
                                exact WL.fin J396 hs393 rfl (andT g395) ⟨rfl, rfl, rfl, rfl, rfl, rfl, rfl, rfl, rfl, rfl, rfl, rfl, rfl, rfl, rfl, rfl, rfl, rfl, rfl, rfl, rfl, rfl, rfl, rfl, rfl, rfl, rfl, rfl, rfl, rfl, rfl, trivial⟩
                              · intro g395 J396
                                refine WL.skip (wantNT rfl g395) rfl rfl ?_
                                refine WL.skip (wantNT rfl g395) rfl rfl ?_
                                refine WL.skip (wantNT rfl g395) rfl rfl ?_
                                refine WL.val rfl rfl rfl (Run.pickF rfl rfl g395 rfl) ?_
                                exact WL.fin J396 hs393 rfl (andF g395) ⟨rfl, rfl, rfl, rfl, rfl, rfl, rfl, rfl, rfl, rfl, rfl, rfl, rfl, rfl, rfl, rfl, rfl, rfl, rfl, rfl, rfl, rfl, rfl, rfl, rfl, rfl, rfl, rfl, rfl, rfl, rfl, trivial⟩
                              · intro whs397 hs397
                                refine WL.val rfl rfl rfl (Run.move rfl rfl) ?_
                                apply WL.meetAnd 4 149 153 [(0, _), (1, _), (2, _), (3, _), (4, _), (6, _), (7, _), (8, _), (9, _), (10, _), (11, _), (28, _), (29, _), (52, _), (53, _), (54, _), (55, _), (56, _), (61, _), (62, _), (74, _), (75, _), (86, _), (87, _), (88, _), (99, _), (100, _), (101, _), (102, _), (103, _), (116, _)] rfl hs397
                                · intro g398 J399
                                  refine WL.val (wantT rfl g398) rfl rfl (Run.field Try.runUnderlying27 rfl rfl rfl Try.sizeOf3 rfl) ?_
                                  refine WL.val (wantT rfl g398) rfl rfl (Run.loadL hs397 0 Try.isAgg3 rfl rfl rfl rfl) ?_
                                  refine WL.val (wantT rfl g398) rfl rfl (Run.eql rfl rfl rfl) ?_
                                  refine WL.val rfl rfl rfl (Run.pickT rfl rfl g398 rfl) ?_
                                  exact WL.fin J399 hs397 rfl (andT g398) ⟨rfl, rfl, rfl, rfl, rfl, rfl, rfl, rfl, rfl, rfl, rfl, rfl, rfl, rfl, rfl, rfl, rfl, rfl, rfl, rfl, rfl, rfl, rfl, rfl, rfl, rfl, rfl, rfl, rfl, rfl, rfl, trivial⟩
                                · intro g398 J399
                                  refine WL.skip (wantNT rfl g398) rfl rfl ?_
                                  refine WL.skip (wantNT rfl g398) rfl rfl ?_
                                  refine WL.skip (wantNT rfl g398) rfl rfl ?_
                                  refine WL.val rfl rfl rfl (Run.pickF rfl rfl g398 rfl) ?_
                                  exact WL.fin J399 hs397 rfl (andF g398) ⟨rfl, rfl, rfl, rfl, rfl, rfl, rfl, rfl, rfl, rfl, rfl, rfl, rfl, rfl, rfl, rfl, rfl, rfl, rfl, rfl, rfl, rfl, rfl, rfl, rfl, rfl, rfl, rfl, rfl, rfl, rfl, trivial⟩
                                · intro whs400 hs400
                                  refine WL.val rfl rfl rfl (Run.move rfl rfl) ?_
                                  apply WL.meetAnd 4 154 158 [(0, _), (1, _), (2, _), (3, _), (4, _), (6, _), (7, _), (8, _), (9, _), (10, _), (11, _), (28, _), (29, _), (52, _), (53, _), (54, _), (55, _), (56, _), (61, _), (62, _), (74, _), (75, _), (86, _), (87, _), (88, _), (99, _), (100, _), (101, _), (102, _), (103, _), (116, _)] rfl hs400
                                  · intro g401 J402
                                    refine WL.val (wantT rfl g401) rfl rfl (Run.field Try.runUnderlying27 rfl rfl rfl Try.sizeOf9 rfl) ?_
                                    refine WL.val (wantT rfl g401) rfl rfl (Run.loadL hs400 0 Try.isAgg9 rfl rfl rfl rfl) ?_
                                    refine WL.val (wantT rfl g401) rfl rfl (Run.eqlS rfl rfl rfl) ?_
                                    refine WL.val rfl rfl rfl (Run.pickT rfl rfl g401 rfl) ?_
                                    exact WL.fin J402 hs400 rfl (andT g401) ⟨rfl, rfl, rfl, rfl, rfl, rfl, rfl, rfl, rfl, rfl, rfl, rfl, rfl, rfl, rfl, rfl, rfl, rfl, rfl, rfl, rfl, rfl, rfl, rfl, rfl, rfl, rfl, rfl, rfl, rfl, rfl, trivial⟩
                                  · intro g401 J402
                                    refine WL.skip (wantNT rfl g401) rfl rfl ?_
                                    refine WL.skip (wantNT rfl g401) rfl rfl ?_
                                    refine WL.skip (wantNT rfl g401) rfl rfl ?_
                                    refine WL.val rfl rfl rfl (Run.pickF rfl rfl g401 rfl) ?_
                                    exact WL.fin J402 hs400 rfl (andF g401) ⟨rfl, rfl, rfl, rfl, rfl, rfl, rfl, rfl, rfl, rfl, rfl, rfl, rfl, rfl, rfl, rfl, rfl, rfl, rfl, rfl, rfl, rfl, rfl, rfl, rfl, rfl, rfl, rfl, rfl, rfl, rfl, trivial⟩
                                  · intro whs403 hs403
                                    refine WL.val rfl rfl rfl (Run.move rfl rfl) ?_
                                    apply WL.meetAnd 4 159 163 [(0, _), (1, _), (2, _), (3, _), (4, _), (6, _), (7, _), (8, _), (9, _), (10, _), (11, _), (28, _), (29, _), (52, _), (53, _), (54, _), (55, _), (56, _), (61, _), (62, _), (74, _), (75, _), (86, _), (87, _), (88, _), (99, _), (100, _), (101, _), (102, _), (103, _), (116, _)] rfl hs403
                                    · intro g404 J405
                                      refine WL.val (wantT rfl g404) rfl rfl (Run.field Try.runUnderlying27 rfl rfl rfl Try.sizeOf9 rfl) ?_
                                      refine WL.val (wantT rfl g404) rfl rfl (Run.loadL hs403 0 Try.isAgg9 rfl rfl rfl rfl) ?_
                                      refine WL.val (wantT rfl g404) rfl rfl (Run.eqlS rfl rfl rfl) ?_
                                      refine WL.val rfl rfl rfl (Run.pickT rfl rfl g404 rfl) ?_
                                      exact WL.fin J405 hs403 rfl (andT g404) ⟨rfl, rfl, rfl, rfl, rfl, rfl, rfl, rfl, rfl, rfl, rfl, rfl, rfl, rfl, rfl, rfl, rfl, rfl, rfl, rfl, rfl, rfl, rfl, rfl, rfl, rfl, rfl, rfl, rfl, rfl, rfl, trivial⟩
                                    · intro g404 J405
                                      refine WL.skip (wantNT rfl g404) rfl rfl ?_
                                      refine WL.skip (wantNT rfl g404) rfl rfl ?_
                                      refine WL.skip (wantNT rfl g404) rfl rfl ?_
                                      refine WL.val rfl rfl rfl (Run.pickF rfl rfl g404 rfl) ?_
                                      exact WL.fin J405 hs403 rfl (andF g404) ⟨rfl, rfl, rfl, rfl, rfl, rfl, rfl, rfl, rfl, rfl, rfl, rfl, rfl, rfl, rfl, rfl, rfl, rfl, rfl, rfl, rfl, rfl, rfl, rfl, rfl, rfl, rfl, rfl, rfl, rfl, rfl, trivial⟩
                                    · intro whs406 hs406
                                      refine WL.val rfl rfl rfl (Run.move rfl rfl) ?_
                                      apply WL.meetAnd 4 164 168 [(0, _), (1, _), (2, _), (3, _), (4, _), (6, _), (7, _), (8, _), (9, _), (10, _), (11, _), (28, _), (29, _), (52, _), (53, _), (54, _), (55, _), (56, _), (61, _), (62, _), (74, _), (75, _), (86, _), (87, _), (88, _), (99, _), (100, _), (101, _), (102, _), (103, _), (116, _)] rfl hs406
                                      · intro g407 J408
                                        refine WL.val (wantT rfl g407) rfl rfl (Run.field Try.runUnderlying27 rfl rfl rfl Try.sizeOf9 rfl) ?_
                                        refine WL.val (wantT rfl g407) rfl rfl (Run.loadL hs406 0 Try.isAgg9 rfl rfl rfl rfl) ?_
                                        refine WL.val (wantT rfl g407) rfl rfl (Run.eqlS rfl rfl rfl) ?_
                                        refine WL.val rfl rfl rfl (Run.pickT rfl rfl g407 rfl) ?_
                                        exact WL.fin J408 hs406 rfl (andT g407) ⟨rfl, rfl, rfl, rfl, rfl, rfl, rfl, rfl, rfl, rfl, rfl, rfl, rfl, rfl, rfl, rfl, rfl, rfl, rfl, rfl, rfl, rfl, rfl, rfl, rfl, rfl, rfl, rfl, rfl, rfl, rfl, trivial⟩
                                      · intro g407 J408
                                        refine WL.skip (wantNT rfl g407) rfl rfl ?_
                                        refine WL.skip (wantNT rfl g407) rfl rfl ?_
                                        refine WL.skip (wantNT rfl g407) rfl rfl ?_
                                        refine WL.val rfl rfl rfl (Run.pickF rfl rfl g407 rfl) ?_
                                        exact WL.fin J408 hs406 rfl (andF g407) ⟨rfl, rfl, rfl, rfl, rfl, rfl, rfl, rfl, rfl, rfl, rfl, rfl, rfl, rfl, rfl, rfl, rfl, rfl, rfl, rfl, rfl, rfl, rfl, rfl, rfl, rfl, rfl, rfl, rfl, rfl, rfl, trivial⟩
                                      · intro whs409 hs409
                                        refine WL.val rfl rfl rfl (Run.move rfl rfl) ?_
                                        apply WL.meetAnd 5 169 174 [(0, _), (1, _), (2, _), (3, _), (4, _), (6, _), (7, _), (8, _), (9, _), (10, _), (11, _), (28, _), (29, _), (52, _), (53, _), (54, _), (55, _), (56, _), (61, _), (62, _), (74, _), (75, _), (86, _), (87, _), (88, _), (99, _), (100, _), (101, _), (102, _), (103, _), (116, _)] rfl hs409
                                        · intro g410 J411
                                          refine WL.val (wantT rfl g410) rfl rfl (Run.field Try.runUnderlying27 rfl rfl rfl Try.sizeOf22 rfl) ?_
                                          refine WL.val (wantT rfl g410) rfl rfl (Run.loadL hs409 0 Try.isAgg22 rfl rfl rfl rfl) ?_
                                          refine WL.val (wantT rfl g410) rfl rfl (Run.lenSl Try.runUnderlying22 rfl rfl) ?_
                                          refine WL.val (wantT rfl g410) rfl rfl (Run.eql rfl rfl rfl) ?_
                                          refine WL.val rfl rfl rfl (Run.pickT rfl rfl g410 rfl) ?_
                                          exact WL.fin J411 hs409 rfl (andT g410) ⟨rfl, rfl, rfl, rfl, rfl, rfl, rfl, rfl, rfl, rfl, rfl, rfl, rfl, rfl, rfl, rfl, rfl, rfl, rfl, rfl, rfl, rfl, rfl, rfl, rfl, rfl, rfl, rfl, rfl, rfl, rfl, trivial⟩
                                        · intro g410 J411
                                          refine WL.skip (wantNT rfl g410) rfl rfl ?_
                                          refine WL.skip (wantNT rfl g410) rfl rfl ?_
                                          refine WL.skip (wantNT rfl g410) rfl rfl ?_
                                          refine WL.skip (wantNT rfl g410) rfl rfl ?_
                                          refine WL.val rfl rfl rfl (Run.pickF rfl rfl g410 rfl) ?_
                                          exact WL.fin J411 hs409 rfl (andF g410) ⟨rfl, rfl, rfl, rfl, rfl, rfl, rfl, rfl, rfl, rfl, rfl, rfl, rfl, rfl, rfl, rfl, rfl, rfl, rfl, rfl, rfl, rfl, rfl, rfl, rfl, rfl, rfl, rfl, rfl, rfl, rfl, trivial⟩
                                        · intro whs412 hs412
                                          refine WL.val rfl rfl rfl (Run.assign rfl rfl) ?_
                                          refine WL.nil ?_
                                          refine tkN ?_
                                          refine hK394 _ _ ?_
                                          clear hK394
                                          refine WC.seq (fun K413 hK413 => ?_)
                                          refine WC.region ?_
                                          refine WL.val rfl rfl rfl (Run.move rfl rfl) ?_
                                          refine WL.val rfl rfl rfl (Run.move rfl rfl) ?_
                                          apply WL.meetAnd 2 176 178 [(0, _), (1, _), (2, _), (3, _), (4, _), (5, _), (6, _), (7, _), (8, _), (9, _), (10, _), (11, _), (28, _), (29, _), (52, _), (53, _), (54, _), (55, _), (56, _), (61, _), (62, _), (74, _), (75, _), (86, _), (87, _), (88, _), (99, _), (100, _), (101, _), (102, _), (103, _), (116, _), (174, _)] rfl hs412
                                          · intro g414 J415
                                            refine WL.val (wantT rfl g414) rfl rfl (Run.move rfl rfl) ?_
                                            refine WL.val rfl rfl rfl (Run.pickT rfl rfl g414 rfl) ?_
                                            exact WL.fin J415 hs412 rfl (andT g414) ⟨rfl, rfl, rfl, rfl, rfl, rfl, rfl, rfl, rfl, rfl, rfl, rfl, rfl, rfl, rfl, rfl, rfl, rfl, rfl, rfl, rfl, rfl, rfl, rfl, rfl, rfl, rfl, rfl, rfl, rfl, rfl, rfl, rfl, trivial⟩
                                          · intro g414 J415
                                            refine WL.skip (wantNT rfl g414) rfl rfl ?_
                                            refine WL.val rfl rfl rfl (Run.pickF rfl rfl g414 rfl) ?_
                                            exact WL.fin J415 hs412 rfl (andF g414) ⟨rfl, rfl, rfl, rfl, rfl, rfl, rfl, rfl, rfl, rfl, rfl, rfl, rfl, rfl, rfl, rfl, rfl, rfl, rfl, rfl, rfl, rfl, rfl, rfl, rfl, rfl, rfl, rfl, rfl, rfl, rfl, rfl, rfl, trivial⟩
                                          · intro whs416 hs416
                                            refine WL.val rfl rfl rfl (Run.assign rfl rfl) ?_
                                            refine WL.nil ?_
                                            refine tkN ?_
                                            refine hK413 _ _ ?_
                                            clear hK413
                                            refine WC.ret ?_
                                            refine retV1 rfl (resV.tmp rfl) ?_
                                            refine ⟨congrArg Ending.returned ?_, hs416.nil⟩
                                            simp_all [opOk, noText]
                        · have qh380 := h380
                          try simp only [decide_eq_true_eq, decide_eq_false_iff_not, Bool.not_eq_true', Bool.not_eq_false', Bool.and_eq_true, Bool.or_eq_false_iff, within_iff, within_not] at qh380
                          refine WC.seq (fun K417 hK417 => ?_)
                          refine WC.region ?_
                          refine WL.val rfl rfl rfl (Run.eql rfl rfl rfl) ?_
                          refine WL.val rfl rfl rfl (Run.assign rfl rfl) ?_
                          refine WL.nil ?_
                          refine tkN ?_
                          refine hK417 _ _ ?_
                          clear hK417
                          refine WC.cond rfl (fun h418 => ?_) (fun h418 => ?_)
                          · have qh418 := h418
                            try simp only [decide_eq_true_eq, decide_eq_false_iff_not, Bool.not_eq_true', Bool.not_eq_false', Bool.and_eq_true, Bool.or_eq_false_iff, within_iff, within_not] at qh418
                            refine WC.seq (fun K419 hK419 => ?_)
                            refine WC.region ?_
                            refine WL.val rfl rfl rfl (Run.field Try.runUnderlying27 rfl rfl rfl Try.sizeOf3 rfl) ?_
                            refine WL.store hs8 0 Try.sizeOf3 rfl rfl rfl rfl rfl rfl rfl rfl rfl rfl (fun whs420 hs420 => ?_)
                            refine WL.val rfl rfl rfl (Run.field Try.runUnderlying27 rfl rfl rfl Try.sizeOf9 rfl) ?_
                            refine WL.store hs420 0 Try.sizeOf9 rfl rfl rfl rfl rfl rfl rfl rfl rfl rfl (fun whs421 hs421 => ?_)
                            refine WL.nil ?_
                            refine tkN ?_
                            refine hK419 _ _ ?_
                            clear hK419
                            refine WC.region ?_
                            refine WL.val rfl rfl rfl (Run.field Try.runUnderlying27 rfl rfl rfl Try.sizeOf3 rfl) ?_
                            refine WL.val rfl rfl rfl (Run.loadL hs421 1 Try.isAgg3 rfl rfl rfl rfl) ?_
                            refine WL.call rfl rfl rfl (Run.call Try.call50 rfl rfl rfl) (c_impl_isId _ _) ?_
                            rintro _ whs422 ⟨rfl, hs422⟩
                            replace hs422 := hs421.call0 hs422
                            refine ⟨_, rfl, ?_⟩
                            refine WL.val rfl rfl rfl (Run.move rfl rfl) ?_
                            apply WL.meetAnd 4 124 128 [(0, _), (1, _), (2, _), (3, _), (4, _), (6, _), (7, _), (8, _), (9, _), (10, _), (11, _), (28, _), (29, _), (52, _), (53, _), (54, _), (55, _), (56, _), (61, _), (62, _), (74, _), (75, _), (86, _), (87, _), (88, _), (99, _), (100, _), (117, _), (118, _), (119, _), (120, _)] rfl hs422
                            · intro g423 J424
                              refine WL.val (wantT rfl g423) rfl rfl (Run.field Try.runUnderlying27 rfl rfl rfl Try.sizeOf9 rfl) ?_
                              refine WL.val (wantT rfl g423) rfl rfl (Run.loadL hs422 1 Try.isAgg9 rfl rfl rfl rfl) ?_
                              refine WL.call (wantT rfl g423) rfl rfl (Run.call Try.call48 rfl rfl rfl) (c_impl_WordOk _ _ ?_) ?_
                              · first | assumption | rfl | omega
                              rintro _ whs425 ⟨rfl, hs425⟩
                              replace hs425 := hs422.call0 hs425
                              refine ⟨_, rfl, ?_⟩
                              refine WL.val rfl rfl rfl (Run.pickT rfl rfl g423 rfl) ?_
                              exact WL.fin J424 hs425 rfl (andT g423) ⟨rfl, rfl, rfl, rfl, rfl, rfl, rfl, rfl, rfl, rfl, rfl, rfl, rfl, rfl, rfl, rfl, rfl, rfl, rfl, rfl, rfl, rfl, rfl, rfl, rfl, rfl, rfl, rfl, rfl, rfl, rfl, trivial⟩
                            · intro g423 J424
                              refine WL.skip (wantNT rfl g423) rfl rfl ?_
                              refine WL.skip (wantNT rfl g423) rfl rfl ?_
                              refine WL.skip (wantNT rfl g423) rfl rfl ?_
                              refine WL.val rfl rfl rfl (Run.pickF rfl rfl g423 rfl) ?_
                              exact WL.fin J424 hs422 rfl (andF g423) ⟨rfl, rfl, rfl, rfl, rfl, rfl, rfl, rfl, rfl, rfl, rfl, rfl, rfl, rfl, rfl, rfl, rfl, rfl, rfl, rfl, rfl, rfl, rfl, rfl, rfl, rfl, rfl, rfl, rfl, rfl, rfl, trivial⟩
                            · intro whs426 hs426
                              refine WL.val rfl rfl rfl (Run.assign rfl rfl) ?_
                              refine WL.nil ?_
                              refine ibN ?_
                              refine tkN ?_
                              refine hK9 _ _ ?_
                              clear hK9
                              refine WC.seq (fun K427 hK427 => ?_)
                              refine WC.region ?_
                              refine WL.val rfl rfl rfl (Run.field Try.runUnderlying27 rfl rfl rfl Try.sizeOf3 rfl) ?_
                              refine WL.val rfl rfl rfl (Run.loadL hs426 0 Try.isAgg3 rfl rfl rfl rfl) ?_
                              refine WL.val rfl rfl rfl (Run.eql rfl rfl rfl) ?_
                              refine WL.val rfl rfl rfl (Run.move rfl rfl) ?_
                              apply WL.meetAnd 4 144 148 [(0, _), (1, _), (2, _), (3, _), (4, _), (6, _), (7, _), (8, _), (9, _), (10, _), (11, _), (28, _), (29, _), (52, _), (53, _), (54, _), (55, _), (56, _), (61, _), (62, _), (74, _), (75, _), (86, _), (87, _), (88, _), (99, _), (100, _), (117, _), (118, _), (119, _), (120, _), (128, _)] rfl hs426
                              · intro g428 J429
                                refine WL.val (wantT rfl g428) rfl rfl (Run.field Try.runUnderlying27 rfl rfl rfl Try.sizeOf3 rfl) ?_
                                refine WL.val (wantT rfl g428) rfl rfl (Run.loadL hs426 0 Try.isAgg3 rfl rfl rfl rfl) ?_
                                refine WL.val (wantT rfl g428) rfl rfl (Run.eql rfl rfl rfl) ?_
                                refine WL.val rfl rfl rfl (Run.pickT rfl rfl g428 rfl) ?_
                                exact WL.fin J429 hs426 rfl (andT g428) ⟨rfl, rfl, rfl, rfl, rfl, rfl, rfl, rfl, rfl, rfl, rfl, rfl, rfl, rfl, rfl, rfl, rfl, rfl, rfl, rfl, rfl, rfl, rfl, rfl, rfl, rfl, rfl, rfl, rfl, rfl, rfl, rfl, trivial⟩
                              · intro g428 J429
                                refine WL.skip (wantNT rfl g428) rfl rfl ?_
                                refine WL.skip (wantNT rfl g428) rfl rfl ?_
                                refine WL.skip (wantNT rfl g428) rfl rfl ?_
                                refine WL.val rfl rfl rfl (Run.pickF rfl rfl g428 rfl) ?_
                                exact WL.fin J429 hs426 rfl (andF g428) ⟨rfl, rfl, rfl, rfl, rfl, rfl, rfl, rfl, rfl, rfl, rfl, rfl, rfl, rfl, rfl, rfl, rfl, rfl, rfl, rfl, rfl, rfl, rfl, rfl, rfl, rfl, rfl, rfl, rfl, rfl, rfl, rfl, trivial⟩
                              · intro whs430 hs430
                                refine WL.val rfl rfl rfl (Run.move rfl rfl) ?_
                                apply WL.meetAnd 4 149 153 [(0, _), (1, _), (2, _), (3, _), (4, _), (6, _), (7, _), (8, _), (9, _), (10, _), (11, _), (28, _), (29, _), (52, _), (53, _), (54, _), (55, _), (56, _), (61, _), (62, _), (74, _), (75, _), (86, _), (87, _), (88, _), (99, _), (100, _), (117, _), (118, _), (119, _), (120, _), (128, _)] rfl hs430
                                · intro g431 J432
                                  refine WL.val (wantT rfl g431) rfl rfl (Run.field Try.runUnderlying27 rfl rfl rfl Try.sizeOf3 rfl) ?_
                                  refine WL.val (wantT rfl g431) rfl rfl (Run.loadL hs430 0 Try.isAgg3 rfl rfl rfl rfl) ?_
                                  refine WL.val (wantT rfl g431) rfl rfl (Run.eql rfl rfl rfl) ?_
                                  refine WL.val rfl rfl rfl (Run.pickT rfl rfl g431 rfl) ?_
                                  exact WL.fin J432 hs430 rfl (andT g431) ⟨rfl, rfl, rfl, rfl, rfl, rfl, rfl, rfl, rfl, rfl, rfl, rfl, rfl, rfl, rfl, rfl, rfl, rfl, rfl, rfl, rfl, rfl, rfl, rfl, rfl, rfl, rfl, rfl, rfl, rfl, rfl, rfl, trivial⟩
                                · intro g431 J432
                                  refine WL.skip (wantNT rfl g431) rfl rfl ?_
                                  refine WL.skip (wantNT rfl g431) rfl rfl ?_
                                  refine WL.skip (wantNT rfl g431) rfl rfl ?_
                                  refine WL.val rfl rfl rfl (Run.pickF rfl rfl g431 rfl) ?_
                                  exact WL.fin J432 hs430 rfl (andF g431) ⟨rfl, rfl, rfl, rfl, rfl, rfl, rfl, rfl, rfl, rfl, rfl, rfl, rfl, rfl, rfl, rfl, rfl, rfl, rfl, rfl, rfl, rfl, rfl, rfl, rfl, rfl, rfl, rfl, rfl, rfl, rfl, rfl, trivial⟩
                                · intro whs433 hs433
                                  refine WL.val rfl rfl rfl (Run.move rfl rfl) ?_
                                  apply WL.meetAnd 4 154 158 [(0, _), (1, _), (2, _), (3, _), (4, _), (6, _), (7, _), (8, _), (9, _), (10, _), (11, _), (28, _), (29, _), (52, _), (53, _), (54, _), (55, _), (56, _), (61, _), (62, _), (74, _), (75, _), (86, _), (87, _), (88, _), (99, _), (100, _), (117, _), (118, _), (119, _), (120, _), (128, _)] rfl hs433
                                  · intro g434 J435
                                    refine WL.val (wantT rfl g434) rfl rfl (Run.field Try.runUnderlying27 rfl rfl rfl Try.sizeOf9 rfl) ?_
                                    refine WL.val (wantT rfl g434) rfl rfl (Run.loadL hs433 0 Try.isAgg9 rfl rfl rfl rfl) ?_
                                    refine WL.val (wantT rfl g434) rfl rfl (Run.eqlS rfl rfl rfl) ?_
                                    refine WL.val rfl rfl rfl (Run.pickT rfl rfl g434 rfl) ?_
                                    exact WL.fin J435 hs433 rfl (andT g434) ⟨rfl, rfl, rfl, rfl, rfl, rfl, rfl, rfl, rfl, rfl, rfl, rfl, rfl, rfl, rfl, rfl, rfl, rfl, rfl, rfl, rfl, rfl, rfl, rfl, rfl, rfl, rfl, rfl, rfl, rfl, rfl, rfl, trivial⟩
                                  · intro g434 J435
                                    refine WL.skip (wantNT rfl g434) rfl rfl ?_
                                    refine WL.skip (wantNT rfl g434) rfl rfl ?_
                                    refine WL.skip (wantNT rfl g434) rfl rfl ?_
                                    refine WL.val rfl rfl rfl (Run.pickF rfl rfl g434 rfl) ?_
                                    exact WL.fin J435 hs433 rfl (andF g434) ⟨rfl, rfl, rfl, rfl, rfl, rfl, rfl, rfl, rfl, rfl, rfl, rfl, rfl, rfl, rfl, rfl, rfl, rfl, rfl, rfl, rfl, rfl, rfl, rfl, rfl, rfl, rfl, rfl, rfl, rfl, rfl, rfl, trivial⟩
                                  · intro whs436 hs436
                                    refine WL.val rfl rfl rfl (Run.move rfl rfl) ?_
                                    apply WL.meetAnd 4 159 163 [(0, _), (1, _), (2, _), (3, _), (4, _), (6, _), (7, _), (8, _), (9, _), (10, _), (11, _), (28, _), (29, _), (52, _), (53, _), (54, _), (55, _), (56, _), (61, _), (62, _), (74, _), (75, _), (86, _), (87, _), (88, _), (99, _), (100, _), (117, _), (118, _), (119, _), (120, _), (128, _)] rfl hs436
                                    · intro g437 J438
                                      refine WL.val (wantT rfl g437) rfl rfl (Run.field Try.runUnderlying27 rfl rfl rfl Try.sizeOf9 rfl) ?_
                                      refine WL.val (wantT rfl g437) rfl rfl (Run.loadL hs436 0 Try.isAgg9 rfl rfl rfl rfl) ?_
                                      refine WL.val (wantT rfl g437) rfl rfl (Run.eqlS rfl rfl rfl) ?_
                                      refine WL.val rfl rfl rfl (Run.pickT rfl rfl g437 rfl) ?_
                                      exact WL.fin J438 hs436 rfl (andT g437) ⟨rfl, rfl, rfl, rfl, rfl, rfl, rfl, rfl, rfl, rfl, rfl, rfl, rfl, rfl, rfl, rfl, rfl, rfl, rfl, rfl, rfl, rfl, rfl, rfl, rfl, rfl, rfl, rfl, rfl, rfl, rfl, rfl, trivial⟩
                                    · intro g437 J438
                                      refine WL.skip (wantNT rfl g437) rfl rfl ?_
                                      refine WL.skip (wantNT rfl g437) rfl rfl ?_
                                      refine WL.skip (wantNT rfl g437) rfl rfl ?_
                                      refine WL.val rfl rfl rfl (Run.pickF rfl rfl g437 rfl) ?_
                                      exact WL.fin J438 hs436 rfl (andF g437) ⟨rfl, rfl, rfl, rfl, rfl, rfl, rfl, rfl, rfl, rfl, rfl, rfl, rfl, rfl, rfl, rfl, rfl, rfl, rfl, rfl, rfl, rfl, rfl, rfl, rfl, rfl, rfl, rfl, rfl, rfl, rfl, rfl, trivial⟩
                                    · intro whs439 hs439
                                      refine WL.val rfl rfl rfl (Run.move rfl rfl) ?_
                                      apply WL.meetAnd 4 164 168 [(0, _), (1, _), (2, _), (3, _), (4, _), (6, _), (7, _), (8, _), (9, _), (10, _), (11, _), (28, _), (29, _), (52, _), (53, _), (54, _), (55, _), (56, _), (61, _), (62, _), (74, _), (75, _), (86, _), (87, _), (88, _), (99, _), (100, _), (117, _), (118, _), (119, _), (120, _), (128, _)] rfl hs439
                                      · intro g440 J441
                                        refine WL.val (wantT rfl g440) rfl rfl (Run.field Try.runUnderlying27 rfl rfl rfl Try.sizeOf9 rfl) ?_
                                        refine WL.val (wantT rfl g440) rfl rfl (Run.loadL hs439 0 Try.isAgg9 rfl rfl rfl rfl) ?_
                                        refine WL.val (wantT rfl g440) rfl rfl (Run.eqlS rfl rfl rfl) ?_
                                        refine WL.val rfl rfl rfl (Run.pickT rfl rfl g440 rfl) ?_
                                        exact WL.fin J441 hs439 rfl (andT g440) ⟨rfl, rfl, rfl, rfl, rfl, rfl, rfl, rfl, rfl, rfl, rfl, rfl, rfl, rfl, rfl, rfl, rfl, rfl, rfl, rfl, rfl, rfl, rfl, rfl, rfl, rfl, rfl, rfl, rfl, rfl, rfl, rfl, trivial⟩
                                      · intro g440 J441
                                        refine WL.skip (wantNT rfl g440) rfl rfl ?_
                                        refine WL.skip (wantNT rfl g440) rfl rfl ?_
                                        refine WL.skip (wantNT rfl g440) rfl rfl ?_
                                        refine WL.val rfl rfl rfl (Run.pickF rfl rfl g440 rfl) ?_
                                        exact WL.fin J441 hs439 rfl (andF g440) ⟨rfl, rfl, rfl, rfl, rfl, rfl, rfl, rfl, rfl, rfl, rfl, rfl, rfl, rfl, rfl, rfl, rfl, rfl, rfl, rfl, rfl, rfl, rfl, rfl, rfl, rfl, rfl, rfl, rfl, rfl, rfl, rfl, trivial⟩
                                      · intro whs442 hs442
                                        refine WL.val rfl rfl rfl (Run.move rfl rfl) ?_
                                        apply WL.meetAnd 5 169 174 [(0, _), (1, _), (2, _), (3, _), (4, _), (6, _), (7, _), (8, _), (9, _), (10, _), (11, _), (28, _), (29, _), (52, _), (53, _), (54, _), (55, _), (56, _), (61, _), (62, _), (74, _), (75, _), (86, _), (87, _), (88, _), (99, _), (100, _), (117, _), (118, _), (119, _), (120, _), (128, _)] rfl hs442
                                        · intro g443 J444
                                          refine WL.val (wantT rfl g443) rfl rfl (Run.field Try.runUnderlying27 rfl rfl rfl Try.sizeOf22 rfl) ?_
                                          refine WL.val (wantT rfl g443) rfl rfl (Run.loadL hs442 0 Try.isAgg22 rfl rfl rfl rfl) ?_
                                          refine WL.val (wantT rfl g443) rfl rfl (Run.lenSl Try.runUnderlying22 rfl rfl) ?_
                                          refine WL.val (wantT rfl g443) rfl rfl (Run.eql rfl rfl rfl) ?_
                                          refine WL.val rfl rfl rfl (Run.pickT rfl rfl g443 rfl) ?_
                                          exact WL.fin J444 hs442 rfl (andT g443) ⟨rfl, rfl, rfl, rfl, rfl, rfl, rfl, rfl, rfl, rfl, rfl, rfl, rfl, rfl, rfl, rfl, rfl, rfl, rfl, rfl, rfl, rfl, rfl, rfl, rfl, rfl, rfl, rfl, rfl, rfl, rfl, rfl, trivial⟩
                                        · intro g443 J444
                                          refine WL.skip (wantNT rfl g443) rfl rfl ?_
                                          refine WL.skip (wantNT rfl g443) rfl rfl ?_
                                          refine WL.skip (wantNT rfl g443) rfl rfl ?_
                                          refine WL.skip (wantNT rfl g443) rfl rfl ?_
                                          refine WL.val rfl rfl rfl (Run.pickF rfl rfl g443 rfl) ?_
                                          exact WL.fin J444 hs442 rfl (andF g443) ⟨rfl, rfl, rfl, rfl, rfl, rfl, rfl, rfl, rfl, rfl, rfl, rfl, rfl, rfl, rfl, rfl, rfl, rfl, rfl, rfl, rfl, rfl, rfl, rfl, rfl, rfl, rfl, rfl, rfl, rfl, rfl, rfl, trivial⟩
                                        · intro whs445 hs445
                                          refine WL.val rfl rfl rfl (Run.assign rfl rfl) ?_
                                          refine WL.nil ?_
                                          refine tkN ?_
                                          refine hK427 _ _ ?_
                                          clear hK427
                                          refine WC.seq (fun K446 hK446 => ?_)
                                          refine WC.region ?_
                                          refine WL.val rfl rfl rfl (Run.move rfl rfl) ?_
                                          refine WL.val rfl rfl rfl (Run.move rfl rfl) ?_
                                          apply WL.meetAnd 2 176 178 [(0, _), (1, _), (2, _), (3, _), (4, _), (5, _), (6, _), (7, _), (8, _), (9, _), (10, _), (11, _), (28, _), (29, _), (52, _), (53, _), (54, _), (55, _), (56, _), (61, _), (62, _), (74, _), (75, _), (86, _), (87, _), (88, _), (99, _), (100, _), (117, _), (118, _), (119, _), (120, _), (128, _), (174, _)] rfl hs445
                                          · intro g447 J448
                                            refine WL.val (wantT rfl g447) rfl rfl (Run.move rfl rfl) ?_
                                            refine WL.val rfl rfl rfl (Run.pickT rfl rfl g447 rfl) ?_
                                            exact WL.fin J448 hs445 rfl (andT g447) ⟨rfl, rfl, rfl, rfl, rfl, rfl, rfl, rfl, rfl, rfl, rfl, rfl, rfl, rfl, rfl, rfl, rfl, rfl, rfl, rfl, rfl, rfl, rfl, rfl, rfl, rfl, rfl, rfl, rfl, rfl, rfl, rfl, rfl, rfl, trivial⟩
                                          · intro g447 J448
                                            refine WL.skip (wantNT rfl g447) rfl rfl ?_
                                            refine WL.val rfl rfl rfl (Run.pickF rfl rfl g447 rfl) ?_
                                            exact WL.fin J448 hs445 rfl (andF g447) ⟨rfl, rfl, rfl, rfl, rfl, rfl, rfl, rfl, rfl, rfl, rfl, rfl, rfl, rfl, rfl, rfl, rfl, rfl, rfl, rfl, rfl, rfl, rfl, rfl, rfl, rfl, rfl, rfl, rfl, rfl, rfl, rfl, rfl, rfl, trivial⟩
                                          · intro whs449 hs449
                                            refine WL.val rfl rfl rfl (Run.assign rfl rfl) ?_
                                            refine WL.nil ?_
                                            refine tkN ?_
                                            refine hK446 _ _ ?_
                                            clear hK446
                                            refine WC.ret ?_
                                            refine retV1 rfl (resV.tmp rfl) ?_
                                            refine ⟨congrArg Ending.returned ?_, hs449.nil⟩
                                            simp_all [opOk, noText]
                          · have qh418 := h418
                            try simp only [decide_eq_true_eq, decide_eq_false_iff_not, Bool.not_eq_true', Bool.not_eq_false', Bool.and_eq_true, Bool.or_eq_false_iff, within_iff, within_not] at qh418
                            refine WC.seq (fun K450 hK450 => ?_)
                            refine WC.region ?_
                            refine WL.val rfl rfl rfl (Run.eql rfl rfl rfl) ?_
                            refine WL.val rfl rfl rfl (Run.assign rfl rfl) ?_
                            refine WL.nil ?_
                            refine tkN ?_
                            refine hK450 _ _ ?_
                            clear hK450
                            refine WC.cond rfl (fun h451 => ?_) (fun h451 => ?_)
                            · have qh451 := h451
                              try simp only [decide_eq_true_eq, decide_eq_false_iff_not, Bool.not_eq_true', Bool.not_eq_false', Bool.and_eq_true, Bool.or_eq_false_iff, within_iff, within_not] at qh451
                              refine WC.seq (fun K452 hK452 => ?_)
                              refine WC.region ?_
                              refine WL.val rfl rfl rfl (Run.field Try.runUnderlying27 rfl rfl rfl Try.sizeOf3 rfl) ?_
                              refine WL.store hs8 0 Try.sizeOf3 rfl rfl rfl rfl rfl rfl rfl rfl rfl rfl (fun whs453 hs453 => ?_)
                              refine WL.val rfl rfl rfl (Run.field Try.runUnderlying27 rfl rfl rfl Try.sizeOf3 rfl) ?_
                              refine WL.store hs453 0 Try.sizeOf3 rfl rfl rfl rfl rfl rfl rfl rfl rfl rfl (fun whs454 hs454 => ?_)
                              refine WL.nil ?_
                              refine tkN ?_
                              refine hK452 _ _ ?_
                              clear hK452
                              refine WC.region ?_
                              refine WL.val rfl rfl rfl (Run.field Try.runUnderlying27 rfl rfl rfl Try.sizeOf3 rfl) ?_
                              refine WL.val rfl rfl rfl (Run.loadL hs454 1 Try.isAgg3 rfl rfl rfl rfl) ?_
                              refine WL.call rfl rfl rfl (Run.call Try.call53 rfl rfl rfl) (c_impl_isLength _ _) ?_
                              rintro _ whs455 ⟨rfl, hs455⟩
                              replace hs455 := hs454.call0 hs455
                              refine ⟨_, rfl, ?_⟩
                              refine WL.val rfl rfl rfl (Run.move rfl rfl) ?_
                              apply WL.meetAnd 4 136 140 [(0, _), (1, _), (2, _), (3, _), (4, _), (6, _), (7, _), (8, _), (9, _), (10, _), (11, _), (28, _), (29, _), (52, _), (53, _), (54, _), (55, _), (56, _), (61, _), (62, _), (74, _), (75, _), (86, _), (87, _), (88, _), (99, _), (100, _), (117, _), (118, _), (129, _), (130, _), (131, _), (132, _)] rfl hs455
                              · intro g456 J457
                                refine WL.val (wantT rfl g456) rfl rfl (Run.field Try.runUnderlying27 rfl rfl rfl Try.sizeOf3 rfl) ?_
                                refine WL.val (wantT rfl g456) rfl rfl (Run.loadL hs455 1 Try.isAgg3 rfl rfl rfl rfl) ?_
                                refine WL.call (wantT rfl g456) rfl rfl (Run.call Try.call53 rfl rfl rfl) (c_impl_isLength _ _) ?_
                                rintro _ whs458 ⟨rfl, hs458⟩
                                replace hs458 := hs455.call0 hs458
                                refine ⟨_, rfl, ?_⟩
                                refine WL.val rfl rfl rfl (Run.pickT rfl rfl g456 rfl) ?_
                                exact WL.fin J457 hs458 rfl (andT g456) ⟨rfl, rfl, rfl, rfl, rfl, rfl, rfl, rfl, rfl, rfl, rfl, rfl, rfl, rfl, rfl, rfl, rfl, rfl, rfl, rfl, rfl, rfl, rfl, rfl, rfl, rfl, rfl, rfl, rfl, rfl, rfl, rfl, rfl, trivial⟩
                              · intro g456 J457
                                refine WL.skip (wantNT rfl g456) rfl rfl ?_
                                refine WL.skip (wantNT rfl g456) rfl rfl ?_
                                refine WL.skip (wantNT rfl g456) rfl rfl ?_
                                refine WL.val rfl rfl rfl (Run.pickF rfl rfl g456 rfl) ?_
                                exact WL.fin J457 hs455 rfl (andF g456) ⟨rfl, rfl, rfl, rfl, rfl, rfl, rfl, rfl, rfl, rfl, rfl, rfl, rfl, rfl, rfl, rfl, rfl, rfl, rfl, rfl, rfl, rfl, rfl, rfl, rfl, rfl, rfl, rfl, rfl, rfl, rfl, rfl, rfl, trivial⟩
                              · intro whs459 hs459
                                refine WL.val rfl rfl rfl (Run.assign rfl rfl) ?_
                                refine WL.nil ?_
                                refine ibN ?_
                                refine tkN ?_
                                refine hK9 _ _ ?_
                                clear hK9
                                refine WC.seq (fun K460 hK460 => ?_)
                                refine WC.region ?_
                                refine WL.val rfl rfl rfl (Run.field Try.runUnderlying27 rfl rfl rfl Try.sizeOf3 rfl) ?_
                                refine WL.val rfl rfl rfl (Run.loadL hs459 0 Try.isAgg3 rfl rfl rfl rfl) ?_
                                refine WL.val rfl rfl rfl (Run.eql rfl rfl rfl) ?_
                                refine WL.val rfl rfl rfl (Run.move rfl rfl) ?_
                                apply WL.meetAnd 4 144 148 [(0, _), (1, _), (2, _), (3, _), (4, _), (6, _), (7, _), (8, _), (9, _), (10, _), (11, _), (28, _), (29, _), (52, _), (53, _), (54, _), (55, _), (56, _), (61, _), (62, _), (74, _), (75, _), (86, _), (87, _), (88, _), (99, _), (100, _), (117, _), (118, _), (129, _), (130, _), (131, _), (132, _), (140, _)] rfl hs459
                                · intro g461 J462
                                  refine WL.val (wantT rfl g461) rfl rfl (Run.field Try.runUnderlying27 rfl rfl rfl Try.sizeOf3 rfl) ?_
                                  refine WL.val (wantT rfl g461) rfl rfl (Run.loadL hs459 0 Try.isAgg3 rfl rfl rfl rfl) ?_
                                  refine WL.val (wantT rfl g461) rfl rfl (Run.eql rfl rfl rfl) ?_
                                  refine WL.val rfl rfl rfl (Run.pickT rfl rfl g461 rfl) ?_
                                  exact WL.fin J462 hs459 rfl (andT g461) ⟨rfl, rfl, rfl, rfl, rfl, rfl, rfl, rfl, rfl, rfl, rfl, rfl, rfl, rfl, rfl, rfl, rfl, rfl, rfl, rfl, rfl, rfl, rfl, rfl, rfl, rfl, rfl, rfl, rfl, rfl, rfl, rfl, rfl, rfl, trivial⟩
                                · intro g461 J462
                                  refine WL.skip (wantNT rfl g461) rfl rfl ?_
                                  refine WL.skip (wantNT rfl g461) rfl rfl ?_
                                  refine WL.skip (wantNT rfl g461) rfl rfl ?_
                                  refine WL.val rfl rfl rfl (Run.pickF rfl rfl g461 rfl) ?_
                                  exact WL.fin J462 hs459 rfl (andF g461) ⟨rfl, rfl, rfl, rfl, rfl, rfl, rfl, rfl, rfl, rfl, rfl, rfl, rfl, rfl, rfl, rfl, rfl, rfl, rfl, rfl, rfl, rfl, rfl, rfl, rfl, rfl, rfl, rfl, rfl, rfl, rfl, rfl, rfl, rfl, trivial⟩
                                · intro whs463 hs463
                                  refine WL.val rfl rfl rfl (Run.move rfl rfl) ?_
                                  apply WL.meetAnd 4 149 153 [(0, _), (1, _), (2, _), (3, _), (4, _), (6, _), (7, _), (8, _), (9, _), (10, _), (11, _), (28, _), (29, _), (52, _), (53, _), (54, _), (55, _), (56, _), (61, _), (62, _), (74, _), (75, _), (86, _), (87, _), (88, _), (99, _), (100, _), (117, _), (118, _), (129, _), (130, _), (131, _), (132, _), (140, _)] rfl hs463
                                  · intro g464 J465
                                    refine WL.val (wantT rfl g464) rfl rfl (Run.field Try.runUnderlying27 rfl rfl rfl Try.sizeOf3 rfl) ?_
                                    refine WL.val (wantT rfl g464) rfl rfl (Run.loadL hs463 0 Try.isAgg3 rfl rfl rfl rfl) ?_
                                    refine WL.val (wantT rfl g464) rfl rfl (Run.eql rfl rfl rfl) ?_
                                    refine WL.val rfl rfl rfl (Run.pickT rfl rfl g464 rfl) ?_
                                    exact WL.fin J465 hs463 rfl (andT g464) ⟨rfl, rfl, rfl, rfl, rfl, rfl, rfl, rfl, rfl, rfl, rfl, rfl, rfl, rfl, rfl, rfl, rfl, rfl, rfl, rfl, rfl, rfl, rfl, rfl, rfl, rfl, rfl, rfl, rfl, rfl, rfl, rfl, rfl, rfl, trivial⟩
                                  · intro g464 J465
                                    refine WL.skip (wantNT rfl g464) rfl rfl ?_
                                    refine WL.skip (wantNT rfl g464) rfl rfl ?_
                                    refine WL.skip (wantNT rfl g464) rfl rfl ?_
                                    refine WL.val rfl rfl rfl (Run.pickF rfl rfl g464 rfl) ?_
                                    exact WL.fin J465 hs463 rfl (andF g464) ⟨rfl, rfl, rfl, rfl, rfl, rfl, rfl, rfl, rfl, rfl, rfl, rfl, rfl, rfl, rfl, rfl, rfl, rfl, rfl, rfl, rfl, rfl, rfl, rfl, rfl, rfl, rfl, rfl, rfl, rfl, rfl, rfl, rfl, rfl, trivial⟩
                                  · intro whs466 hs466
                                    refine WL.val rfl rfl rfl (Run.move rfl rfl) ?_
                                    apply WL.meetAnd 4 154 158 [(0, _), (1, _), (2, _), (3, _), (4, _), (6, _), (7, _), (8, _), (9, _), (10, _), (11, _), (28, _), (29, _), (52, _), (53, _), (54, _), (55, _), (56, _), (61, _), (62, _), (74, _), (75, _), (86, _), (87, _), (88, _), (99, _), (100, _), (117, _), (118, _), (129, _), (130, _), (131, _), (132, _), (140, _)] rfl hs466
                                    · intro g467 J468
                                      refine WL.val (wantT rfl g467) rfl rfl (Run.field Try.runUnderlying27 rfl rfl rfl Try.sizeOf9 rfl) ?_
                                      refine WL.val (wantT rfl g467) rfl rfl (Run.loadL hs466 0 Try.isAgg9 rfl rfl rfl rfl) ?_
                                      refine WL.val (wantT rfl g467) rfl rfl (Run.eqlS rfl rfl rfl) ?_
                                      refine WL.val rfl rfl rfl (Run.pickT rfl rfl g467 rfl) ?_
                                      exact WL.fin J468 hs466 rfl (andT g467) ⟨rfl, rfl, rfl, rfl, rfl, rfl, rfl, rfl, rfl, rfl, rfl, rfl, rfl, rfl, rfl, rfl, rfl, rfl, rfl, rfl, rfl, rfl, rfl, rfl, rfl, rfl, rfl, rfl, rfl, rfl, rfl, rfl, rfl, rfl, trivial⟩
                                    · intro g467 J468
                                      refine WL.skip (wantNT rfl g467) rfl rfl ?_
                                      refine WL.skip (wantNT rfl g467) rfl rfl ?_
                                      refine WL.skip (wantNT rfl g467) rfl rfl ?_
                                      refine WL.val rfl rfl rfl (Run.pickF rfl rfl g467 rfl) ?_
                                      exact WL.fin J468 hs466 rfl (andF g467) ⟨rfl, rfl, rfl, rfl, rfl, rfl, rfl, rfl, rfl, rfl, rfl, rfl, rfl, rfl, rfl, rfl, rfl, rfl, rfl, rfl, rfl, rfl, rfl, rfl, rfl, rfl, rfl, rfl, rfl, rfl, rfl, rfl, rfl, rfl, trivial⟩
                                    · intro whs469 hs469
                                      refine WL.val rfl rfl rfl (Run.move rfl rfl) ?_
                                      apply WL.meetAnd 4 159 163 [(0, _), (1, _), (2, _), (3, _), (4, _), (6, _), (7, _), (8, _), (9, _), (10, _), (11, _), (28, _), (29, _), (52, _), (53, _), (54, _), (55, _), (56, _), (61, _), (62, _), (74, _), (75, _), (86, _), (87, _), (88, _), (99, _), (100, _), (117, _), (118, _), (129, _), (130, _), (131, _), (132, _), (140, _)] rfl hs469
                                      · intro g470 J471
                                        refine WL.val (wantT rfl g470) rfl rfl (Run.field Try.runUnderlying27 rfl rfl rfl Try.sizeOf9 rfl) ?_
                                        refine WL.val (wantT rfl g470) rfl rfl (Run.loadL hs469 0 Try.isAgg9 rfl rfl rfl rfl) ?_
                                        refine WL.val (wantT rfl g470) rfl rfl (Run.eqlS rfl rfl rfl) ?_
                                        refine WL.val rfl rfl rfl (Run.pickT rfl rfl g470 rfl) ?_
                                        exact WL.fin J471 hs469 rfl (andT g470) ⟨rfl, rfl, rfl, rfl, rfl, rfl, rfl, rfl, rfl, rfl, rfl, rfl, rfl, rfl, rfl, rfl, rfl, rfl, rfl, rfl, rfl, rfl, rfl, rfl, rfl, rfl, rfl, rfl, rfl, rfl, rfl, rfl, rfl, rfl, trivial⟩
                                      · intro g470 J471
                                        refine WL.skip (wantNT rfl g470) rfl rfl ?_
                                        refine WL.skip (wantNT rfl g470) rfl rfl ?_
                                        refine WL.skip (wantNT rfl g470) rfl rfl ?_
                                        refine WL.val rfl rfl rfl (Run.pickF rfl rfl g470 rfl) ?_
                                        exact WL.fin J471 hs469 rfl (andF g470) ⟨rfl, rfl, rfl, rfl, rfl, rfl, rfl, rfl, rfl, rfl, rfl, rfl, rfl, rfl, rfl, rfl, rfl, rfl, rfl, rfl, rfl, rfl, rfl, rfl, rfl, rfl, rfl, rfl, rfl, rfl, rfl, rfl, rfl, rfl, trivial⟩
                                      · intro whs472 hs472
                                        refine WL.val rfl rfl rfl (Run.move rfl rfl) ?_
                                        apply WL.meetAnd 4 164 168 [(0, _), (1, _), (2, _), (3, _), (4, _), (6, _), (7, _), (8, _), (9, _), (10, _), (11, _), (28, _), (29, _), (52, _), (53, _), (54, _), (55, _), (56, _), (61, _), (62, _), (74, _), (75, _), (86, _), (87, _), (88, _), (99, _), (100, _), (117, _), (118, _), (129, _), (130, _), (131, _), (132, _), (140, _)] rfl hs472
                                        · intro g473 J474
                                          refine WL.val (wantT rfl g473) rfl rfl (Run.field Try.runUnderlying27 rfl rfl rfl Try.sizeOf9 rfl) ?_
                                          refine WL.val (wantT rfl g473) rfl rfl (Run.loadL hs472 0 Try.isAgg9 rfl rfl rfl rfl) ?_
                                          refine WL.val (wantT rfl g473) rfl rfl (Run.eqlS rfl rfl rfl) ?_
                                          refine WL.val rfl rfl rfl (Run.pickT rfl rfl g473 rfl) ?_
                                          exact WL.fin J474 hs472 rfl (andT g473) ⟨rfl, rfl, rfl, rfl, rfl, rfl, rfl, rfl, rfl, rfl, rfl, rfl, rfl, rfl, rfl, rfl, rfl, rfl, rfl, rfl, rfl, rfl, rfl, rfl, rfl, rfl, rfl, rfl, rfl, rfl, rfl, rfl, rfl, rfl, trivial⟩
                                        · intro g473 J474
                                          refine WL.skip (wantNT rfl g473) rfl rfl ?_
                                          refine WL.skip (wantNT rfl g473) rfl rfl ?_
                                          refine WL.skip (wantNT rfl g473) rfl rfl ?_
                                          refine WL.val rfl rfl rfl (Run.pickF rfl rfl g473 rfl) ?_
                                          exact WL.fin J474 hs472 rfl (andF g473) ⟨rfl, rfl, rfl, rfl, rfl, rfl, rfl, rfl, rfl, rfl, rfl, rfl, rfl, rfl, rfl, rfl, rfl, rfl, rfl, rfl, rfl, rfl, rfl, rfl, rfl, rfl, rfl, rfl, rfl, rfl, rfl, rfl, rfl, rfl, trivial⟩
                                        · intro whs475 hs475
                                          refine WL.val rfl rfl rfl (Run.move rfl rfl) ?_
                                          apply WL.meetAnd 5 169 174 [(0, _), (1, _), (2, _), (3, _), (4, _), (6, _), (7, _), (8, _), (9, _), (10, _), (11, _), (28, _), (29, _), (52, _), (53, _), (54, _), (55, _), (56, _), (61, _), (62, _), (74, _), (75, _), (86, _), (87, _), (88, _), (99, _), (100, _), (117, _), (118, _), (129, _), (130, _), (131, _), (132, _), (140, _)] rfl hs475
                                          · intro g476 J477
                                            refine WL.val (wantT rfl g476) rfl rfl (Run.field Try.runUnderlying27 rfl rfl rfl Try.sizeOf22 rfl) ?_
                                            refine WL.val (wantT rfl g476) rfl rfl (Run.loadL hs475 0 Try.isAgg22 rfl rfl rfl rfl) ?_
                                            refine WL.val (wantT rfl g476) rfl rfl (Run.lenSl Try.runUnderlying22 rfl rfl) ?_
                                            refine WL.val (wantT rfl g476) rfl rfl (Run.eql rfl rfl rfl) ?_
                                            refine WL.val rfl rfl rfl (Run.pickT rfl rfl g476 rfl) ?_
                                            exact WL.fin J477 hs475 rfl (andT g476) ⟨rfl, rfl, rfl, rfl, rfl, rfl, rfl, rfl, rfl, rfl, rfl, rfl, rfl, rfl, rfl, rfl, rfl, rfl, rfl, rfl, rfl, rfl, rfl, rfl, rfl, rfl, rfl, rfl, rfl, rfl, rfl, rfl, rfl, rfl, trivial⟩
                                          · intro g476 J477
                                            refine WL.skip (wantNT rfl g476) rfl rfl ?_
                                            refine WL.skip (wantNT rfl g476) rfl rfl ?_
                                            refine WL.skip (wantNT rfl g476) rfl rfl ?_
                                            refine WL.skip (wantNT rfl g476) rfl rfl ?_
                                            refine WL.val rfl rfl rfl (Run.pickF rfl rfl g476 rfl) ?_
                                            exact WL.fin J477 hs475 rfl (andF g476) ⟨rfl, rfl, rfl, rfl, rfl, rfl, rfl, rfl, rfl, rfl, rfl, rfl, rfl, rfl, rfl, rfl, rfl, rfl, rfl, rfl, rfl, rfl, rfl, rfl, rfl, rfl, rfl, rfl, rfl, rfl, rfl, rfl, rfl, rfl, trivial⟩
                                          · intro whs478 hs478
                                            refine WL.val rfl rfl rfl (Run.assign rfl rfl) ?_
                                            refine WL.nil ?_
                                            refine tkN ?_
                                            refine hK460 _ _ ?_
                                            clear hK460
                                            refine WC.seq (fun K479 hK479 => ?_)
                                            refine WC.region ?_
                                            refine WL.val rfl rfl rfl (Run.move rfl rfl) ?_
                                            refine WL.val rfl rfl rfl (Run.move rfl rfl) ?_
                                            apply WL.meetAnd 2 176 178 [(0, _), (1, _), (2, _), (3, _), (4, _), (5, _), (6, _), (7, _), (8, _), (9, _), (10, _), (11, _), (28, _), (29, _), (52, _), (53, _), (54, _), (55, _), (56, _), (61, _), (62, _), (74, _), (75, _), (86, _), (87, _), (88, _), (99, _), (100, _), (117, _), (118, _), (129, _), (130, _), (131, _), (132, _), (140, _), (174, _)] rfl hs478
                                            · intro g480 J481
                                              refine WL.val (wantT rfl g480) rfl rfl (Run.move rfl rfl) ?_
                                              refine WL.val rfl rfl rfl (Run.pickT rfl rfl g480 rfl) ?_
                                              exact WL.fin J481 hs478 rfl (andT g480) ⟨rfl, rfl, rfl, rfl, rfl, rfl, rfl, rfl, rfl, rfl, rfl, rfl, rfl, rfl, rfl, rfl, rfl, rfl, rfl, rfl, rfl, rfl, rfl, rfl, rfl, rfl, rfl, rfl, rfl, rfl, rfl, rfl, rfl, rfl, rfl, rfl, trivial⟩
                                            · intro g480 J481
                                              refine WL.skip (wantNT rfl g480) rfl rfl ?_
                                              refine WL.val rfl rfl rfl (Run.pickF rfl rfl g480 rfl) ?_
                                              exact WL.fin J481 hs478 rfl (andF g480) ⟨rfl, rfl, rfl, rfl, rfl, rfl, rfl, rfl, rfl, rfl, rfl, rfl, rfl, rfl, rfl, rfl, rfl, rfl, rfl, rfl, rfl, rfl, rfl, rfl, rfl, rfl, rfl, rfl, rfl, rfl, rfl, rfl, rfl, rfl, rfl, rfl, trivial⟩
                                            · intro whs482 hs482
                                              refine WL.val rfl rfl rfl (Run.assign rfl rfl) ?_
                                              refine WL.nil ?_
                                              refine tkN ?_
                                              refine hK479 _ _ ?_
                                              clear hK479
                                              refine WC.ret ?_
                                              refine retV1 rfl (resV.tmp rfl) ?_
                                              refine ⟨congrArg Ending.returned ?_, hs482.nil⟩
                                              simp_all [opOk, noText]
                            · have qh451 := h451
                              try simp only [decide_eq_true_eq, decide_eq_false_iff_not, Bool.not_eq_true', Bool.not_eq_false', Bool.and_eq_true, Bool.or_eq_false_iff, within_iff, within_not] at qh451
                              refine WC.skip ?_
                              refine ibN ?_
                              refine tkN ?_
                              refine hK9 _ _ ?_
                              clear hK9
                              refine WC.seq (fun K483 hK483 => ?_)
                              refine WC.region ?_
                              refine WL.val rfl rfl rfl (Run.field Try.runUnderlying27 rfl rfl rfl Try.sizeOf3 rfl) ?_
                              refine WL.val rfl rfl rfl (Run.loadL hs8 0 Try.isAgg3 rfl rfl rfl rfl) ?_
                              refine WL.val rfl rfl rfl (Run.eql rfl rfl rfl) ?_
                              refine WL.val rfl rfl rfl (Run.move rfl rfl) ?_
                              apply WL.meetAnd 4 144 148 [(0, _), (1, _), (2, _), (3, _), (4, _), (6, _), (7, _), (8, _), (9, _), (10, _), (11, _), (28, _), (29, _), (52, _), (53, _), (54, _), (55, _), (56, _), (61, _), (62, _), (74, _), (75, _), (86, _), (87, _), (88, _), (99, _), (100, _), (117, _), (118, _), (129, _), (130, _)] rfl hs8
                              · intro g484 J485
                                refine WL.val (wantT rfl g484) rfl rfl (Run.field Try.runUnderlying27 rfl rfl rfl Try.sizeOf3 rfl) ?_
                                refine WL.val (wantT rfl g484) rfl rfl (Run.loadL hs8 0 Try.isAgg3 rfl rfl rfl rfl) ?_
                                refine WL.val (wantT rfl g484) rfl rfl (Run.eql rfl rfl rfl) ?_
                                refine WL.val rfl rfl rfl (Run.pickT rfl rfl g484 rfl) ?_
                                exact WL.fin J485 hs8 rfl (andT g484) ⟨rfl, rfl, rfl, rfl, rfl, rfl, rfl, rfl, rfl, rfl, rfl, rfl, rfl, rfl, rfl, rfl, rfl, rfl, rfl, rfl, rfl, rfl, rfl, rfl, rfl, rfl, rfl, rfl, rfl, rfl, rfl, trivial⟩
                              · intro g484 J485
                                refine WL.skip (wantNT rfl g484) rfl rfl ?_
                                refine WL.skip (wantNT rfl g484) rfl rfl ?_
                                refine WL.skip (wantNT rfl g484) rfl rfl ?_
                                refine WL.val rfl rfl rfl (Run.pickF rfl rfl g484 rfl) ?_
                                exact WL.fin J485 hs8 rfl (andF g484) ⟨rfl, rfl, rfl, rfl, rfl, rfl, rfl, rfl, rfl, rfl, rfl, rfl, rfl, rfl, rfl, rfl, rfl, rfl, rfl, rfl, rfl, rfl, rfl, rfl, rfl, rfl, rfl, rfl, rfl, rfl, rfl, trivial⟩
                              · intro whs486 hs486
                                refine WL.val rfl rfl rfl (Run.move rfl rfl) ?_
                                apply WL.meetAnd 4 149 153 [(0, _), (1, _), (2, _), (3, _), (4, _), (6, _), (7, _), (8, _), (9, _), (10, _), (11, _), (28, _), (29, _), (52, _), (53, _), (54, _), (55, _), (56, _), (61, _), (62, _), (74, _), (75, _), (86, _), (87, _), (88, _), (99, _), (100, _), (117, _), (118, _), (129, _), (130, _)] rfl hs486
                                · intro g487 J488
                                  refine WL.val (wantT rfl g487) rfl rfl (Run.field Try.runUnderlying27 rfl rfl rfl Try.sizeOf3 rfl) ?_
                                  refine WL.val (wantT rfl g487) rfl rfl (Run.loadL hs486 0 Try.isAgg3 rfl rfl rfl rfl) ?_
                                  refine WL.val (wantT rfl g487) rfl rfl (Run.eql rfl rfl rfl) ?_
                                  refine WL.val rfl rfl rfl (Run.pickT rfl rfl g487 rfl) ?_
                                  exact WL.fin J488 hs486 rfl (andT g487) ⟨rfl, rfl, rfl, rfl, rfl, rfl, rfl, rfl, rfl, rfl, rfl, rfl, rfl, rfl, rfl, rfl, rfl, rfl, rfl, rfl, rfl, rfl, rfl, rfl, rfl, rfl, rfl, rfl, rfl, rfl, rfl, trivial⟩
                                · intro g487 J488
                                  refine WL.skip (wantNT rfl g487) rfl rfl ?_
                                  refine WL.skip (wantNT rfl g487) rfl rfl ?_
                                  refine WL.skip (wantNT rfl g487) rfl rfl ?_
                                  refine WL.val rfl rfl rfl (Run.pickF rfl rfl g487 rfl) ?_
                                  exact WL.fin J488 hs486 rfl (andF g487) ⟨rfl, rfl, rfl, rfl, rfl, rfl, rfl, rfl, rfl, rfl, rfl, rfl, rfl, rfl, rfl, rfl, rfl, rfl, rfl, rfl, rfl, rfl, rfl, rfl, rfl, rfl, rfl, rfl, rfl, rfl, rfl, trivial⟩
                                · intro whs489 hs489
                                  refine WL.val rfl rfl rfl (Run.move rfl rfl) ?_
                                  apply WL.meetAnd 4 154 158 [(0, _), (1, _), (2, _), (3, _), (4, _), (6, _), (7, _), (8, _), (9, _), (10, _), (11, _), (28, _), (29, _), (52, _), (53, _), (54, _), (55, _), (56, _), (61, _), (62, _), (74, _), (75, _), (86, _), (87, _), (88, _), (99, _), (100, _), (117, _), (118, _), (129, _), (130, _)] rfl hs489
                                  · intro g490 J491
                                    refine WL.val (wantT rfl g490) rfl rfl (Run.field Try.runUnderlying27 rfl rfl rfl Try.sizeOf9 rfl) ?_
                                    refine WL.val (wantT rfl g490) rfl rfl (Run.loadL hs489 0 Try.isAgg9 rfl rfl rfl rfl) ?_
                                    refine WL.val (wantT rfl g490) rfl rfl (Run.eqlS rfl rfl rfl) ?_
                                    refine WL.val rfl rfl rfl (Run.pickT rfl rfl g490 rfl) ?_
                                    exact WL.fin J491 hs489 rfl (andT g490) ⟨rfl, rfl, rfl, rfl, rfl, rfl, rfl, rfl, rfl, rfl, rfl, rfl, rfl, rfl, rfl, rfl, rfl, rfl, rfl, rfl, rfl, rfl, rfl, rfl, rfl, rfl, rfl, rfl, rfl, rfl, rfl, trivial⟩
                                  · intro g490 J491
                                    refine WL.skip (wantNT rfl g490) rfl rfl ?_
                                    refine WL.skip (wantNT rfl g490) rfl rfl ?_
                                    refine WL.skip (wantNT rfl g490) rfl rfl ?_
                                    refine WL.val rfl rfl rfl (Run.pickF rfl rfl g490 rfl) ?_
                                    exact WL.fin J491 hs489 rfl (andF g490) ⟨rfl, rfl, rfl, rfl, rfl, rfl, rfl, rfl, rfl, rfl, rfl, rfl, rfl, rfl, rfl, rfl, rfl, rfl, rfl, rfl, rfl, rfl, rfl, rfl, rfl, rfl, rfl, rfl, rfl, rfl, rfl, trivial⟩
                                  · intro whs492 hs492
                                    refine WL.val rfl rfl rfl (Run.move rfl rfl) ?_
                                    apply WL.meetAnd 4 159 163 [(0, _), (1, _), (2, _), (3, _), (4, _), (6, _), (7, _), (8, _), (9, _), (10, _), (11, _), (28, _), (29, _), (52, _), (53, _), (54, _), (55, _), (56, _), (61, _), (62, _), (74, _), (75, _), (86, _), (87, _), (88, _), (99, _), (100, _), (117, _), (118, _), (129, _), (130, _)] rfl hs492
                                    · intro g493 J494
                                      refine WL.val (wantT rfl g493) rfl rfl (Run.field Try.runUnderlying27 rfl rfl rfl Try.sizeOf9 rfl) ?_
                                      refine WL.val (wantT rfl g493) rfl rfl (Run.loadL hs492 0 Try.isAgg9 rfl rfl rfl rfl) ?_
                                      refine WL.val (wantT rfl g493) rfl rfl (Run.eqlS rfl rfl rfl) ?_
                                      refine WL.val rfl rfl rfl (Run.pickT rfl rfl g493 rfl) ?_
                                      exact WL.fin J494 hs492 rfl (andT g493) ⟨rfl, rfl, rfl, rfl, rfl, rfl, rfl, rfl, rfl, rfl, rfl, rfl, rfl, rfl, rfl, rfl, rfl, rfl, rfl, rfl, rfl, rfl, rfl, rfl, rfl, rfl, rfl, rfl, rfl, rfl, rfl, trivial⟩
                                    · intro g493 J494
                                      refine WL.skip (wantNT rfl g493) rfl rfl ?_
                                      refine WL.skip (wantNT rfl g493) rfl rfl ?_
                                      refine WL.skip (wantNT rfl g493) rfl rfl ?_
                                      refine WL.val rfl rfl rfl (Run.pickF rfl rfl g493 rfl) ?_
                                      exact WL.fin J494 hs492 rfl (andF g493) ⟨rfl, rfl, rfl, rfl, rfl, rfl, rfl, rfl, rfl, rfl, rfl, rfl, rfl, rfl, rfl, rfl, rfl, rfl, rfl, rfl, rfl, rfl, rfl, rfl, rfl, rfl, rfl, rfl, rfl, rfl, rfl, trivial⟩
                                    · intro whs495 hs495
                                      refine WL.val rfl rfl rfl (Run.move rfl rfl) ?_
                                      apply WL.meetAnd 4 164 168 [(0, _), (1, _), (2, _), (3, _), (4, _), (6, _), (7, _), (8, _), (9, _), (10, _), (11, _), (28, _), (29, _), (52, _), (53, _), (54, _), (55, _), (56, _), (61, _), (62, _), (74, _), (75, _), (86, _), (87, _), (88, _), (99, _), (100, _), (117, _), (118, _), (129, _), (130, _)] rfl hs495
                                      · intro g496 J497
                                        refine WL.val (wantT rfl g496) rfl rfl (Run.field Try.runUnderlying27 rfl rfl rfl Try.sizeOf9 rfl) ?_
                                        refine WL.val (wantT rfl g496) rfl rfl (Run.loadL hs495 0 Try.isAgg9 rfl rfl rfl rfl) ?_
                                        refine WL.val (wantT rfl g496) rfl rfl (Run.eqlS rfl rfl rfl) ?_
                                        refine WL.val rfl rfl rfl (Run.pickT rfl rfl g496 rfl) ?_
                                        exact WL.fin J497 hs495 rfl (andT g496) ⟨rfl, rfl, rfl, rfl, rfl, rfl, rfl, rfl, rfl, rfl, rfl, rfl, rfl, rfl, rfl, rfl, rfl, rfl, rfl, rfl, rfl, rfl, rfl, rfl, rfl, rfl, rfl, rfl, rfl, rfl, rfl, trivial⟩
                                      · intro g496 J497
                                        refine WL.skip (wantNT rfl g496) rfl rfl ?_
                                        refine WL.skip (wantNT rfl g496) rfl rfl ?_
                                        refine WL.skip (wantNT rfl g496) rfl rfl ?_
                                        refine WL.val rfl rfl rfl (Run.pickF rfl rfl g496 rfl) ?_
                                        exact WL.fin J497 hs495 rfl (andF g496) ⟨rfl, rfl, rfl, rfl, rfl, rfl, rfl, rfl, rfl, rfl, rfl, rfl, rfl, rfl, rfl, rfl, rfl, rfl, rfl, rfl, rfl, rfl, rfl, rfl, rfl, rfl, rfl, rfl, rfl, rfl, rfl, trivial⟩
                                      · intro whs498 hs498
                                        refine WL.val rfl rfl rfl (Run.move rfl rfl) ?_
                                        apply WL.meetAnd 5 169 174 [(0, _), (1, _), (2, _), (3, _), (4, _), (6, _), (7, _), (8, _), (9, _), (10, _), (11, _), (28, _), (29, _), (52, _), (53, _), (54, _), (55, _), (56, _), (61, _), (62, _), (74, _), (75, _), (86, _), (87, _), (88, _), (99, _), (100, _), (117, _), (118, _), (129, _), (130, _)] rfl hs498
                                        · intro g499 J500
                                          refine WL.val (wantT rfl g499) rfl rfl (Run.field Try.runUnderlying27 rfl rfl rfl Try.sizeOf22 rfl) ?_
                                          refine WL.val (wantT rfl g499) rfl rfl (Run.loadL hs498 0 Try.isAgg22 rfl rfl rfl rfl) ?_
                                          refine WL.val (wantT rfl g499) rfl rfl (Run.lenSl Try.runUnderlying22 rfl rfl) ?_
                                          refine WL.val (wantT rfl g499) rfl rfl (Run.eql rfl rfl rfl) ?_
                                          refine WL.val rfl rfl rfl (Run.pickT rfl rfl g499 rfl) ?_
                                          exact WL.fin J500 hs498 rfl (andT g499) ⟨rfl, rfl, rfl, rfl, rfl, rfl, rfl, rfl, rfl, rfl, rfl, rfl, rfl, rfl, rfl, rfl, rfl, rfl, rfl, rfl, rfl, rfl, rfl, rfl, rfl, rfl, rfl, rfl, rfl, rfl, rfl, trivial⟩
                                        · intro g499 J500
                                          refine WL.skip (wantNT rfl g499) rfl rfl ?_
                                          refine WL.skip (wantNT rfl g499) rfl rfl ?_
                                          refine WL.skip (wantNT rfl g499) rfl rfl ?_
                                          refine WL.skip (wantNT rfl g499) rfl rfl ?_
                                          refine WL.val rfl rfl rfl (Run.pickF rfl rfl g499 rfl) ?_
                                          exact WL.fin J500 hs498 rfl (andF g499) ⟨rfl, rfl, rfl, rfl, rfl, rfl, rfl, rfl, rfl, rfl, rfl, rfl, rfl, rfl, rfl, rfl, rfl, rfl, rfl, rfl, rfl, rfl, rfl, rfl, rfl, rfl, rfl, rfl, rfl, rfl, rfl, trivial⟩
                                        · intro whs501 hs501
                                          refine WL.val rfl rfl rfl (Run.assign rfl rfl) ?_
                                          refine WL.nil ?_
                                          refine tkN ?_
                                          refine hK483 _ _ ?_
                                          clear hK483
                                          refine WC.seq (fun K502 hK502 => ?_)
                                          refine WC.region ?_
                                          refine WL.val rfl rfl rfl (Run.move rfl rfl) ?_
                                          refine WL.val rfl rfl rfl (Run.move rfl rfl) ?_
                                          apply WL.meetAnd 2 176 178 [(0, _), (1, _), (2, _), (3, _), (4, _), (5, _), (6, _), (7, _), (8, _), (9, _), (10, _), (11, _), (28, _), (29, _), (52, _), (53, _), (54, _), (55, _), (56, _), (61, _), (62, _), (74, _), (75, _), (86, _), (87, _), (88, _), (99, _), (100, _), (117, _), (118, _), (129, _), (130, _), (174, _)] rfl hs501
                                          · intro g503 J504
                                            refine WL.val (wantT rfl g503) rfl rfl (Run.move rfl rfl) ?_
                                            refine WL.val rfl rfl rfl (Run.pickT rfl rfl g503 rfl) ?_
                                            exact WL.fin J504 hs501 rfl (andT g503) ⟨rfl, rfl, rfl, rfl, rfl, rfl, rfl, rfl, rfl, rfl, rfl, rfl, rfl, rfl, rfl, rfl, rfl, rfl, rfl, rfl, rfl, rfl, rfl, rfl, rfl, rfl, rfl, rfl, rfl, rfl, rfl, rfl, rfl, trivial⟩
                                          · intro g503 J504
                                            refine WL.skip (wantNT rfl g503) rfl rfl ?_
                                            refine WL.val rfl rfl rfl (Run.pickF rfl rfl g503 rfl) ?_
                                            exact WL.fin J504 hs501 rfl (andF g503) ⟨rfl, rfl, rfl, rfl, rfl, rfl, rfl, rfl, rfl, rfl, rfl, rfl, rfl, rfl, rfl, rfl, rfl, rfl, rfl, rfl, rfl, rfl, rfl, rfl, rfl, rfl, rfl, rfl, rfl, rfl, rfl, rfl, rfl, trivial⟩
                                          · intro whs505 hs505
                                            refine WL.val rfl rfl rfl (Run.assign rfl rfl) ?_
                                            refine WL.nil ?_
                                            refine tkN ?_
                                            refine hK502 _ _ ?_
                                            clear hK502
                                            refine WC.ret ?_
                                            refine retV1 rfl (resV.tmp rfl) ?_
                                            refine ⟨congrArg Ending.returned ?_, hs505.nil⟩
                                            simp_all [opOk, noText]
end Go.Proofs.Ytpiimkfonlijdaa
