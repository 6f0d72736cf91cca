/- Walks of Go functions, printed by a program (wip/gen). -/
import Derived.Test.YtpiimkfonlijdaaC5
namespace Go.Proofs.Ytpiimkfonlijdaa
open Go Go.RowKit
set_option linter.unusedVariables false
set_option linter.unusedSimpArgs false
set_option maxHeartbeats 4000000 in
theorem c_spec_OpOk (k a b c : Int) (nm tx dr : ByteArray) (A : Option Addr) (n cp : Nat) (w : World) (hn : nm.size ≤ 1099511627776) :
    Calls Try.prog 11 #[.agg #[i64 k, i64 a, i64 b, i64 c, .string nm, .string tx, .string dr, .slice A n cp]] w fun e w' => e = .returned (.bool (opOk k a b c nm tx dr n)) ∧ St w [] [] w' := by
  refine enter (vs := [.agg #[i64 k, i64 a, i64 b, i64 c, .string nm, .string tx, .string dr, .slice A n cp]]) 135 Try.func11 rfl Try.ntmps11 rfl rfl ?_
  have hs1 := St.init w
  refine WC.seq (fun K2 hK2 => ?_)
  refine WC.region ?_
  refine WL.box hs1 rfl rfl rfl rfl rfl rfl (fun b3 whs4 hs4 => ?_)
  refine WL.val rfl rfl rfl (Run.assign rfl rfl) ?_
  refine WL.nil ?_
  refine tkN ?_
  refine hK2 _ _ ?_
  clear hK2
  refine WC.seq (fun K5 hK5 => ?_)
  refine WC.seq (fun K6 hK6 => ?_)
  refine WC.region ?_
  refine WL.val rfl rfl rfl (Run.field Try.runUnderlying27 rfl rfl rfl Try.sizeOf3 rfl) ?_
  refine WL.val rfl rfl rfl (Run.loadL hs4 0 Try.isAgg3 rfl rfl rfl rfl) ?_
  refine WL.val rfl rfl rfl (Run.lss rfl rfl rfl) ?_
  refine WL.val rfl rfl rfl (Run.move rfl rfl) ?_
  apply WL.meetOr 4 10 14 [(0, _), (1, _), (2, _)] rfl hs4
  · intro g7 J8
    refine WL.val (wantF rfl g7) rfl rfl (Run.field Try.runUnderlying27 rfl rfl rfl Try.sizeOf3 rfl) ?_
    refine WL.val (wantF rfl g7) rfl rfl (Run.loadL hs4 0 Try.isAgg3 rfl rfl rfl rfl) ?_
    refine WL.val (wantF rfl g7) rfl rfl (Run.gtr rfl rfl rfl) ?_
    refine WL.val rfl rfl rfl (Run.pickF rfl rfl g7 rfl) ?_
    exact WL.fin J8 hs4 rfl (orF g7) ⟨rfl, rfl, rfl, trivial⟩
  · intro g7 J8
    refine WL.skip (wantNF rfl g7) rfl rfl ?_
    refine WL.skip (wantNF rfl g7) rfl rfl ?_
    refine WL.skip (wantNF rfl g7) rfl rfl ?_
    refine WL.val rfl rfl rfl (Run.pickT rfl rfl g7 rfl) ?_
    exact WL.fin J8 hs4 rfl (orT g7) ⟨rfl, rfl, rfl, trivial⟩
  · intro whs9 hs9
    refine WL.nil ?_
    refine tkN ?_
    refine hK6 _ _ ?_
    clear hK6
    refine WC.cond rfl (fun h10 => ?_) (fun h10 => ?_)
    · have qh10 := h10
      try simp only [decide_eq_true_eq, decide_eq_false_iff_not, Bool.not_eq_true', Bool.not_eq_false', Bool.and_eq_true, Bool.or_eq_false_iff, within_iff, within_not] at qh10
      refine WC.seq (fun K11 hK11 => ?_)
      refine WC.region ?_
      refine WL.val rfl rfl rfl (Run.assign rfl rfl) ?_
      refine WL.nil ?_
      refine tkN ?_
      refine hK11 _ _ ?_
      clear hK11
      refine WC.ret ?_
      refine tkR ?_
      clear hK5
      refine retV1 rfl (resV.tmp rfl) ?_
      refine ⟨congrArg Ending.returned ?_, hs9.nil⟩
      rw [opOk_eq]; simp_all [opOkS, noText, isCmd] <;> grind
    · have qh10 := h10
      try simp only [decide_eq_true_eq, decide_eq_false_iff_not, Bool.not_eq_true', Bool.not_eq_false', Bool.and_eq_true, Bool.or_eq_false_iff, within_iff, within_not] at qh10
      refine WC.skip ?_
      refine tkN ?_
      refine hK5 _ _ ?_
      clear hK5
      refine WC.seq (fun K12 hK12 => ?_)
      refine WC.region ?_
      refine WL.val rfl rfl rfl (Run.field Try.runUnderlying27 rfl rfl rfl Try.sizeOf3 rfl) ?_
      refine WL.val rfl rfl rfl (Run.loadL hs9 0 Try.isAgg3 rfl rfl rfl rfl) ?_
      refine WL.call rfl rfl rfl (Run.call Try.call45 rfl rfl rfl) (c_spec_l16Has _ _) ?_
      rintro _ whs13 ⟨b14, rfl, hs13⟩
      replace hs13 := hs9.callF hs13
      refine ⟨_, rfl, ?_⟩
      refine WL.val rfl rfl rfl (Run.assign rfl rfl) ?_
      refine WL.nil ?_
      refine tkN ?_
      refine hK12 _ _ ?_
      clear hK12
      refine WC.seq (fun K15 hK15 => ?_)
      refine WC.region ?_
      refine WL.val rfl rfl rfl (Run.assign rfl rfl) ?_
      refine WL.nil ?_
      refine tkN ?_
      refine hK15 _ _ ?_
      clear hK15
      refine WC.seq (fun K16 hK16 => ?_)
      refine WC.region ?_
      refine WL.val rfl rfl rfl (Run.assign rfl rfl) ?_
      refine WL.nil ?_
      refine tkN ?_
      refine hK16 _ _ ?_
      clear hK16
      refine WC.seq (fun K17 hK17 => ?_)
      refine WC.region ?_
      refine WL.val rfl rfl rfl (Run.assign rfl rfl) ?_
      refine WL.nil ?_
      refine tkN ?_
      refine hK17 _ _ ?_
      clear hK17
      refine WC.seq (fun K18 hK18 => ?_)
      refine WC.seq (fun K19 hK19 => ?_)
      refine WC.region ?_
      refine WL.val rfl rfl rfl (Run.field Try.runUnderlying27 rfl rfl rfl Try.sizeOf3 rfl) ?_
      refine WL.val rfl rfl rfl (Run.loadL hs13 1 Try.isAgg3 rfl rfl rfl rfl) ?_
      refine WL.nil ?_
      refine tkN ?_
      refine hK19 _ _ ?_
      clear hK19
      refine WC.block ?_
      refine WC.seq (fun K20 hK20 => ?_)
      refine WC.region ?_
      refine WL.val rfl rfl rfl (Run.eql rfl rfl rfl) ?_
      refine WL.val rfl rfl rfl (Run.assign rfl rfl) ?_
      refine WL.nil ?_
      refine tkN ?_
      refine hK20 _ _ ?_
      clear hK20
      refine WC.cond rfl (fun h21 => ?_) (fun h21 => ?_)
      · have qh21 := h21
        try simp only [decide_eq_true_eq, decide_eq_false_iff_not, Bool.not_eq_true', Bool.not_eq_false', Bool.and_eq_true, Bool.or_eq_false_iff, within_iff, within_not] at qh21
        refine WC.seq (fun K22 hK22 => ?_)
        refine WC.region ?_
        refine WL.val rfl rfl rfl (Run.assign rfl rfl) ?_
        refine WL.nil ?_
        refine tkN ?_
        refine hK22 _ _ ?_
        clear hK22
        refine WC.region ?_
        refine WL.val rfl rfl rfl (Run.assign rfl rfl) ?_
        refine WL.nil ?_
        refine ibN ?_
        refine tkN ?_
        refine hK18 _ _ ?_
        clear hK18
        refine WC.seq (fun K23 hK23 => ?_)
        refine WC.seq (fun K24 hK24 => ?_)
        refine WC.regionQ (fun w' => St _ _ _ w') mixed (by kernel_rfl) hs13.drew ?_
        refine WQ.val rfl rfl rfl (fun w_ hs_ => (Run.move rfl rfl)) ?_
        refine WQ.val rfl rfl rfl (fun w_ hs_ => (Run.idxB Try.runUnderlying75 Try.sizeOf4 rfl rfl rfl ?_ ?_)) ?_
        · omega
        · omega
        refine WQ.val rfl rfl rfl (fun w_ hs_ => (Run.loadL (hs_ : St _ _ _ _) 0 Try.isAgg4 rfl rfl rfl rfl)) ?_
        refine WQ.val rfl rfl rfl (fun w_ hs_ => (Run.field Try.runUnderlying27 rfl rfl rfl Try.sizeOf3 rfl)) ?_
        refine WQ.val rfl rfl rfl (fun w_ hs_ => (Run.loadL (hs_ : St _ _ _ _) 1 Try.isAgg3 rfl rfl rfl rfl)) ?_
        refine WQ.val rfl rfl rfl (fun w_ hs_ => (Run.move rfl rfl)) ?_
        refine WQ.call rfl rfl rfl (fun w_ hs_ => (Run.call Try.call46 rfl rfl rfl)) (fun w_ hs_ => (c_spec_l16In _ _ _ _ _).mono fun e_ w_ h_ => ⟨h_.1, (hs_ : St _ _ _ _).call0 h_.2⟩) ?_
        refine WQ.val rfl rfl rfl (fun w_ hs_ => (Run.not rfl rfl)) ?_
        refine WQ.val rfl rfl rfl (fun w_ hs_ => (Run.move rfl rfl)) ?_
        apply WQ.meetOr 10 36 46 [(0, _), (1, _), (2, _), (3, _), (4, _), (5, _), (6, _), (14, _), (15, _), (16, _), (17, _), (18, _), (19, _), (20, _), (21, _)] rfl
        · intro g25 J26
          refine WQ.val (wantF rfl g25) rfl rfl (fun w_ hs_ => (Run.move rfl rfl)) ?_
          refine WQ.val (wantF rfl g25) rfl rfl (fun w_ hs_ => (Run.idxB Try.runUnderlying75 Try.sizeOf4 rfl rfl rfl ?_ ?_)) ?_
          · omega
          · omega
          refine WQ.val (wantF rfl g25) rfl rfl (fun w_ hs_ => (Run.loadL (hs_ : St _ _ _ _) 0 Try.isAgg4 rfl rfl rfl rfl)) ?_
          refine WQ.val (wantF rfl g25) rfl rfl (fun w_ hs_ => (Run.field Try.runUnderlying27 rfl rfl rfl Try.sizeOf3 rfl)) ?_
          refine WQ.val (wantF rfl g25) rfl rfl (fun w_ hs_ => (Run.loadL (hs_ : St _ _ _ _) 1 Try.isAgg3 rfl rfl rfl rfl)) ?_
          refine WQ.val (wantF rfl g25) rfl rfl (fun w_ hs_ => (Run.move rfl rfl)) ?_
          refine WQ.val (wantF rfl g25) rfl rfl (fun w_ hs_ => (Run.move rfl rfl)) ?_
          refine WQ.call (wantF rfl g25) rfl rfl (fun w_ hs_ => (Run.call Try.call46 rfl rfl rfl)) (fun w_ hs_ => (c_spec_l16In _ _ _ _ _).mono fun e_ w_ h_ => ⟨h_.1, (hs_ : St _ _ _ _).call0 h_.2⟩) ?_
          refine WQ.val (wantF rfl g25) rfl rfl (fun w_ hs_ => (Run.not rfl rfl)) ?_
          refine WQ.val rfl rfl rfl (fun w_ hs_ => (Run.pickF rfl rfl g25 rfl)) ?_
          exact WQ.fin J26 rfl (orF g25) ⟨rfl, rfl, rfl, rfl, rfl, rfl, rfl, rfl, rfl, rfl, rfl, rfl, rfl, rfl, rfl, trivial⟩
        · intro g25 J26
          refine WQ.skip (wantNF rfl g25) rfl rfl ?_
          refine WQ.skip (wantNF rfl g25) rfl rfl ?_
          refine WQ.skip (wantNF rfl g25) rfl rfl ?_
          refine WQ.skip (wantNF rfl g25) rfl rfl ?_
          refine WQ.skip (wantNF rfl g25) rfl rfl ?_
          refine WQ.skip (wantNF rfl g25) rfl rfl ?_
          refine WQ.skip (wantNF rfl g25) rfl rfl ?_
          refine WQ.skip (wantNF rfl g25) rfl rfl ?_
          refine WQ.skip (wantNF rfl g25) rfl rfl ?_
          refine WQ.val rfl rfl rfl (fun w_ hs_ => (Run.pickT rfl rfl g25 rfl)) ?_
          exact WQ.fin J26 rfl (orT g25) ⟨rfl, rfl, rfl, rfl, rfl, rfl, rfl, rfl, rfl, rfl, rfl, rfl, rfl, rfl, rfl, trivial⟩
        · refine WQ.val rfl rfl rfl (fun w_ hs_ => (Run.move rfl rfl)) ?_
          apply WQ.meetOr 8 47 55 [(0, _), (1, _), (2, _), (3, _), (4, _), (5, _), (6, _), (14, _), (15, _), (16, _), (17, _), (18, _), (19, _), (20, _), (21, _)] rfl
          · intro g27 J28
            refine WQ.val (wantF rfl g27) rfl rfl (fun w_ hs_ => (Run.move rfl rfl)) ?_
            refine WQ.val (wantF rfl g27) rfl rfl (fun w_ hs_ => (Run.idxB Try.runUnderlying75 Try.sizeOf4 rfl rfl rfl ?_ ?_)) ?_
            · omega
            · omega
            refine WQ.val (wantF rfl g27) rfl rfl (fun w_ hs_ => (Run.loadL (hs_ : St _ _ _ _) 0 Try.isAgg4 rfl rfl rfl rfl)) ?_
            refine WQ.val (wantF rfl g27) rfl rfl (fun w_ hs_ => (Run.field Try.runUnderlying27 rfl rfl rfl Try.sizeOf3 rfl)) ?_
            refine WQ.val (wantF rfl g27) rfl rfl (fun w_ hs_ => (Run.loadL (hs_ : St _ _ _ _) 1 Try.isAgg3 rfl rfl rfl rfl)) ?_
            refine WQ.call (wantF rfl g27) rfl rfl (fun w_ hs_ => (Run.call Try.call46 rfl rfl rfl)) (fun w_ hs_ => (c_spec_l16In _ _ _ _ _).mono fun e_ w_ h_ => ⟨h_.1, (hs_ : St _ _ _ _).call0 h_.2⟩) ?_
            refine WQ.val (wantF rfl g27) rfl rfl (fun w_ hs_ => (Run.not rfl rfl)) ?_
            refine WQ.val rfl rfl rfl (fun w_ hs_ => (Run.pickF rfl rfl g27 rfl)) ?_
            exact WQ.fin J28 rfl (orF g27) ⟨rfl, rfl, rfl, rfl, rfl, rfl, rfl, rfl, rfl, rfl, rfl, rfl, rfl, rfl, rfl, trivial⟩
          · intro g27 J28
            refine WQ.skip (wantNF rfl g27) rfl rfl ?_
            refine WQ.skip (wantNF rfl g27) rfl rfl ?_
            refine WQ.skip (wantNF rfl g27) rfl rfl ?_
            refine WQ.skip (wantNF rfl g27) rfl rfl ?_
            refine WQ.skip (wantNF rfl g27) rfl rfl ?_
            refine WQ.skip (wantNF rfl g27) rfl rfl ?_
            refine WQ.skip (wantNF rfl g27) rfl rfl ?_
            refine WQ.val rfl rfl rfl (fun w_ hs_ => (Run.pickT rfl rfl g27 rfl)) ?_
            exact WQ.fin J28 rfl (orT g27) ⟨rfl, rfl, rfl, rfl, rfl, rfl, rfl, rfl, rfl, rfl, rfl, rfl, rfl, rfl, rfl, trivial⟩
          · refine WQ.val rfl rfl rfl (fun w_ hs_ => (Run.move rfl rfl)) ?_
            apply WQ.meetOr 9 56 65 [(0, _), (1, _), (2, _), (3, _), (4, _), (5, _), (6, _), (14, _), (15, _), (16, _), (17, _), (18, _), (19, _), (20, _), (21, _)] rfl
            · intro g29 J30
              refine WQ.val (wantF rfl g29) rfl rfl (fun w_ hs_ => (Run.move rfl rfl)) ?_
              refine WQ.val (wantF rfl g29) rfl rfl (fun w_ hs_ => (Run.idxB Try.runUnderlying75 Try.sizeOf4 rfl rfl rfl ?_ ?_)) ?_
              · omega
              · omega
              refine WQ.val (wantF rfl g29) rfl rfl (fun w_ hs_ => (Run.loadL (hs_ : St _ _ _ _) 0 Try.isAgg4 rfl rfl rfl rfl)) ?_
              refine WQ.val (wantF rfl g29) rfl rfl (fun w_ hs_ => (Run.field Try.runUnderlying27 rfl rfl rfl Try.sizeOf22 rfl)) ?_
              refine WQ.val (wantF rfl g29) rfl rfl (fun w_ hs_ => (Run.loadL (hs_ : St _ _ _ _) 1 Try.isAgg22 rfl rfl rfl rfl)) ?_
              refine WQ.val (wantF rfl g29) rfl rfl (fun w_ hs_ => (Run.lenSl Try.runUnderlying22 rfl rfl)) ?_
              refine WQ.call (wantF rfl g29) rfl rfl (fun w_ hs_ => (Run.call Try.call46 rfl rfl rfl)) (fun w_ hs_ => (c_spec_l16In _ _ _ _ _).mono fun e_ w_ h_ => ⟨h_.1, (hs_ : St _ _ _ _).call0 h_.2⟩) ?_
              refine WQ.val (wantF rfl g29) rfl rfl (fun w_ hs_ => (Run.not rfl rfl)) ?_
              refine WQ.val rfl rfl rfl (fun w_ hs_ => (Run.pickF rfl rfl g29 rfl)) ?_
              exact WQ.fin J30 rfl (orF g29) ⟨rfl, rfl, rfl, rfl, rfl, rfl, rfl, rfl, rfl, rfl, rfl, rfl, rfl, rfl, rfl, trivial⟩
            · intro g29 J30
              refine WQ.skip (wantNF rfl g29) rfl rfl ?_
              refine WQ.skip (wantNF rfl g29) rfl rfl ?_
              refine WQ.skip (wantNF rfl g29) rfl rfl ?_
              refine WQ.skip (wantNF rfl g29) rfl rfl ?_
              refine WQ.skip (wantNF rfl g29) rfl rfl ?_
              refine WQ.skip (wantNF rfl g29) rfl rfl ?_
              refine WQ.skip (wantNF rfl g29) rfl rfl ?_
              refine WQ.skip (wantNF rfl g29) rfl rfl ?_
              refine WQ.val rfl rfl rfl (fun w_ hs_ => (Run.pickT rfl rfl g29 rfl)) ?_
              exact WQ.fin J30 rfl (orT g29) ⟨rfl, rfl, rfl, rfl, rfl, rfl, rfl, rfl, rfl, rfl, rfl, rfl, rfl, rfl, rfl, trivial⟩
            · refine WQ.nil (fun whs31 hs31 => ?_)
              replace hs31 : St _ _ _ _ := hs31
              refine tkN ?_
              refine hK24 _ _ ?_
              clear hK24
              refine WC.cond rfl (fun h32 => ?_) (fun h32 => ?_)
              · have qh32 := h32
                try simp only [decide_eq_true_eq, decide_eq_false_iff_not, Bool.not_eq_true', Bool.not_eq_false', Bool.and_eq_true, Bool.or_eq_false_iff, within_iff, within_not] at qh32
                refine WC.seq (fun K33 hK33 => ?_)
                refine WC.region ?_
                refine WL.val rfl rfl rfl (Run.assign rfl rfl) ?_
                refine WL.nil ?_
                refine tkN ?_
                refine hK33 _ _ ?_
                clear hK33
                refine WC.ret ?_
                refine tkR ?_
                clear hK23
                refine retV1 rfl (resV.tmp rfl) ?_
                refine ⟨congrArg Ending.returned ?_, hs31.nil⟩
                rw [opOk_eq]; simp_all [opOkS, noText, isCmd] <;> grind
              · have qh32 := h32
                try simp only [decide_eq_true_eq, decide_eq_false_iff_not, Bool.not_eq_true', Bool.not_eq_false', Bool.and_eq_true, Bool.or_eq_false_iff, within_iff, within_not] at qh32
                refine WC.skip ?_
                refine tkN ?_
                refine hK23 _ _ ?_
                clear hK23
                refine WC.seq (fun K34 hK34 => ?_)
                refine WC.seq (fun K35 hK35 => ?_)
                refine WC.region ?_
                refine WL.val rfl rfl rfl (Run.field Try.runUnderlying27 rfl rfl rfl Try.sizeOf3 rfl) ?_
                refine WL.val rfl rfl rfl (Run.loadL hs31 1 Try.isAgg3 rfl rfl rfl rfl) ?_
                refine WL.val rfl rfl rfl (Run.eql rfl rfl rfl) ?_
                refine WL.val rfl rfl rfl (Run.move rfl rfl) ?_
                apply WL.meetAnd 4 69 73 [(0, _), (1, _), (2, _), (3, _), (4, _), (5, _), (6, _), (14, _), (15, _), (16, _), (17, _), (18, _), (19, _), (20, _), (21, _), (65, _)] rfl hs31
                · intro g36 J37
                  refine WL.val (wantT rfl g36) rfl rfl (Run.field Try.runUnderlying27 rfl rfl rfl Try.sizeOf3 rfl) ?_
                  refine WL.val (wantT rfl g36) rfl rfl (Run.loadL hs31 1 Try.isAgg3 rfl rfl rfl rfl) ?_
                  refine WL.val (wantT rfl g36) rfl rfl (Run.neq rfl rfl rfl) ?_
                  refine WL.val rfl rfl rfl (Run.pickT rfl rfl g36 rfl) ?_
                  exact WL.fin J37 hs31 rfl (andT g36) ⟨rfl, rfl, rfl, rfl, rfl, rfl, rfl, rfl, rfl, rfl, rfl, rfl, rfl, rfl, rfl, rfl, trivial⟩
                · intro g36 J37
                  refine WL.skip (wantNT rfl g36) rfl rfl ?_
                  refine WL.skip (wantNT rfl g36) rfl rfl ?_
                  refine WL.skip (wantNT rfl g36) rfl rfl ?_
                  refine WL.val rfl rfl rfl (Run.pickF rfl rfl g36 rfl) ?_
                  exact WL.fin J37 hs31 rfl (andF g36) ⟨rfl, rfl, rfl, rfl, rfl, rfl, rfl, rfl, rfl, rfl, rfl, rfl, rfl, rfl, rfl, rfl, trivial⟩
                · intro whs38 hs38
                  refine WL.val rfl rfl rfl (Run.move rfl rfl) ?_
                  apply WL.meetAnd 4 74 78 [(0, _), (1, _), (2, _), (3, _), (4, _), (5, _), (6, _), (14, _), (15, _), (16, _), (17, _), (18, _), (19, _), (20, _), (21, _), (65, _)] rfl hs38
                  · intro g39 J40
                    refine WL.val (wantT rfl g39) rfl rfl (Run.field Try.runUnderlying27 rfl rfl rfl Try.sizeOf3 rfl) ?_
                    refine WL.val (wantT rfl g39) rfl rfl (Run.loadL hs38 1 Try.isAgg3 rfl rfl rfl rfl) ?_
                    refine WL.val (wantT rfl g39) rfl rfl (Run.neq rfl rfl rfl) ?_
                    refine WL.val rfl rfl rfl (Run.pickT rfl rfl g39 rfl) ?_
                    exact WL.fin J40 hs38 rfl (andT g39) ⟨rfl, rfl, rfl, rfl, rfl, rfl, rfl, rfl, rfl, rfl, rfl, rfl, rfl, rfl, rfl, rfl, trivial⟩
                  · intro g39 J40
                    refine WL.skip (wantNT rfl g39) rfl rfl ?_
                    refine WL.skip (wantNT rfl g39) rfl rfl ?_
                    refine WL.skip (wantNT rfl g39) rfl rfl ?_
                    refine WL.val rfl rfl rfl (Run.pickF rfl rfl g39 rfl) ?_
                    exact WL.fin J40 hs38 rfl (andF g39) ⟨rfl, rfl, rfl, rfl, rfl, rfl, rfl, rfl, rfl, rfl, rfl, rfl, rfl, rfl, rfl, rfl, trivial⟩
                  · intro whs41 hs41
                    refine WL.val rfl rfl rfl (Run.move rfl rfl) ?_
                    apply WL.meetAnd 4 79 83 [(0, _), (1, _), (2, _), (3, _), (4, _), (5, _), (6, _), (14, _), (15, _), (16, _), (17, _), (18, _), (19, _), (20, _), (21, _), (65, _)] rfl hs41
                    · intro g42 J43
                      refine WL.val (wantT rfl g42) rfl rfl (Run.field Try.runUnderlying27 rfl rfl rfl Try.sizeOf3 rfl) ?_
                      refine WL.val (wantT rfl g42) rfl rfl (Run.loadL hs41 1 Try.isAgg3 rfl rfl rfl rfl) ?_
                      refine WL.val (wantT rfl g42) rfl rfl (Run.neq rfl rfl rfl) ?_
                      refine WL.val rfl rfl rfl (Run.pickT rfl rfl g42 rfl) ?_
                      exact WL.fin J43 hs41 rfl (andT g42) ⟨rfl, rfl, rfl, rfl, rfl, rfl, rfl, rfl, rfl, rfl, rfl, rfl, rfl, rfl, rfl, rfl, trivial⟩
                    · intro g42 J43
                      refine WL.skip (wantNT rfl g42) rfl rfl ?_
                      refine WL.skip (wantNT rfl g42) rfl rfl ?_
                      refine WL.skip (wantNT rfl g42) rfl rfl ?_
                      refine WL.val rfl rfl rfl (Run.pickF rfl rfl g42 rfl) ?_
                      exact WL.fin J43 hs41 rfl (andF g42) ⟨rfl, rfl, rfl, rfl, rfl, rfl, rfl, rfl, rfl, rfl, rfl, rfl, rfl, rfl, rfl, rfl, trivial⟩
                    · intro whs44 hs44
                      refine WL.val rfl rfl rfl (Run.move rfl rfl) ?_
                      apply WL.meetAnd 4 84 88 [(0, _), (1, _), (2, _), (3, _), (4, _), (5, _), (6, _), (14, _), (15, _), (16, _), (17, _), (18, _), (19, _), (20, _), (21, _), (65, _)] rfl hs44
                      · intro g45 J46
                        refine WL.val (wantT rfl g45) rfl rfl (Run.field Try.runUnderlying27 rfl rfl rfl Try.sizeOf3 rfl) ?_
                        refine WL.val (wantT rfl g45) rfl rfl (Run.loadL hs44 1 Try.isAgg3 rfl rfl rfl rfl) ?_
                        refine WL.val (wantT rfl g45) rfl rfl (Run.neq rfl rfl rfl) ?_
                        refine WL.val rfl rfl rfl (Run.pickT rfl rfl g45 rfl) ?_
                        exact WL.fin J46 hs44 rfl (andT g45) ⟨rfl, rfl, rfl, rfl, rfl, rfl, rfl, rfl, rfl, rfl, rfl, rfl, rfl, rfl, rfl, rfl, trivial⟩
                      · intro g45 J46
                        refine WL.skip (wantNT rfl g45) rfl rfl ?_
                        refine WL.skip (wantNT rfl g45) rfl rfl ?_
                        refine WL.skip (wantNT rfl g45) rfl rfl ?_
                        refine WL.val rfl rfl rfl (Run.pickF rfl rfl g45 rfl) ?_
                        exact WL.fin J46 hs44 rfl (andF g45) ⟨rfl, rfl, rfl, rfl, rfl, rfl, rfl, rfl, rfl, rfl, rfl, rfl, rfl, rfl, rfl, rfl, trivial⟩
                      · intro whs47 hs47
                        refine WL.nil ?_
                        refine tkN ?_
                        refine hK35 _ _ ?_
                        clear hK35
                        refine WC.cond rfl (fun h48 => ?_) (fun h48 => ?_)
                        · have qh48 := h48
                          try simp only [decide_eq_true_eq, decide_eq_false_iff_not, Bool.not_eq_true', Bool.not_eq_false', Bool.and_eq_true, Bool.or_eq_false_iff, within_iff, within_not] at qh48
                          refine WC.seq (fun K49 hK49 => ?_)
                          refine WC.region ?_
                          refine WL.val rfl rfl rfl (Run.assign rfl rfl) ?_
                          refine WL.nil ?_
                          refine tkN ?_
                          refine hK49 _ _ ?_
                          clear hK49
                          refine WC.ret ?_
                          refine tkR ?_
                          clear hK34
                          refine retV1 rfl (resV.tmp rfl) ?_
                          refine ⟨congrArg Ending.returned ?_, hs47.nil⟩
                          rw [opOk_eq]; simp_all [opOkS, noText, isCmd] <;> grind
                        · have qh48 := h48
                          try simp only [decide_eq_true_eq, decide_eq_false_iff_not, Bool.not_eq_true', Bool.not_eq_false', Bool.and_eq_true, Bool.or_eq_false_iff, within_iff, within_not] at qh48
                          refine WC.skip ?_
                          refine tkN ?_
                          refine hK34 _ _ ?_
                          clear hK34
                          refine WC.seq (fun K50 hK50 => ?_)
                          refine WC.seq (fun K51 hK51 => ?_)
                          refine WC.region ?_
                          refine WL.val rfl rfl rfl (Run.move rfl rfl) ?_
                          refine WL.val rfl rfl rfl (Run.idxB Try.runUnderlying75 Try.sizeOf4 rfl rfl rfl ?_ ?_) ?_
                          · omega
                          · omega
                          refine WL.val rfl rfl rfl (Run.loadL hs47 0 Try.isAgg4 rfl rfl rfl rfl) ?_
                          refine WL.val rfl rfl rfl (Run.move rfl rfl) ?_
                          apply WL.meetAnd 5 92 97 [(0, _), (1, _), (2, _), (3, _), (4, _), (5, _), (6, _), (14, _), (15, _), (16, _), (17, _), (18, _), (19, _), (20, _), (21, _), (65, _), (88, _)] rfl hs47
                          · intro g52 J53
                            refine WL.val (wantT rfl g52) rfl rfl (Run.field Try.runUnderlying27 rfl rfl rfl Try.sizeOf9 rfl) ?_
                            refine WL.val (wantT rfl g52) rfl rfl (Run.loadL hs47 1 Try.isAgg9 rfl rfl rfl rfl) ?_
                            refine WL.call (wantT rfl g52) rfl rfl (Run.call Try.call47 rfl rfl rfl) (c_spec_WordOk _ _ ?_) ?_
                            · first | assumption | rfl | omega
                            rintro _ whs54 ⟨rfl, hs54⟩
                            replace hs54 := hs47.call0 hs54
                            refine ⟨_, rfl, ?_⟩
                            refine WL.val (wantT rfl g52) rfl rfl (Run.not rfl rfl) ?_
                            refine WL.val rfl rfl rfl (Run.pickT rfl rfl g52 rfl) ?_
                            exact WL.fin J53 hs54 rfl (andT g52) ⟨rfl, rfl, rfl, rfl, rfl, rfl, rfl, rfl, rfl, rfl, rfl, rfl, rfl, rfl, rfl, rfl, rfl, trivial⟩
                          · intro g52 J53
                            refine WL.skip (wantNT rfl g52) rfl rfl ?_
                            refine WL.skip (wantNT rfl g52) rfl rfl ?_
                            refine WL.skip (wantNT rfl g52) rfl rfl ?_
                            refine WL.skip (wantNT rfl g52) rfl rfl ?_
                            refine WL.val rfl rfl rfl (Run.pickF rfl rfl g52 rfl) ?_
                            exact WL.fin J53 hs47 rfl (andF g52) ⟨rfl, rfl, rfl, rfl, rfl, rfl, rfl, rfl, rfl, rfl, rfl, rfl, rfl, rfl, rfl, rfl, rfl, trivial⟩
                          · intro whs55 hs55
                            refine WL.val rfl rfl rfl (Run.move rfl rfl) ?_
                            apply WL.meetOr 10 98 108 [(0, _), (1, _), (2, _), (3, _), (4, _), (5, _), (6, _), (14, _), (15, _), (16, _), (17, _), (18, _), (19, _), (20, _), (21, _), (65, _), (88, _)] rfl hs55
                            · intro g56 J57
                              refine WL.val (wantF rfl g56) rfl rfl (Run.move rfl rfl) ?_
                              refine WL.val (wantF rfl g56) rfl rfl (Run.idxB Try.runUnderlying75 Try.sizeOf4 rfl rfl rfl ?_ ?_) ?_
                              · omega
                              · omega
                              refine WL.val (wantF rfl g56) rfl rfl (Run.loadL hs55 0 Try.isAgg4 rfl rfl rfl rfl) ?_
                              refine WL.val (wantF rfl g56) rfl rfl (Run.not rfl rfl) ?_
                              refine WL.val (wantF rfl g56) rfl rfl (Run.move rfl rfl) ?_
                              apply WL.meetAnd 4 103 107 [(0, _), (1, _), (2, _), (3, _), (4, _), (5, _), (6, _), (14, _), (15, _), (16, _), (17, _), (18, _), (19, _), (20, _), (21, _), (65, _), (88, _), (98, _)] rfl hs55
                              · intro g58 J59
                                refine WL.val (wantT rfl g58) rfl rfl (Run.field Try.runUnderlying27 rfl rfl rfl Try.sizeOf9 rfl) ?_
                                refine WL.val (wantT rfl g58) rfl rfl (Run.loadL hs55 1 Try.isAgg9 rfl rfl rfl rfl) ?_
                                refine WL.val (wantT rfl g58) rfl rfl (Run.neqS rfl rfl rfl) ?_
                                refine WL.val (wantF rfl g56) rfl rfl (Run.pickT rfl rfl g58 rfl) ?_
                                exact WL.fin J59 hs55 rfl (andT g58) ⟨rfl, rfl, rfl, rfl, rfl, rfl, rfl, rfl, rfl, rfl, rfl, rfl, rfl, rfl, rfl, rfl, rfl, rfl, trivial⟩
                              · intro g58 J59
                                refine WL.skip (wantNT rfl g58) rfl rfl ?_
                                refine WL.skip (wantNT rfl g58) rfl rfl ?_
                                refine WL.skip (wantNT rfl g58) rfl rfl ?_
                                refine WL.val (wantF rfl g56) rfl rfl (Run.pickF rfl rfl g58 rfl) ?_
                                exact WL.fin J59 hs55 rfl (andF g58) ⟨rfl, rfl, rfl, rfl, rfl, rfl, rfl, rfl, rfl, rfl, rfl, rfl, rfl, rfl, rfl, rfl, rfl, rfl, trivial⟩
                              · intro whs60 hs60
                                refine WL.val rfl rfl rfl (Run.pickF rfl rfl g56 rfl) ?_
                                exact WL.fin J57 hs60 rfl (orF g56) ⟨rfl, rfl, rfl, rfl, rfl, rfl, rfl, rfl, rfl, rfl, rfl, rfl, rfl, rfl, rfl, rfl, rfl, trivial⟩
                            · intro g56 J57
                              refine WL.skip (wantNF rfl g56) rfl rfl ?_
                              refine WL.skip (wantNF rfl g56) rfl rfl ?_
                              refine WL.skip (wantNF rfl g56) rfl rfl ?_
                              refine WL.skip (wantNF rfl g56) rfl rfl ?_
                              refine WL.skip (wantNF rfl g56) rfl rfl ?_
                              refine WL.skip rfl rfl rfl ?_
                              refine WL.skip rfl rfl rfl ?_
                              refine WL.skip rfl rfl rfl ?_
                              refine WL.skip (wantNF rfl g56) rfl rfl ?_
                              refine WL.val rfl rfl rfl (Run.pickT rfl rfl g56 rfl) ?_
                              exact WL.fin J57 hs55 rfl (orT g56) ⟨rfl, rfl, rfl, rfl, rfl, rfl, rfl, rfl, rfl, rfl, rfl, rfl, rfl, rfl, rfl, rfl, rfl, trivial⟩
                            · intro whs61 hs61
                              refine WL.val rfl rfl rfl (Run.move rfl rfl) ?_
                              apply WL.meetOr 15 109 124 [(0, _), (1, _), (2, _), (3, _), (4, _), (5, _), (6, _), (14, _), (15, _), (16, _), (17, _), (18, _), (19, _), (20, _), (21, _), (65, _), (88, _)] rfl hs61
                              · intro g62 J63
                                refine WL.val (wantF rfl g62) rfl rfl (Run.move rfl rfl) ?_
                                refine WL.val (wantF rfl g62) rfl rfl (Run.idxB Try.runUnderlying75 Try.sizeOf4 rfl rfl rfl ?_ ?_) ?_
                                · omega
                                · omega
                                refine WL.val (wantF rfl g62) rfl rfl (Run.loadL hs61 0 Try.isAgg4 rfl rfl rfl rfl) ?_
                                refine WL.val (wantF rfl g62) rfl rfl (Run.not rfl rfl) ?_
                                refine WL.val (wantF rfl g62) rfl rfl (Run.move rfl rfl) ?_
                                apply WL.meetAnd 9 114 123 [(0, _), (1, _), (2, _), (3, _), (4, _), (5, _), (6, _), (14, _), (15, _), (16, _), (17, _), (18, _), (19, _), (20, _), (21, _), (65, _), (88, _), (109, _)] rfl hs61
                                · intro g64 J65
                                  refine WL.val (wantT rfl g64) rfl rfl (Run.field Try.runUnderlying27 rfl rfl rfl Try.sizeOf9 rfl) ?_
                                  refine WL.val (wantT rfl g64) rfl rfl (Run.loadL hs61 1 Try.isAgg9 rfl rfl rfl rfl) ?_
                                  refine WL.val (wantT rfl g64) rfl rfl (Run.neqS rfl rfl rfl) ?_
                                  refine WL.val (wantT rfl g64) rfl rfl (Run.move rfl rfl) ?_
                                  apply WL.meetOr 4 118 122 [(0, _), (1, _), (2, _), (3, _), (4, _), (5, _), (6, _), (14, _), (15, _), (16, _), (17, _), (18, _), (19, _), (20, _), (21, _), (65, _), (88, _), (109, _), (114, _)] rfl hs61
                                  · intro g66 J67
                                    refine WL.val (wantF rfl g66) rfl rfl (Run.field Try.runUnderlying27 rfl rfl rfl Try.sizeOf9 rfl) ?_
                                    refine WL.val (wantF rfl g66) rfl rfl (Run.loadL hs61 1 Try.isAgg9 rfl rfl rfl rfl) ?_
                                    refine WL.val (wantF rfl g66) rfl rfl (Run.neqS rfl rfl rfl) ?_
                                    refine WL.val (wantT rfl g64) rfl rfl (Run.pickF rfl rfl g66 rfl) ?_
                                    exact WL.fin J67 hs61 rfl (orF g66) ⟨rfl, rfl, rfl, rfl, rfl, rfl, rfl, rfl, rfl, rfl, rfl, rfl, rfl, rfl, rfl, rfl, rfl, rfl, rfl, trivial⟩
                                  · intro g66 J67
                                    refine WL.skip (wantNF rfl g66) rfl rfl ?_
                                    refine WL.skip (wantNF rfl g66) rfl rfl ?_
                                    refine WL.skip (wantNF rfl g66) rfl rfl ?_
                                    refine WL.val (wantT rfl g64) rfl rfl (Run.pickT rfl rfl g66 rfl) ?_
                                    exact WL.fin J67 hs61 rfl (orT g66) ⟨rfl, rfl, rfl, rfl, rfl, rfl, rfl, rfl, rfl, rfl, rfl, rfl, rfl, rfl, rfl, rfl, rfl, rfl, rfl, trivial⟩
                                  · intro whs68 hs68
                                    refine WL.val (wantF rfl g62) rfl rfl (Run.pickT rfl rfl g64 rfl) ?_
                                    exact WL.fin J65 hs68 rfl (andT g64) ⟨rfl, rfl, rfl, rfl, rfl, rfl, rfl, rfl, rfl, rfl, rfl, rfl, rfl, rfl, rfl, rfl, rfl, rfl, trivial⟩
                                · intro g64 J65
                                  refine WL.skip (wantNT rfl g64) rfl rfl ?_
                                  refine WL.skip (wantNT rfl g64) rfl rfl ?_
                                  refine WL.skip (wantNT rfl g64) rfl rfl ?_
                                  refine WL.skip (wantNT rfl g64) rfl rfl ?_
                                  refine WL.skip rfl rfl rfl ?_
                                  refine WL.skip rfl rfl rfl ?_
                                  refine WL.skip rfl rfl rfl ?_
                                  refine WL.skip (wantNT rfl g64) rfl rfl ?_
                                  refine WL.val (wantF rfl g62) rfl rfl (Run.pickF rfl rfl g64 rfl) ?_
                                  exact WL.fin J65 hs61 rfl (andF g64) ⟨rfl, rfl, rfl, rfl, rfl, rfl, rfl, rfl, rfl, rfl, rfl, rfl, rfl, rfl, rfl, rfl, rfl, rfl, trivial⟩
                                · intro whs69 hs69
                                  refine WL.val rfl rfl rfl (Run.pickF rfl rfl g62 rfl) ?_
                                  exact WL.fin J63 hs69 rfl (orF g62) ⟨rfl, rfl, rfl, rfl, rfl, rfl, rfl, rfl, rfl, rfl, rfl, rfl, rfl, rfl, rfl, rfl, rfl, trivial⟩
                              · intro g62 J63
                                refine WL.skip (wantNF rfl g62) rfl rfl ?_
                                refine WL.skip (wantNF rfl g62) rfl rfl ?_
                                refine WL.skip (wantNF rfl g62) rfl rfl ?_
                                refine WL.skip (wantNF rfl g62) rfl rfl ?_
                                refine WL.skip (wantNF rfl g62) rfl rfl ?_
                                refine WL.skip rfl rfl rfl ?_
                                refine WL.skip rfl rfl rfl ?_
                                refine WL.skip rfl rfl rfl ?_
                                refine WL.skip rfl rfl rfl ?_
                                refine WL.skip rfl rfl rfl ?_
                                refine WL.skip rfl rfl rfl ?_
                                refine WL.skip rfl rfl rfl ?_
                                refine WL.skip rfl rfl rfl ?_
                                refine WL.skip (wantNF rfl g62) rfl rfl ?_
                                refine WL.val rfl rfl rfl (Run.pickT rfl rfl g62 rfl) ?_
                                exact WL.fin J63 hs61 rfl (orT g62) ⟨rfl, rfl, rfl, rfl, rfl, rfl, rfl, rfl, rfl, rfl, rfl, rfl, rfl, rfl, rfl, rfl, rfl, trivial⟩
                              · intro whs70 hs70
                                refine WL.nil ?_
                                refine tkN ?_
                                refine hK51 _ _ ?_
                                clear hK51
                                refine WC.cond rfl (fun h71 => ?_) (fun h71 => ?_)
                                · have qh71 := h71
                                  try simp only [decide_eq_true_eq, decide_eq_false_iff_not, Bool.not_eq_true', Bool.not_eq_false', Bool.and_eq_true, Bool.or_eq_false_iff, within_iff, within_not] at qh71
                                  refine WC.seq (fun K72 hK72 => ?_)
                                  refine WC.region ?_
                                  refine WL.val rfl rfl rfl (Run.assign rfl rfl) ?_
                                  refine WL.nil ?_
                                  refine tkN ?_
                                  refine hK72 _ _ ?_
                                  clear hK72
                                  refine WC.ret ?_
                                  refine tkR ?_
                                  clear hK50
                                  refine retV1 rfl (resV.tmp rfl) ?_
                                  refine ⟨congrArg Ending.returned ?_, hs70.nil⟩
                                  rw [opOk_eq]; simp_all [opOkS, noText, isCmd] <;> grind
                                · have qh71 := h71
                                  try simp only [decide_eq_true_eq, decide_eq_false_iff_not, Bool.not_eq_true', Bool.not_eq_false', Bool.and_eq_true, Bool.or_eq_false_iff, within_iff, within_not] at qh71
                                  refine WC.skip ?_
                                  refine tkN ?_
                                  refine hK50 _ _ ?_
                                  clear hK50
                                  refine WC.seq (fun K73 hK73 => ?_)
                                  refine WC.region ?_
                                  refine WL.val rfl rfl rfl (Run.field Try.runUnderlying27 rfl rfl rfl Try.sizeOf9 rfl) ?_
                                  refine WL.val rfl rfl rfl (Run.loadL hs70 1 Try.isAgg9 rfl rfl rfl rfl) ?_
                                  refine WL.val rfl rfl rfl (Run.lenStr Try.runUnderlying9 rfl rfl) ?_
                                  refine WL.val rfl rfl rfl (Run.leq rfl rfl rfl) ?_
                                  refine WL.val rfl rfl rfl (Run.move rfl rfl) ?_
                                  apply WL.meetAnd 5 129 134 [(0, _), (1, _), (2, _), (3, _), (4, _), (5, _), (6, _), (14, _), (15, _), (16, _), (17, _), (18, _), (19, _), (20, _), (21, _), (65, _), (88, _), (124, _)] rfl hs70
                                  · intro g74 J75
                                    refine WL.val (wantT rfl g74) rfl rfl (Run.field Try.runUnderlying27 rfl rfl rfl Try.sizeOf9 rfl) ?_
                                    refine WL.val (wantT rfl g74) rfl rfl (Run.loadL hs70 1 Try.isAgg9 rfl rfl rfl rfl) ?_
                                    refine WL.val (wantT rfl g74) rfl rfl (Run.lenStr Try.runUnderlying9 rfl rfl) ?_
                                    refine WL.val (wantT rfl g74) rfl rfl (Run.leq rfl rfl rfl) ?_
                                    refine WL.val rfl rfl rfl (Run.pickT rfl rfl g74 rfl) ?_
                                    exact WL.fin J75 hs70 rfl (andT g74) ⟨rfl, rfl, rfl, rfl, rfl, rfl, rfl, rfl, rfl, rfl, rfl, rfl, rfl, rfl, rfl, rfl, rfl, rfl, trivial⟩
                                  · intro g74 J75
                                    refine WL.skip (wantNT rfl g74) rfl rfl ?_
                                    refine WL.skip (wantNT rfl g74) rfl rfl ?_
                                    refine WL.skip (wantNT rfl g74) rfl rfl ?_
                                    refine WL.skip (wantNT rfl g74) rfl rfl ?_
                                    refine WL.val rfl rfl rfl (Run.pickF rfl rfl g74 rfl) ?_
                                    exact WL.fin J75 hs70 rfl (andF g74) ⟨rfl, rfl, rfl, rfl, rfl, rfl, rfl, rfl, rfl, rfl, rfl, rfl, rfl, rfl, rfl, rfl, rfl, rfl, trivial⟩
                                  · intro whs76 hs76
                                    refine WL.val rfl rfl rfl (Run.assign rfl rfl) ?_
                                    refine WL.nil ?_
                                    refine tkN ?_
                                    refine hK73 _ _ ?_
                                    clear hK73
                                    refine WC.ret ?_
                                    refine retV1 rfl (resV.tmp rfl) ?_
                                    refine ⟨congrArg Ending.returned ?_, hs76.nil⟩
                                    rw [opOk_eq]; simp_all [opOkS, noText, isCmd] <;> grind
      · have qh21 := h21
        try simp only [decide_eq_true_eq, decide_eq_false_iff_not, Bool.not_eq_true', Bool.not_eq_false', Bool.and_eq_true, Bool.or_eq_false_iff, within_iff, within_not] at qh21
        refine WC.seq (fun K77 hK77 => ?_)
        refine WC.region ?_
        refine WL.val rfl rfl rfl (Run.eql rfl rfl rfl) ?_
        refine WL.val rfl rfl rfl (Run.assign rfl rfl) ?_
        refine WL.nil ?_
        refine tkN ?_
        refine hK77 _ _ ?_
        clear hK77
        refine WC.cond rfl (fun h78 => ?_) (fun h78 => ?_)
        · have qh78 := h78
          try simp only [decide_eq_true_eq, decide_eq_false_iff_not, Bool.not_eq_true', Bool.not_eq_false', Bool.and_eq_true, Bool.or_eq_false_iff, within_iff, within_not] at qh78
          refine WC.seq (fun K79 hK79 => ?_)
          refine WC.region ?_
          refine WL.val rfl rfl rfl (Run.assign rfl rfl) ?_
          refine WL.nil ?_
          refine tkN ?_
          refine hK79 _ _ ?_
          clear hK79
          refine WC.region ?_
          refine WL.val rfl rfl rfl (Run.assign rfl rfl) ?_
          refine WL.nil ?_
          refine ibN ?_
          refine tkN ?_
          refine hK18 _ _ ?_
          clear hK18
          refine WC.seq (fun K80 hK80 => ?_)
          refine WC.seq (fun K81 hK81 => ?_)
          refine WC.regionQ (fun w' => St _ _ _ w') mixed (by kernel_rfl) hs13.drew ?_
          refine WQ.val rfl rfl rfl (fun w_ hs_ => (Run.move rfl rfl)) ?_
          refine WQ.val rfl rfl rfl (fun w_ hs_ => (Run.idxB Try.runUnderlying75 Try.sizeOf4 rfl rfl rfl ?_ ?_)) ?_
          · omega
          · omega
          refine WQ.val rfl rfl rfl (fun w_ hs_ => (Run.loadL (hs_ : St _ _ _ _) 0 Try.isAgg4 rfl rfl rfl rfl)) ?_
          refine WQ.val rfl rfl rfl (fun w_ hs_ => (Run.field Try.runUnderlying27 rfl rfl rfl Try.sizeOf3 rfl)) ?_
          refine WQ.val rfl rfl rfl (fun w_ hs_ => (Run.loadL (hs_ : St _ _ _ _) 1 Try.isAgg3 rfl rfl rfl rfl)) ?_
          refine WQ.val rfl rfl rfl (fun w_ hs_ => (Run.move rfl rfl)) ?_
          refine WQ.call rfl rfl rfl (fun w_ hs_ => (Run.call Try.call46 rfl rfl rfl)) (fun w_ hs_ => (c_spec_l16In _ _ _ _ _).mono fun e_ w_ h_ => ⟨h_.1, (hs_ : St _ _ _ _).call0 h_.2⟩) ?_
          refine WQ.val rfl rfl rfl (fun w_ hs_ => (Run.not rfl rfl)) ?_
          refine WQ.val rfl rfl rfl (fun w_ hs_ => (Run.move rfl rfl)) ?_
          apply WQ.meetOr 10 36 46 [(0, _), (1, _), (2, _), (3, _), (4, _), (5, _), (6, _), (14, _), (15, _), (16, _), (17, _), (18, _), (19, _), (20, _), (21, _), (22, _), (23, _)] rfl
          · intro g82 J83
            refine WQ.val (wantF rfl g82) rfl rfl (fun w_ hs_ => (Run.move rfl rfl)) ?_
            refine WQ.val (wantF rfl g82) rfl rfl (fun w_ hs_ => (Run.idxB Try.runUnderlying75 Try.sizeOf4 rfl rfl rfl ?_ ?_)) ?_
            · omega
            · omega
            refine WQ.val (wantF rfl g82) rfl rfl (fun w_ hs_ => (Run.loadL (hs_ : St _ _ _ _) 0 Try.isAgg4 rfl rfl rfl rfl)) ?_
            refine WQ.val (wantF rfl g82) rfl rfl (fun w_ hs_ => (Run.field Try.runUnderlying27 rfl rfl rfl Try.sizeOf3 rfl)) ?_
            refine WQ.val (wantF rfl g82) rfl rfl (fun w_ hs_ => (Run.loadL (hs_ : St _ _ _ _) 1 Try.isAgg3 rfl rfl rfl rfl)) ?_
            refine WQ.val (wantF rfl g82) rfl rfl (fun w_ hs_ => (Run.move rfl rfl)) ?_
            refine WQ.val (wantF rfl g82) rfl rfl (fun w_ hs_ => (Run.move rfl rfl)) ?_
            refine WQ.call (wantF rfl g82) rfl rfl (fun w_ hs_ => (Run.call Try.call46 rfl rfl rfl)) (fun w_ hs_ => (c_spec_l16In _ _ _ _ _).mono fun e_ w_ h_ => ⟨h_.1, (hs_ : St _ _ _ _).call0 h_.2⟩) ?_
            refine WQ.val (wantF rfl g82) rfl rfl (fun w_ hs_ => (Run.not rfl rfl)) ?_
            refine WQ.val rfl rfl rfl (fun w_ hs_ => (Run.pickF rfl rfl g82 rfl)) ?_
            exact WQ.fin J83 rfl (orF g82) ⟨rfl, rfl, rfl, rfl, rfl, rfl, rfl, rfl, rfl, rfl, rfl, rfl, rfl, rfl, rfl, rfl, rfl, trivial⟩
          · intro g82 J83
            refine WQ.skip (wantNF rfl g82) rfl rfl ?_
            refine WQ.skip (wantNF rfl g82) rfl rfl ?_
            refine WQ.skip (wantNF rfl g82) rfl rfl ?_
            refine WQ.skip (wantNF rfl g82) rfl rfl ?_
            refine WQ.skip (wantNF rfl g82) rfl rfl ?_
            refine WQ.skip (wantNF rfl g82) rfl rfl ?_
            refine WQ.skip (wantNF rfl g82) rfl rfl ?_
            refine WQ.skip (wantNF rfl g82) rfl rfl ?_
            refine WQ.skip (wantNF rfl g82) rfl rfl ?_
            refine WQ.val rfl rfl rfl (fun w_ hs_ => (Run.pickT rfl rfl g82 rfl)) ?_
            exact WQ.fin J83 rfl (orT g82) ⟨rfl, rfl, rfl, rfl, rfl, rfl, rfl, rfl, rfl, rfl, rfl, rfl, rfl, rfl, rfl, rfl, rfl, trivial⟩
          · refine WQ.val rfl rfl rfl (fun w_ hs_ => (Run.move rfl rfl)) ?_
            apply WQ.meetOr 8 47 55 [(0, _), (1, _), (2, _), (3, _), (4, _), (5, _), (6, _), (14, _), (15, _), (16, _), (17, _), (18, _), (19, _), (20, _), (21, _), (22, _), (23, _)] rfl
            · intro g84 J85
              refine WQ.val (wantF rfl g84) rfl rfl (fun w_ hs_ => (Run.move rfl rfl)) ?_
              refine WQ.val (wantF rfl g84) rfl rfl (fun w_ hs_ => (Run.idxB Try.runUnderlying75 Try.sizeOf4 rfl rfl rfl ?_ ?_)) ?_
              · omega
              · omega
              refine WQ.val (wantF rfl g84) rfl rfl (fun w_ hs_ => (Run.loadL (hs_ : St _ _ _ _) 0 Try.isAgg4 rfl rfl rfl rfl)) ?_
              refine WQ.val (wantF rfl g84) rfl rfl (fun w_ hs_ => (Run.field Try.runUnderlying27 rfl rfl rfl Try.sizeOf3 rfl)) ?_
              refine WQ.val (wantF rfl g84) rfl rfl (fun w_ hs_ => (Run.loadL (hs_ : St _ _ _ _) 1 Try.isAgg3 rfl rfl rfl rfl)) ?_
              refine WQ.call (wantF rfl g84) rfl rfl (fun w_ hs_ => (Run.call Try.call46 rfl rfl rfl)) (fun w_ hs_ => (c_spec_l16In _ _ _ _ _).mono fun e_ w_ h_ => ⟨h_.1, (hs_ : St _ _ _ _).call0 h_.2⟩) ?_
              refine WQ.val (wantF rfl g84) rfl rfl (fun w_ hs_ => (Run.not rfl rfl)) ?_
              refine WQ.val rfl rfl rfl (fun w_ hs_ => (Run.pickF rfl rfl g84 rfl)) ?_
              exact WQ.fin J85 rfl (orF g84) ⟨rfl, rfl, rfl, rfl, rfl, rfl, rfl, rfl, rfl, rfl, rfl, rfl, rfl, rfl, rfl, rfl, rfl, trivial⟩
            · intro g84 J85
              refine WQ.skip (wantNF rfl g84) rfl rfl ?_
              refine WQ.skip (wantNF rfl g84) rfl rfl ?_
              refine WQ.skip (wantNF rfl g84) rfl rfl ?_
              refine WQ.skip (wantNF rfl g84) rfl rfl ?_
              refine WQ.skip (wantNF rfl g84) rfl rfl ?_
              refine WQ.skip (wantNF rfl g84) rfl rfl ?_
              refine WQ.skip (wantNF rfl g84) rfl rfl ?_
              refine WQ.val rfl rfl rfl (fun w_ hs_ => (Run.pickT rfl rfl g84 rfl)) ?_
              exact WQ.fin J85 rfl (orT g84) ⟨rfl, rfl, rfl, rfl, rfl, rfl, rfl, rfl, rfl, rfl, rfl, rfl, rfl, rfl, rfl, rfl, rfl, trivial⟩
            · refine WQ.val rfl rfl rfl (fun w_ hs_ => (Run.move rfl rfl)) ?_
              apply WQ.meetOr 9 56 65 [(0, _), (1, _), (2, _), (3, _), (4, _), (5, _), (6, _), (14, _), (15, _), (16, _), (17, _), (18, _), (19, _), (20, _), (21, _), (22, _), (23, _)] rfl
              · intro g86 J87
                refine WQ.val (wantF rfl g86) rfl rfl (fun w_ hs_ => (Run.move rfl rfl)) ?_
                refine WQ.val (wantF rfl g86) rfl rfl (fun w_ hs_ => (Run.idxB Try.runUnderlying75 Try.sizeOf4 rfl rfl rfl ?_ ?_)) ?_
                · omega
                · omega
                refine WQ.val (wantF rfl g86) rfl rfl (fun w_ hs_ => (Run.loadL (hs_ : St _ _ _ _) 0 Try.isAgg4 rfl rfl rfl rfl)) ?_
                refine WQ.val (wantF rfl g86) rfl rfl (fun w_ hs_ => (Run.field Try.runUnderlying27 rfl rfl rfl Try.sizeOf22 rfl)) ?_
                refine WQ.val (wantF rfl g86) rfl rfl (fun w_ hs_ => (Run.loadL (hs_ : St _ _ _ _) 1 Try.isAgg22 rfl rfl rfl rfl)) ?_
                refine WQ.val (wantF rfl g86) rfl rfl (fun w_ hs_ => (Run.lenSl Try.runUnderlying22 rfl rfl)) ?_
                refine WQ.call (wantF rfl g86) rfl rfl (fun w_ hs_ => (Run.call Try.call46 rfl rfl rfl)) (fun w_ hs_ => (c_spec_l16In _ _ _ _ _).mono fun e_ w_ h_ => ⟨h_.1, (hs_ : St _ _ _ _).call0 h_.2⟩) ?_
                refine WQ.val (wantF rfl g86) rfl rfl (fun w_ hs_ => (Run.not rfl rfl)) ?_
                refine WQ.val rfl rfl rfl (fun w_ hs_ => (Run.pickF rfl rfl g86 rfl)) ?_
                exact WQ.fin J87 rfl (orF g86) ⟨rfl, rfl, rfl, rfl, rfl, rfl, rfl, rfl, rfl, rfl, rfl, rfl, rfl, rfl, rfl, rfl, rfl, trivial⟩
              · intro g86 J87
                refine WQ.skip (wantNF rfl g86) rfl rfl ?_
                refine WQ.skip (wantNF rfl g86) rfl rfl ?_
                refine WQ.skip (wantNF rfl g86) rfl rfl ?_
                refine WQ.skip (wantNF rfl g86) rfl rfl ?_
                refine WQ.skip (wantNF rfl g86) rfl rfl ?_
                refine WQ.skip (wantNF rfl g86) rfl rfl ?_
                refine WQ.skip (wantNF rfl g86) rfl rfl ?_
                refine WQ.skip (wantNF rfl g86) rfl rfl ?_
                refine WQ.val rfl rfl rfl (fun w_ hs_ => (Run.pickT rfl rfl g86 rfl)) ?_
                exact WQ.fin J87 rfl (orT g86) ⟨rfl, rfl, rfl, rfl, rfl, rfl, rfl, rfl, rfl, rfl, rfl, rfl, rfl, rfl, rfl, rfl, rfl, trivial⟩
              · refine WQ.nil (fun whs88 hs88 => ?_)
                replace hs88 : St _ _ _ _ := hs88
                refine tkN ?_
                refine hK81 _ _ ?_
                clear hK81
                refine WC.cond rfl (fun h89 => ?_) (fun h89 => ?_)
                · have qh89 := h89
                  try simp only [decide_eq_true_eq, decide_eq_false_iff_not, Bool.not_eq_true', Bool.not_eq_false', Bool.and_eq_true, Bool.or_eq_false_iff, within_iff, within_not] at qh89
                  refine WC.seq (fun K90 hK90 => ?_)
                  refine WC.region ?_
                  refine WL.val rfl rfl rfl (Run.assign rfl rfl) ?_
                  refine WL.nil ?_
                  refine tkN ?_
                  refine hK90 _ _ ?_
                  clear hK90
                  refine WC.ret ?_
                  refine tkR ?_
                  clear hK80
                  refine retV1 rfl (resV.tmp rfl) ?_
                  refine ⟨congrArg Ending.returned ?_, hs88.nil⟩
                  rw [opOk_eq]; simp_all [opOkS, noText, isCmd] <;> grind
                · have qh89 := h89
                  try simp only [decide_eq_true_eq, decide_eq_false_iff_not, Bool.not_eq_true', Bool.not_eq_false', Bool.and_eq_true, Bool.or_eq_false_iff, within_iff, within_not] at qh89
                  refine WC.skip ?_
                  refine tkN ?_
                  refine hK80 _ _ ?_
                  clear hK80
                  refine WC.seq (fun K91 hK91 => ?_)
                  refine WC.seq (fun K92 hK92 => ?_)
                  refine WC.region ?_
                  refine WL.val rfl rfl rfl (Run.field Try.runUnderlying27 rfl rfl rfl Try.sizeOf3 rfl) ?_
                  refine WL.val rfl rfl rfl (Run.loadL hs88 1 Try.isAgg3 rfl rfl rfl rfl) ?_
                  refine WL.val rfl rfl rfl (Run.eql rfl rfl rfl) ?_
                  refine WL.val rfl rfl rfl (Run.move rfl rfl) ?_
                  apply WL.meetAnd 4 69 73 [(0, _), (1, _), (2, _), (3, _), (4, _), (5, _), (6, _), (14, _), (15, _), (16, _), (17, _), (18, _), (19, _), (20, _), (21, _), (22, _), (23, _), (65, _)] rfl hs88
                  · intro g93 J94
                    refine WL.val (wantT rfl g93) rfl rfl (Run.field Try.runUnderlying27 rfl rfl rfl Try.sizeOf3 rfl) ?_
                    refine WL.val (wantT rfl g93) rfl rfl (Run.loadL hs88 1 Try.isAgg3 rfl rfl rfl rfl) ?_
                    refine WL.val (wantT rfl g93) rfl rfl (Run.neq rfl rfl rfl) ?_
                    refine WL.val rfl rfl rfl (Run.pickT rfl rfl g93 rfl) ?_
                    exact WL.fin J94 hs88 rfl (andT g93) ⟨rfl, rfl, rfl, rfl, rfl, rfl, rfl, rfl, rfl, rfl, rfl, rfl, rfl, rfl, rfl, rfl, rfl, rfl, trivial⟩
                  · intro g93 J94
                    refine WL.skip (wantNT rfl g93) rfl rfl ?_
                    refine WL.skip (wantNT rfl g93) rfl rfl ?_
                    refine WL.skip (wantNT rfl g93) rfl rfl ?_
                    refine WL.val rfl rfl rfl (Run.pickF rfl rfl g93 rfl) ?_
                    exact WL.fin J94 hs88 rfl (andF g93) ⟨rfl, rfl, rfl, rfl, rfl, rfl, rfl, rfl, rfl, rfl, rfl, rfl, rfl, rfl, rfl, rfl, rfl, rfl, trivial⟩
                  · intro whs95 hs95
                    refine WL.val rfl rfl rfl (Run.move rfl rfl) ?_
                    apply WL.meetAnd 4 74 78 [(0, _), (1, _), (2, _), (3, _), (4, _), (5, _), (6, _), (14, _), (15, _), (16, _), (17, _), (18, _), (19, _), (20, _), (21, _), (22, _), (23, _), (65, _)] rfl hs95
                    · intro g96 J97
                      refine WL.val (wantT rfl g96) rfl rfl (Run.field Try.runUnderlying27 rfl rfl rfl Try.sizeOf3 rfl) ?_
                      refine WL.val (wantT rfl g96) rfl rfl (Run.loadL hs95 1 Try.isAgg3 rfl rfl rfl rfl) ?_
                      refine WL.val (wantT rfl g96) rfl rfl (Run.neq rfl rfl rfl) ?_
                      refine WL.val rfl rfl rfl (Run.pickT rfl rfl g96 rfl) ?_
                      exact WL.fin J97 hs95 rfl (andT g96) ⟨rfl, rfl, rfl, rfl, rfl, rfl, rfl, rfl, rfl, rfl, rfl, rfl, rfl, rfl, rfl, rfl, rfl, rfl, trivial⟩
                    · intro g96 J97
                      refine WL.skip (wantNT rfl g96) rfl rfl ?_
                      refine WL.skip (wantNT rfl g96) rfl rfl ?_
                      refine WL.skip (wantNT rfl g96) rfl rfl ?_
                      refine WL.val rfl rfl rfl (Run.pickF rfl rfl g96 rfl) ?_
                      exact WL.fin J97 hs95 rfl (andF g96) ⟨rfl, rfl, rfl, rfl, rfl, rfl, rfl, rfl, rfl, rfl, rfl, rfl, rfl, rfl, rfl, rfl, rfl, rfl, trivial⟩
                    · intro whs98 hs98
                      refine WL.val rfl rfl rfl (Run.move rfl rfl) ?_
                      apply WL.meetAnd 4 79 83 [(0, _), (1, _), (2, _), (3, _), (4, _), (5, _), (6, _), (14, _), (15, _), (16, _), (17, _), (18, _), (19, _), (20, _), (21, _), (22, _), (23, _), (65, _)] rfl hs98
                      · intro g99 J100
                        refine WL.val (wantT rfl g99) rfl rfl (Run.field Try.runUnderlying27 rfl rfl rfl Try.sizeOf3 rfl) ?_
                        refine WL.val (wantT rfl g99) rfl rfl (Run.loadL hs98 1 Try.isAgg3 rfl rfl rfl rfl) ?_
                        refine WL.val (wantT rfl g99) rfl rfl (Run.neq rfl rfl rfl) ?_
                        refine WL.val rfl rfl rfl (Run.pickT rfl rfl g99 rfl) ?_
                        exact WL.fin J100 hs98 rfl (andT g99) ⟨rfl, rfl, rfl, rfl, rfl, rfl, rfl, rfl, rfl, rfl, rfl, rfl, rfl, rfl, rfl, rfl, rfl, rfl, trivial⟩
                      · intro g99 J100
                        refine WL.skip (wantNT rfl g99) rfl rfl ?_
                        refine WL.skip (wantNT rfl g99) rfl rfl ?_
                        refine WL.skip (wantNT rfl g99) rfl rfl ?_
                        refine WL.val rfl rfl rfl (Run.pickF rfl rfl g99 rfl) ?_
                        exact WL.fin J100 hs98 rfl (andF g99) ⟨rfl, rfl, rfl, rfl, rfl, rfl, rfl, rfl, rfl, rfl, rfl, rfl, rfl, rfl, rfl, rfl, rfl, rfl, trivial⟩
                      · intro whs101 hs101
                        refine WL.val rfl rfl rfl (Run.move rfl rfl) ?_
                        apply WL.meetAnd 4 84 88 [(0, _), (1, _), (2, _), (3, _), (4, _), (5, _), (6, _), (14, _), (15, _), (16, _), (17, _), (18, _), (19, _), (20, _), (21, _), (22, _), (23, _), (65, _)] rfl hs101
                        · intro g102 J103
                          refine WL.val (wantT rfl g102) rfl rfl (Run.field Try.runUnderlying27 rfl rfl rfl Try.sizeOf3 rfl) ?_
                          refine WL.val (wantT rfl g102) rfl rfl (Run.loadL hs101 1 Try.isAgg3 rfl rfl rfl rfl) ?_
                          refine WL.val (wantT rfl g102) rfl rfl (Run.neq rfl rfl rfl) ?_
                          refine WL.val rfl rfl rfl (Run.pickT rfl rfl g102 rfl) ?_
                          exact WL.fin J103 hs101 rfl (andT g102) ⟨rfl, rfl, rfl, rfl, rfl, rfl, rfl, rfl, rfl, rfl, rfl, rfl, rfl, rfl, rfl, rfl, rfl, rfl, trivial⟩
                        · intro g102 J103
                          refine WL.skip (wantNT rfl g102) rfl rfl ?_
                          refine WL.skip (wantNT rfl g102) rfl rfl ?_
                          refine WL.skip (wantNT rfl g102) rfl rfl ?_
                          refine WL.val rfl rfl rfl (Run.pickF rfl rfl g102 rfl) ?_
                          exact WL.fin J103 hs101 rfl (andF g102) ⟨rfl, rfl, rfl, rfl, rfl, rfl, rfl, rfl, rfl, rfl, rfl, rfl, rfl, rfl, rfl, rfl, rfl, rfl, trivial⟩
                        · intro whs104 hs104
                          refine WL.nil ?_
                          refine tkN ?_
                          refine hK92 _ _ ?_
                          clear hK92
                          refine WC.cond rfl (fun h105 => ?_) (fun h105 => ?_)
                          · have qh105 := h105
                            try simp only [decide_eq_true_eq, decide_eq_false_iff_not, Bool.not_eq_true', Bool.not_eq_false', Bool.and_eq_true, Bool.or_eq_false_iff, within_iff, within_not] at qh105
                            refine WC.seq (fun K106 hK106 => ?_)
                            refine WC.region ?_
                            refine WL.val rfl rfl rfl (Run.assign rfl rfl) ?_
                            refine WL.nil ?_
                            refine tkN ?_
                            refine hK106 _ _ ?_
                            clear hK106
                            refine WC.ret ?_
                            refine tkR ?_
                            clear hK91
                            refine retV1 rfl (resV.tmp rfl) ?_
                            refine ⟨congrArg Ending.returned ?_, hs104.nil⟩
                            rw [opOk_eq]; simp_all [opOkS, noText, isCmd] <;> grind
                          · have qh105 := h105
                            try simp only [decide_eq_true_eq, decide_eq_false_iff_not, Bool.not_eq_true', Bool.not_eq_false', Bool.and_eq_true, Bool.or_eq_false_iff, within_iff, within_not] at qh105
                            refine WC.skip ?_
                            refine tkN ?_
                            refine hK91 _ _ ?_
                            clear hK91
                            refine WC.seq (fun K107 hK107 => ?_)
                            refine WC.seq (fun K108 hK108 => ?_)
                            refine WC.region ?_
                            refine WL.val rfl rfl rfl (Run.move rfl rfl) ?_
                            refine WL.val rfl rfl rfl (Run.idxB Try.runUnderlying75 Try.sizeOf4 rfl rfl rfl ?_ ?_) ?_
                            · omega
                            · omega
                            refine WL.val rfl rfl rfl (Run.loadL hs104 0 Try.isAgg4 rfl rfl rfl rfl) ?_
                            refine WL.val rfl rfl rfl (Run.move rfl rfl) ?_
                            apply WL.meetAnd 5 92 97 [(0, _), (1, _), (2, _), (3, _), (4, _), (5, _), (6, _), (14, _), (15, _), (16, _), (17, _), (18, _), (19, _), (20, _), (21, _), (22, _), (23, _), (65, _), (88, _)] rfl hs104
                            · intro g109 J110
                              refine WL.val (wantT rfl g109) rfl rfl (Run.field Try.runUnderlying27 rfl rfl rfl Try.sizeOf9 rfl) ?_
                              refine WL.val (wantT rfl g109) rfl rfl (Run.loadL hs104 1 Try.isAgg9 rfl rfl rfl rfl) ?_
                              refine WL.call (wantT rfl g109) rfl rfl (Run.call Try.call47 rfl rfl rfl) (c_spec_WordOk _ _ ?_) ?_
                              · first | assumption | rfl | omega
                              rintro _ whs111 ⟨rfl, hs111⟩
                              replace hs111 := hs104.call0 hs111
                              refine ⟨_, rfl, ?_⟩
                              refine WL.val (wantT rfl g109) rfl rfl (Run.not rfl rfl) ?_
                              refine WL.val rfl rfl rfl (Run.pickT rfl rfl g109 rfl) ?_
                              exact WL.fin J110 hs111 rfl (andT g109) ⟨rfl, rfl, rfl, rfl, rfl, rfl, rfl, rfl, rfl, rfl, rfl, rfl, rfl, rfl, rfl, rfl, rfl, rfl, rfl, trivial⟩
                            · intro g109 J110
                              refine WL.skip (wantNT rfl g109) rfl rfl ?_
                              refine WL.skip (wantNT rfl g109) rfl rfl ?_
                              refine WL.skip (wantNT rfl g109) rfl rfl ?_
                              refine WL.skip (wantNT rfl g109) rfl rfl ?_
                              refine WL.val rfl rfl rfl (Run.pickF rfl rfl g109 rfl) ?_
                              exact WL.fin J110 hs104 rfl (andF g109) ⟨rfl, rfl, rfl, rfl, rfl, rfl, rfl, rfl, rfl, rfl, rfl, rfl, rfl, rfl, rfl, rfl, rfl, rfl, rfl, trivial⟩
                            · intro whs112 hs112
                              refine WL.val rfl rfl rfl (Run.move rfl rfl) ?_
                              apply WL.meetOr 10 98 108 [(0, _), (1, _), (2, _), (3, _), (4, _), (5, _), (6, _), (14, _), (15, _), (16, _), (17, _), (18, _), (19, _), (20, _), (21, _), (22, _), (23, _), (65, _), (88, _)] rfl hs112
                              · intro g113 J114
                                refine WL.val (wantF rfl g113) rfl rfl (Run.move rfl rfl) ?_
                                refine WL.val (wantF rfl g113) rfl rfl (Run.idxB Try.runUnderlying75 Try.sizeOf4 rfl rfl rfl ?_ ?_) ?_
                                · omega
                                · omega
                                refine WL.val (wantF rfl g113) rfl rfl (Run.loadL hs112 0 Try.isAgg4 rfl rfl rfl rfl) ?_
                                refine WL.val (wantF rfl g113) rfl rfl (Run.not rfl rfl) ?_
                                refine WL.val (wantF rfl g113) rfl rfl (Run.move rfl rfl) ?_
                                apply WL.meetAnd 4 103 107 [(0, _), (1, _), (2, _), (3, _), (4, _), (5, _), (6, _), (14, _), (15, _), (16, _), (17, _), (18, _), (19, _), (20, _), (21, _), (22, _), (23, _), (65, _), (88, _), (98, _)] rfl hs112
                                · intro g115 J116
                                  refine WL.val (wantT rfl g115) rfl rfl (Run.field Try.runUnderlying27 rfl rfl rfl Try.sizeOf9 rfl) ?_
                                  refine WL.val (wantT rfl g115) rfl rfl (Run.loadL hs112 1 Try.isAgg9 rfl rfl rfl rfl) ?_
                                  refine WL.val (wantT rfl g115) rfl rfl (Run.neqS rfl rfl rfl) ?_
                                  refine WL.val (wantF rfl g113) rfl rfl (Run.pickT rfl rfl g115 rfl) ?_
                                  exact WL.fin J116 hs112 rfl (andT g115) ⟨rfl, rfl, rfl, rfl, rfl, rfl, rfl, rfl, rfl, rfl, rfl, rfl, rfl, rfl, rfl, rfl, rfl, rfl, rfl, rfl, trivial⟩
                                · intro g115 J116
                                  refine WL.skip (wantNT rfl g115) rfl rfl ?_
                                  refine WL.skip (wantNT rfl g115) rfl rfl ?_
                                  refine WL.skip (wantNT rfl g115) rfl rfl ?_
                                  refine WL.val (wantF rfl g113) rfl rfl (Run.pickF rfl rfl g115 rfl) ?_
                                  exact WL.fin J116 hs112 rfl (andF g115) ⟨rfl, rfl, rfl, rfl, rfl, rfl, rfl, rfl, rfl, rfl, rfl, rfl, rfl, rfl, rfl, rfl, rfl, rfl, rfl, rfl, trivial⟩
                                · intro whs117 hs117
                                  refine WL.val rfl rfl rfl (Run.pickF rfl rfl g113 rfl) ?_
                                  exact WL.fin J114 hs117 rfl (orF g113) ⟨rfl, rfl, rfl, rfl, rfl, rfl, rfl, rfl, rfl, rfl, rfl, rfl, rfl, rfl, rfl, rfl, rfl, rfl, rfl, trivial⟩
                              · intro g113 J114
                                refine WL.skip (wantNF rfl g113) rfl rfl ?_
                                refine WL.skip (wantNF rfl g113) rfl rfl ?_
                                refine WL.skip (wantNF rfl g113) rfl rfl ?_
                                refine WL.skip (wantNF rfl g113) rfl rfl ?_
                                refine WL.skip (wantNF rfl g113) rfl rfl ?_
                                refine WL.skip rfl rfl rfl ?_
                                refine WL.skip rfl rfl rfl ?_
                                refine WL.skip rfl rfl rfl ?_
                                refine WL.skip (wantNF rfl g113) rfl rfl ?_
                                refine WL.val rfl rfl rfl (Run.pickT rfl rfl g113 rfl) ?_
                                exact WL.fin J114 hs112 rfl (orT g113) ⟨rfl, rfl, rfl, rfl, rfl, rfl, rfl, rfl, rfl, rfl, rfl, rfl, rfl, rfl, rfl, rfl, rfl, rfl, rfl, trivial⟩
                              · intro whs118 hs118
                                refine WL.val rfl rfl rfl (Run.move rfl rfl) ?_
                                apply WL.meetOr 15 109 124 [(0, _), (1, _), (2, _), (3, _), (4, _), (5, _), (6, _), (14, _), (15, _), (16, _), (17, _), (18, _), (19, _), (20, _), (21, _), (22, _), (23, _), (65, _), (88, _)] rfl hs118
                                · intro g119 J120
                                  refine WL.val (wantF rfl g119) rfl rfl (Run.move rfl rfl) ?_
                                  refine WL.val (wantF rfl g119) rfl rfl (Run.idxB Try.runUnderlying75 Try.sizeOf4 rfl rfl rfl ?_ ?_) ?_
                                  · omega
                                  · omega
                                  refine WL.val (wantF rfl g119) rfl rfl (Run.loadL hs118 0 Try.isAgg4 rfl rfl rfl rfl) ?_
                                  refine WL.val (wantF rfl g119) rfl rfl (Run.not rfl rfl) ?_
                                  refine WL.val (wantF rfl g119) rfl rfl (Run.move rfl rfl) ?_
                                  apply WL.meetAnd 9 114 123 [(0, _), (1, _), (2, _), (3, _), (4, _), (5, _), (6, _), (14, _), (15, _), (16, _), (17, _), (18, _), (19, _), (20, _), (21, _), (22, _), (23, _), (65, _), (88, _), (109, _)] rfl hs118
                                  · intro g121 J122
                                    refine WL.val (wantT rfl g121) rfl rfl (Run.field Try.runUnderlying27 rfl rfl rfl Try.sizeOf9 rfl) ?_
                                    refine WL.val (wantT rfl g121) rfl rfl (Run.loadL hs118 1 Try.isAgg9 rfl rfl rfl rfl) ?_
                                    refine WL.val (wantT rfl g121) rfl rfl (Run.neqS rfl rfl rfl) ?_
                                    refine WL.val (wantT rfl g121) rfl rfl (Run.move rfl rfl) ?_
                                    apply WL.meetOr 4 118 122 [(0, _), (1, _), (2, _), (3, _), (4, _), (5, _), (6, _), (14, _), (15, _), (16, _), (17, _), (18, _), (19, _), (20, _), (21, _), (22, _), (23, _), (65, _), (88, _), (109, _), (114, _)] rfl hs118
                                    · intro g123 J124
                                      refine WL.val (wantF rfl g123) rfl rfl (Run.field Try.runUnderlying27 rfl rfl rfl Try.sizeOf9 rfl) ?_
                                      refine WL.val (wantF rfl g123) rfl rfl (Run.loadL hs118 1 Try.isAgg9 rfl rfl rfl rfl) ?_
                                      refine WL.val (wantF rfl g123) rfl rfl (Run.neqS rfl rfl rfl) ?_
                                      refine WL.val (wantT rfl g121) rfl rfl (Run.pickF rfl rfl g123 rfl) ?_
                                      exact WL.fin J124 hs118 rfl (orF g123) ⟨rfl, rfl, rfl, rfl, rfl, rfl, rfl, rfl, rfl, rfl, rfl, rfl, rfl, rfl, rfl, rfl, rfl, rfl, rfl, rfl, rfl, trivial⟩
                                    · intro g123 J124
                                      refine WL.skip (wantNF rfl g123) rfl rfl ?_
                                      refine WL.skip (wantNF rfl g123) rfl rfl ?_
                                      refine WL.skip (wantNF rfl g123) rfl rfl ?_
                                      refine WL.val (wantT rfl g121) rfl rfl (Run.pickT rfl rfl g123 rfl) ?_
                                      exact WL.fin J124 hs118 rfl (orT g123) ⟨rfl, rfl, rfl, rfl, rfl, rfl, rfl, rfl, rfl, rfl, rfl, rfl, rfl, rfl, rfl, rfl, rfl, rfl, rfl, rfl, rfl, trivial⟩
                                    · intro whs125 hs125
                                      refine WL.val (wantF rfl g119) rfl rfl (Run.pickT rfl rfl g121 rfl) ?_
                                      exact WL.fin J122 hs125 rfl (andT g121) ⟨rfl, rfl, rfl, rfl, rfl, rfl, rfl, rfl, rfl, rfl, rfl, rfl, rfl, rfl, rfl, rfl, rfl, rfl, rfl, rfl, trivial⟩
                                  · intro g121 J122
                                    refine WL.skip (wantNT rfl g121) rfl rfl ?_
                                    refine WL.skip (wantNT rfl g121) rfl rfl ?_
                                    refine WL.skip (wantNT rfl g121) rfl rfl ?_
                                    refine WL.skip (wantNT rfl g121) rfl rfl ?_
                                    refine WL.skip rfl rfl rfl ?_
                                    refine WL.skip rfl rfl rfl ?_
                                    refine WL.skip rfl rfl rfl ?_
                                    refine WL.skip (wantNT rfl g121) rfl rfl ?_
                                    refine WL.val (wantF rfl g119) rfl rfl (Run.pickF rfl rfl g121 rfl) ?_
                                    exact WL.fin J122 hs118 rfl (andF g121) ⟨rfl, rfl, rfl, rfl, rfl, rfl, rfl, rfl, rfl, rfl, rfl, rfl, rfl, rfl, rfl, rfl, rfl, rfl, rfl, rfl, trivial⟩
                                  · intro whs126 hs126
                                    refine WL.val rfl rfl rfl (Run.pickF rfl rfl g119 rfl) ?_
                                    exact WL.fin J120 hs126 rfl (orF g119) ⟨rfl, rfl, rfl, rfl, rfl, rfl, rfl, rfl, rfl, rfl, rfl, rfl, rfl, rfl, rfl, rfl, rfl, rfl, rfl, trivial⟩
                                · intro g119 J120
                                  refine WL.skip (wantNF rfl g119) rfl rfl ?_
                                  refine WL.skip (wantNF rfl g119) rfl rfl ?_
                                  refine WL.skip (wantNF rfl g119) rfl rfl ?_
                                  refine WL.skip (wantNF rfl g119) rfl rfl ?_
                                  refine WL.skip (wantNF rfl g119) rfl rfl ?_
                                  refine WL.skip rfl rfl rfl ?_
                                  refine WL.skip rfl rfl rfl ?_
                                  refine WL.skip rfl rfl rfl ?_
                                  refine WL.skip rfl rfl rfl ?_
                                  refine WL.skip rfl rfl rfl ?_
                                  refine WL.skip rfl rfl rfl ?_
                                  refine WL.skip rfl rfl rfl ?_
                                  refine WL.skip rfl rfl rfl ?_
                                  refine WL.skip (wantNF rfl g119) rfl rfl ?_
                                  refine WL.val rfl rfl rfl (Run.pickT rfl rfl g119 rfl) ?_
                                  exact WL.fin J120 hs118 rfl (orT g119) ⟨rfl, rfl, rfl, rfl, rfl, rfl, rfl, rfl, rfl, rfl, rfl, rfl, rfl, rfl, rfl, rfl, rfl, rfl, rfl, trivial⟩
                                · intro whs127 hs127
                                  refine WL.nil ?_
                                  refine tkN ?_
                                  refine hK108 _ _ ?_
                                  clear hK108
                                  refine WC.cond rfl (fun h128 => ?_) (fun h128 => ?_)
                                  · have qh128 := h128
                                    try simp only [decide_eq_true_eq, decide_eq_false_iff_not, Bool.not_eq_true', Bool.not_eq_false', Bool.and_eq_true, Bool.or_eq_false_iff, within_iff, within_not] at qh128
                                    refine WC.seq (fun K129 hK129 => ?_)
                                    refine WC.region ?_
                                    refine WL.val rfl rfl rfl (Run.assign rfl rfl) ?_
                                    refine WL.nil ?_
                                    refine tkN ?_
                                    refine hK129 _ _ ?_
                                    clear hK129
                                    refine WC.ret ?_
                                    refine tkR ?_
                                    clear hK107
                                    refine retV1 rfl (resV.tmp rfl) ?_
                                    refine ⟨congrArg Ending.returned ?_, hs127.nil⟩
                                    rw [opOk_eq]; simp_all [opOkS, noText, isCmd] <;> grind
                                  · have qh128 := h128
                                    try simp only [decide_eq_true_eq, decide_eq_false_iff_not, Bool.not_eq_true', Bool.not_eq_false', Bool.and_eq_true, Bool.or_eq_false_iff, within_iff, within_not] at qh128
                                    refine WC.skip ?_
                                    refine tkN ?_
                                    refine hK107 _ _ ?_
                                    clear hK107
                                    refine WC.seq (fun K130 hK130 => ?_)
                                    refine WC.region ?_
                                    refine WL.val rfl rfl rfl (Run.field Try.runUnderlying27 rfl rfl rfl Try.sizeOf9 rfl) ?_
                                    refine WL.val rfl rfl rfl (Run.loadL hs127 1 Try.isAgg9 rfl rfl rfl rfl) ?_
                                    refine WL.val rfl rfl rfl (Run.lenStr Try.runUnderlying9 rfl rfl) ?_
                                    refine WL.val rfl rfl rfl (Run.leq rfl rfl rfl) ?_
                                    refine WL.val rfl rfl rfl (Run.move rfl rfl) ?_
                                    apply WL.meetAnd 5 129 134 [(0, _), (1, _), (2, _), (3, _), (4, _), (5, _), (6, _), (14, _), (15, _), (16, _), (17, _), (18, _), (19, _), (20, _), (21, _), (22, _), (23, _), (65, _), (88, _), (124, _)] rfl hs127
                                    · intro g131 J132
                                      refine WL.val (wantT rfl g131) rfl rfl (Run.field Try.runUnderlying27 rfl rfl rfl Try.sizeOf9 rfl) ?_
                                      refine WL.val (wantT rfl g131) rfl rfl (Run.loadL hs127 1 Try.isAgg9 rfl rfl rfl rfl) ?_
                                      refine WL.val (wantT rfl g131) rfl rfl (Run.lenStr Try.runUnderlying9 rfl rfl) ?_
                                      refine WL.val (wantT rfl g131) rfl rfl (Run.leq rfl rfl rfl) ?_
                                      refine WL.val rfl rfl rfl (Run.pickT rfl rfl g131 rfl) ?_
                                      exact WL.fin J132 hs127 rfl (andT g131) ⟨rfl, rfl, rfl, rfl, rfl, rfl, rfl, rfl, rfl, rfl, rfl, rfl, rfl, rfl, rfl, rfl, rfl, rfl, rfl, rfl, trivial⟩
                                    · intro g131 J132
                                      refine WL.skip (wantNT rfl g131) rfl rfl ?_
                                      refine WL.skip (wantNT rfl g131) rfl rfl ?_
                                      refine WL.skip (wantNT rfl g131) rfl rfl ?_
                                      refine WL.skip (wantNT rfl g131) rfl rfl ?_
                                      refine WL.val rfl rfl rfl (Run.pickF rfl rfl g131 rfl) ?_
                                      exact WL.fin J132 hs127 rfl (andF g131) ⟨rfl, rfl, rfl, rfl, rfl, rfl, rfl, rfl, rfl, rfl, rfl, rfl, rfl, rfl, rfl, rfl, rfl, rfl, rfl, rfl, trivial⟩
                                    · intro whs133 hs133
                                      refine WL.val rfl rfl rfl (Run.assign rfl rfl) ?_
                                      refine WL.nil ?_
                                      refine tkN ?_
                                      refine hK130 _ _ ?_
                                      clear hK130
                                      refine WC.ret ?_
                                      refine retV1 rfl (resV.tmp rfl) ?_
                                      refine ⟨congrArg Ending.returned ?_, hs133.nil⟩
                                      rw [opOk_eq]; simp_all [opOkS, noText, isCmd] <;> grind
        · have qh78 := h78
          try simp only [decide_eq_true_eq, decide_eq_false_iff_not, Bool.not_eq_true', Bool.not_eq_false', Bool.and_eq_true, Bool.or_eq_false_iff, within_iff, within_not] at qh78
          refine WC.seq (fun K134 hK134 => ?_)
          refine WC.region ?_
          refine WL.val rfl rfl rfl (Run.eql rfl rfl rfl) ?_
          refine WL.val rfl rfl rfl (Run.assign rfl rfl) ?_
          refine WL.nil ?_
          refine tkN ?_
          refine hK134 _ _ ?_
          clear hK134
          refine WC.cond rfl (fun h135 => ?_) (fun h135 => ?_)
          · have qh135 := h135
            try simp only [decide_eq_true_eq, decide_eq_false_iff_not, Bool.not_eq_true', Bool.not_eq_false', Bool.and_eq_true, Bool.or_eq_false_iff, within_iff, within_not] at qh135
            refine WC.seq (fun K136 hK136 => ?_)
            refine WC.region ?_
            refine WL.val rfl rfl rfl (Run.assign rfl rfl) ?_
            refine WL.nil ?_
            refine tkN ?_
            refine hK136 _ _ ?_
            clear hK136
            refine WC.region ?_
            refine WL.val rfl rfl rfl (Run.assign rfl rfl) ?_
            refine WL.nil ?_
            refine ibN ?_
            refine tkN ?_
            refine hK18 _ _ ?_
            clear hK18
            refine WC.seq (fun K137 hK137 => ?_)
            refine WC.seq (fun K138 hK138 => ?_)
            refine WC.regionQ (fun w' => St _ _ _ w') mixed (by kernel_rfl) hs13.drew ?_
            refine WQ.val rfl rfl rfl (fun w_ hs_ => (Run.move rfl rfl)) ?_
            refine WQ.val rfl rfl rfl (fun w_ hs_ => (Run.idxB Try.runUnderlying75 Try.sizeOf4 rfl rfl rfl ?_ ?_)) ?_
            · omega
            · omega
            refine WQ.val rfl rfl rfl (fun w_ hs_ => (Run.loadL (hs_ : St _ _ _ _) 0 Try.isAgg4 rfl rfl rfl rfl)) ?_
            refine WQ.val rfl rfl rfl (fun w_ hs_ => (Run.field Try.runUnderlying27 rfl rfl rfl Try.sizeOf3 rfl)) ?_
            refine WQ.val rfl rfl rfl (fun w_ hs_ => (Run.loadL (hs_ : St _ _ _ _) 1 Try.isAgg3 rfl rfl rfl rfl)) ?_
            refine WQ.val rfl rfl rfl (fun w_ hs_ => (Run.move rfl rfl)) ?_
            refine WQ.call rfl rfl rfl (fun w_ hs_ => (Run.call Try.call46 rfl rfl rfl)) (fun w_ hs_ => (c_spec_l16In _ _ _ _ _).mono fun e_ w_ h_ => ⟨h_.1, (hs_ : St _ _ _ _).call0 h_.2⟩) ?_
            refine WQ.val rfl rfl rfl (fun w_ hs_ => (Run.not rfl rfl)) ?_
            refine WQ.val rfl rfl rfl (fun w_ hs_ => (Run.move rfl rfl)) ?_
            apply WQ.meetOr 10 36 46 [(0, _), (1, _), (2, _), (3, _), (4, _), (5, _), (6, _), (14, _), (15, _), (16, _), (17, _), (18, _), (19, _), (20, _), (21, _), (22, _), (23, _), (24, _), (25, _)] rfl
            · intro g139 J140
              refine WQ.val (wantF rfl g139) rfl rfl (fun w_ hs_ => (Run.move rfl rfl)) ?_
              refine WQ.val (wantF rfl g139) rfl rfl (fun w_ hs_ => (Run.idxB Try.runUnderlying75 Try.sizeOf4 rfl rfl rfl ?_ ?_)) ?_
              · omega
              · omega
              refine WQ.val (wantF rfl g139) rfl rfl (fun w_ hs_ => (Run.loadL (hs_ : St _ _ _ _) 0 Try.isAgg4 rfl rfl rfl rfl)) ?_
              refine WQ.val (wantF rfl g139) rfl rfl (fun w_ hs_ => (Run.field Try.runUnderlying27 rfl rfl rfl Try.sizeOf3 rfl)) ?_
              refine WQ.val (wantF rfl g139) rfl rfl (fun w_ hs_ => (Run.loadL (hs_ : St _ _ _ _) 1 Try.isAgg3 rfl rfl rfl rfl)) ?_
              refine WQ.val (wantF rfl g139) rfl rfl (fun w_ hs_ => (Run.move rfl rfl)) ?_
              refine WQ.val (wantF rfl g139) rfl rfl (fun w_ hs_ => (Run.move rfl rfl)) ?_
              refine WQ.call (wantF rfl g139) rfl rfl (fun w_ hs_ => (Run.call Try.call46 rfl rfl rfl)) (fun w_ hs_ => (c_spec_l16In _ _ _ _ _).mono fun e_ w_ h_ => ⟨h_.1, (hs_ : St _ _ _ _).call0 h_.2⟩) ?_
              refine WQ.val (wantF rfl g139) rfl rfl (fun w_ hs_ => (Run.not rfl rfl)) ?_
              refine WQ.val rfl rfl rfl (fun w_ hs_ => (Run.pickF rfl rfl g139 rfl)) ?_
              exact WQ.fin J140 rfl (orF g139) ⟨rfl, rfl, rfl, rfl, rfl, rfl, rfl, rfl, rfl, rfl, rfl, rfl, rfl, rfl, rfl, rfl, rfl, rfl, rfl, trivial⟩
            · intro g139 J140
              refine WQ.skip (wantNF rfl g139) rfl rfl ?_
              refine WQ.skip (wantNF rfl g139) rfl rfl ?_
              refine WQ.skip (wantNF rfl g139) rfl rfl ?_
              refine WQ.skip (wantNF rfl g139) rfl rfl ?_
              refine WQ.skip (wantNF rfl g139) rfl rfl ?_
              refine WQ.skip (wantNF rfl g139) rfl rfl ?_
              refine WQ.skip (wantNF rfl g139) rfl rfl ?_
              refine WQ.skip (wantNF rfl g139) rfl rfl ?_
              refine WQ.skip (wantNF rfl g139) rfl rfl ?_
              refine WQ.val rfl rfl rfl (fun w_ hs_ => (Run.pickT rfl rfl g139 rfl)) ?_
              exact WQ.fin J140 rfl (orT g139) ⟨rfl, rfl, rfl, rfl, rfl, rfl, rfl, rfl, rfl, rfl, rfl, rfl, rfl, rfl, rfl, rfl, rfl, rfl, rfl, trivial⟩
            · refine WQ.val rfl rfl rfl (fun w_ hs_ => (Run.move rfl rfl)) ?_
              apply WQ.meetOr 8 47 55 [(0, _), (1, _), (2, _), (3, _), (4, _), (5, _), (6, _), (14, _), (15, _), (16, _), (17, _), (18, _), (19, _), (20, _), (21, _), (22, _), (23, _), (24, _), (25, _)] rfl
              · intro g141 J142
                refine WQ.val (wantF rfl g141) rfl rfl (fun w_ hs_ => (Run.move rfl rfl)) ?_
                refine WQ.val (wantF rfl g141) rfl rfl (fun w_ hs_ => (Run.idxB Try.runUnderlying75 Try.sizeOf4 rfl rfl rfl ?_ ?_)) ?_
                · omega
                · omega
                refine WQ.val (wantF rfl g141) rfl rfl (fun w_ hs_ => (Run.loadL (hs_ : St _ _ _ _) 0 Try.isAgg4 rfl rfl rfl rfl)) ?_
                refine WQ.val (wantF rfl g141) rfl rfl (fun w_ hs_ => (Run.field Try.runUnderlying27 rfl rfl rfl Try.sizeOf3 rfl)) ?_
                refine WQ.val (wantF rfl g141) rfl rfl (fun w_ hs_ => (Run.loadL (hs_ : St _ _ _ _) 1 Try.isAgg3 rfl rfl rfl rfl)) ?_
                refine WQ.call (wantF rfl g141) rfl rfl (fun w_ hs_ => (Run.call Try.call46 rfl rfl rfl)) (fun w_ hs_ => (c_spec_l16In _ _ _ _ _).mono fun e_ w_ h_ => ⟨h_.1, (hs_ : St _ _ _ _).call0 h_.2⟩) ?_
                refine WQ.val (wantF rfl g141) rfl rfl (fun w_ hs_ => (Run.not rfl rfl)) ?_
                refine WQ.val rfl rfl rfl (fun w_ hs_ => (Run.pickF rfl rfl g141 rfl)) ?_
                exact WQ.fin J142 rfl (orF g141) ⟨rfl, rfl, rfl, rfl, rfl, rfl, rfl, rfl, rfl, rfl, rfl, rfl, rfl, rfl, rfl, rfl, rfl, rfl, rfl, trivial⟩
              · intro g141 J142
                refine WQ.skip (wantNF rfl g141) rfl rfl ?_
                refine WQ.skip (wantNF rfl g141) rfl rfl ?_
                refine WQ.skip (wantNF rfl g141) rfl rfl ?_
                refine WQ.skip (wantNF rfl g141) rfl rfl ?_
                refine WQ.skip (wantNF rfl g141) rfl rfl ?_
                refine WQ.skip (wantNF rfl g141) rfl rfl ?_
                refine WQ.skip (wantNF rfl g141) rfl rfl ?_
                refine WQ.val rfl rfl rfl (fun w_ hs_ => (Run.pickT rfl rfl g141 rfl)) ?_
                exact WQ.fin J142 rfl (orT g141) ⟨rfl, rfl, rfl, rfl, rfl, rfl, rfl, rfl, rfl, rfl, rfl, rfl, rfl, rfl, rfl, rfl, rfl, rfl, rfl, trivial⟩
              · refine WQ.val rfl rfl rfl (fun w_ hs_ => (Run.move rfl rfl)) ?_
                apply WQ.meetOr 9 56 65 [(0, _), (1, _), (2, _), (3, _), (4, _), (5, _), (6, _), (14, _), (15, _), (16, _), (17, _), (18, _), (19, _), (20, _), (21, _), (22, _), (23, _), (24, _), (25, _)] rfl
                · intro g143 J144
                  refine WQ.val (wantF rfl g143) rfl rfl (fun w_ hs_ => (Run.move rfl rfl)) ?_
                  refine WQ.val (wantF rfl g143) rfl rfl (fun w_ hs_ => (Run.idxB Try.runUnderlying75 Try.sizeOf4 rfl rfl rfl ?_ ?_)) ?_
                  · omega
                  · omega
                  refine WQ.val (wantF rfl g143) rfl rfl (fun w_ hs_ => (Run.loadL (hs_ : St _ _ _ _) 0 Try.isAgg4 rfl rfl rfl rfl)) ?_
                  refine WQ.val (wantF rfl g143) rfl rfl (fun w_ hs_ => (Run.field Try.runUnderlying27 rfl rfl rfl Try.sizeOf22 rfl)) ?_
                  refine WQ.val (wantF rfl g143) rfl rfl (fun w_ hs_ => (Run.loadL (hs_ : St _ _ _ _) 1 Try.isAgg22 rfl rfl rfl rfl)) ?_
                  refine WQ.val (wantF rfl g143) rfl rfl (fun w_ hs_ => (Run.lenSl Try.runUnderlying22 rfl rfl)) ?_
                  refine WQ.call (wantF rfl g143) rfl rfl (fun w_ hs_ => (Run.call Try.call46 rfl rfl rfl)) (fun w_ hs_ => (c_spec_l16In _ _ _ _ _).mono fun e_ w_ h_ => ⟨h_.1, (hs_ : St _ _ _ _).call0 h_.2⟩) ?_
                  refine WQ.val (wantF rfl g143) rfl rfl (fun w_ hs_ => (Run.not rfl rfl)) ?_
                  refine WQ.val rfl rfl rfl (fun w_ hs_ => (Run.pickF rfl rfl g143 rfl)) ?_
                  exact WQ.fin J144 rfl (orF g143) ⟨rfl, rfl, rfl, rfl, rfl, rfl, rfl, rfl, rfl, rfl, rfl, rfl, rfl, rfl, rfl, rfl, rfl, rfl, rfl, trivial⟩
                · intro g143 J144
                  refine WQ.skip (wantNF rfl g143) rfl rfl ?_
                  refine WQ.skip (wantNF rfl g143) rfl rfl ?_
                  refine WQ.skip (wantNF rfl g143) rfl rfl ?_
                  refine WQ.skip (wantNF rfl g143) rfl rfl ?_
                  refine WQ.skip (wantNF rfl g143) rfl rfl ?_
                  refine WQ.skip (wantNF rfl g143) rfl rfl ?_
                  refine WQ.skip (wantNF rfl g143) rfl rfl ?_
                  refine WQ.skip (wantNF rfl g143) rfl rfl ?_
                  refine WQ.val rfl rfl rfl (fun w_ hs_ => (Run.pickT rfl rfl g143 rfl)) ?_
                  exact WQ.fin J144 rfl (orT g143) ⟨rfl, rfl, rfl, rfl, rfl, rfl, rfl, rfl, rfl, rfl, rfl, rfl, rfl, rfl, rfl, rfl, rfl, rfl, rfl, trivial⟩
                · refine WQ.nil (fun whs145 hs145 => ?_)
                  replace hs145 : St _ _ _ _ := hs145
                  refine tkN ?_
                  refine hK138 _ _ ?_
                  clear hK138
                  refine WC.cond rfl (fun h146 => ?_) (fun h146 => ?_)
                  · have qh146 := h146
                    try simp only [decide_eq_true_eq, decide_eq_false_iff_not, Bool.not_eq_true', Bool.not_eq_false', Bool.and_eq_true, Bool.or_eq_false_iff, within_iff, within_not] at qh146
                    refine WC.seq (fun K147 hK147 => ?_)
                    refine WC.region ?_
                    refine WL.val rfl rfl rfl (Run.assign rfl rfl) ?_
                    refine WL.nil ?_
                    refine tkN ?_
                    refine hK147 _ _ ?_
                    clear hK147
                    refine WC.ret ?_
                    refine tkR ?_
                    clear hK137
                    refine retV1 rfl (resV.tmp rfl) ?_
                    refine ⟨congrArg Ending.returned ?_, hs145.nil⟩
                    rw [opOk_eq]; simp_all [opOkS, noText, isCmd] <;> grind
                  · have qh146 := h146
                    try simp only [decide_eq_true_eq, decide_eq_false_iff_not, Bool.not_eq_true', Bool.not_eq_false', Bool.and_eq_true, Bool.or_eq_false_iff, within_iff, within_not] at qh146
                    refine WC.skip ?_
                    refine tkN ?_
                    refine hK137 _ _ ?_
                    clear hK137
                    refine WC.seq (fun K148 hK148 => ?_)
                    refine WC.seq (fun K149 hK149 => ?_)
                    refine WC.region ?_
                    refine WL.val rfl rfl rfl (Run.field Try.runUnderlying27 rfl rfl rfl Try.sizeOf3 rfl) ?_
                    refine WL.val rfl rfl rfl (Run.loadL hs145 1 Try.isAgg3 rfl rfl rfl rfl) ?_
                    refine WL.val rfl rfl rfl (Run.eql rfl rfl rfl) ?_
                    refine WL.val rfl rfl rfl (Run.move rfl rfl) ?_
                    apply WL.meetAnd 4 69 73 [(0, _), (1, _), (2, _), (3, _), (4, _), (5, _), (6, _), (14, _), (15, _), (16, _), (17, _), (18, _), (19, _), (20, _), (21, _), (22, _), (23, _), (24, _), (25, _), (65, _)] rfl hs145
                    · intro g150 J151
                      refine WL.val (wantT rfl g150) rfl rfl (Run.field Try.runUnderlying27 rfl rfl rfl Try.sizeOf3 rfl) ?_
                      refine WL.val (wantT rfl g150) rfl rfl (Run.loadL hs145 1 Try.isAgg3 rfl rfl rfl rfl) ?_
                      refine WL.val (wantT rfl g150) rfl rfl (Run.neq rfl rfl rfl) ?_
                      refine WL.val rfl rfl rfl (Run.pickT rfl rfl g150 rfl) ?_
                      exact WL.fin J151 hs145 rfl (andT g150) ⟨rfl, rfl, rfl, rfl, rfl, rfl, rfl, rfl, rfl, rfl, rfl, rfl, rfl, rfl, rfl, rfl, rfl, rfl, rfl, rfl, trivial⟩
                    · intro g150 J151
                      refine WL.skip (wantNT rfl g150) rfl rfl ?_
                      refine WL.skip (wantNT rfl g150) rfl rfl ?_
                      refine WL.skip (wantNT rfl g150) rfl rfl ?_
                      refine WL.val rfl rfl rfl (Run.pickF rfl rfl g150 rfl) ?_
                      exact WL.fin J151 hs145 rfl (andF g150) ⟨rfl, rfl, rfl, rfl, rfl, rfl, rfl, rfl, rfl, rfl, rfl, rfl, rfl, rfl, rfl, rfl, rfl, rfl, rfl, rfl, trivial⟩
                    · intro whs152 hs152
                      refine WL.val rfl rfl rfl (Run.move rfl rfl) ?_
                      apply WL.meetAnd 4 74 78 [(0, _), (1, _), (2, _), (3, _), (4, _), (5, _), (6, _), (14, _), (15, _), (16, _), (17, _), (18, _), (19, _), (20, _), (21, _), (22, _), (23, _), (24, _), (25, _), (65, _)] rfl hs152
                      · intro g153 J154
                        refine WL.val (wantT rfl g153) rfl rfl (Run.field Try.runUnderlying27 rfl rfl rfl Try.sizeOf3 rfl) ?_
                        refine WL.val (wantT rfl g153) rfl rfl (Run.loadL hs152 1 Try.isAgg3 rfl rfl rfl rfl) ?_
                        refine WL.val (wantT rfl g153) rfl rfl (Run.neq rfl rfl rfl) ?_
                        refine WL.val rfl rfl rfl (Run.pickT rfl rfl g153 rfl) ?_
                        exact WL.fin J154 hs152 rfl (andT g153) ⟨rfl, rfl, rfl, rfl, rfl, rfl, rfl, rfl, rfl, rfl, rfl, rfl, rfl, rfl, rfl, rfl, rfl, rfl, rfl, rfl, trivial⟩
                      · intro g153 J154
                        refine WL.skip (wantNT rfl g153) rfl rfl ?_
                        refine WL.skip (wantNT rfl g153) rfl rfl ?_
                        refine WL.skip (wantNT rfl g153) rfl rfl ?_
                        refine WL.val rfl rfl rfl (Run.pickF rfl rfl g153 rfl) ?_
                        exact WL.fin J154 hs152 rfl (andF g153) ⟨rfl, rfl, rfl, rfl, rfl, rfl, rfl, rfl, rfl, rfl, rfl, rfl, rfl, rfl, rfl, rfl, rfl, rfl, rfl, rfl, trivial⟩
                      · intro whs155 hs155
                        refine WL.val rfl rfl rfl (Run.move rfl rfl) ?_
                        apply WL.meetAnd 4 79 83 [(0, _), (1, _), (2, _), (3, _), (4, _), (5, _), (6, _), (14, _), (15, _), (16, _), (17, _), (18, _), (19, _), (20, _), (21, _), (22, _), (23, _), (24, _), (25, _), (65, _)] rfl hs155
                        · intro g156 J157
                          refine WL.val (wantT rfl g156) rfl rfl (Run.field Try.runUnderlying27 rfl rfl rfl Try.sizeOf3 rfl) ?_
                          refine WL.val (wantT rfl g156) rfl rfl (Run.loadL hs155 1 Try.isAgg3 rfl rfl rfl rfl) ?_
                          refine WL.val (wantT rfl g156) rfl rfl (Run.neq rfl rfl rfl) ?_
                          refine WL.val rfl rfl rfl (Run.pickT rfl rfl g156 rfl) ?_
                          exact WL.fin J157 hs155 rfl (andT g156) ⟨rfl, rfl, rfl, rfl, rfl, rfl, rfl, rfl, rfl, rfl, rfl, rfl, rfl, rfl, rfl, rfl, rfl, rfl, rfl, rfl, trivial⟩
                        · intro g156 J157
                          refine WL.skip (wantNT rfl g156) rfl rfl ?_
                          refine WL.skip (wantNT rfl g156) rfl rfl ?_
                          refine WL.skip (wantNT rfl g156) rfl rfl ?_
                          refine WL.val rfl rfl rfl (Run.pickF rfl rfl g156 rfl) ?_
                          exact WL.fin J157 hs155 rfl (andF g156) ⟨rfl, rfl, rfl, rfl, rfl, rfl, rfl, rfl, rfl, rfl, rfl, rfl, rfl, rfl, rfl, rfl, rfl, rfl, rfl, rfl, trivial⟩
                        · intro whs158 hs158
                          refine WL.val rfl rfl rfl (Run.move rfl rfl) ?_
                          apply WL.meetAnd 4 84 88 [(0, _), (1, _), (2, _), (3, _), (4, _), (5, _), (6, _), (14, _), (15, _), (16, _), (17, _), (18, _), (19, _), (20, _), (21, _), (22, _), (23, _), (24, _), (25, _), (65, _)] rfl hs158
                          · intro g159 J160
                            refine WL.val (wantT rfl g159) rfl rfl (Run.field Try.runUnderlying27 rfl rfl rfl Try.sizeOf3 rfl) ?_
                            refine WL.val (wantT rfl g159) rfl rfl (Run.loadL hs158 1 Try.isAgg3 rfl rfl rfl rfl) ?_
                            refine WL.val (wantT rfl g159) rfl rfl (Run.neq rfl rfl rfl) ?_
                            refine WL.val rfl rfl rfl (Run.pickT rfl rfl g159 rfl) ?_
                            exact WL.fin J160 hs158 rfl (andT g159) ⟨rfl, rfl, rfl, rfl, rfl, rfl, rfl, rfl, rfl, rfl, rfl, rfl, rfl, rfl, rfl, rfl, rfl, rfl, rfl, rfl, trivial⟩
                          · intro g159 J160
                            refine WL.skip (wantNT rfl g159) rfl rfl ?_
                            refine WL.skip (wantNT rfl g159) rfl rfl ?_
                            refine WL.skip (wantNT rfl g159) rfl rfl ?_
                            refine WL.val rfl rfl rfl (Run.pickF rfl rfl g159 rfl) ?_
                            exact WL.fin J160 hs158 rfl (andF g159) ⟨rfl, rfl, rfl, rfl, rfl, rfl, rfl, rfl, rfl, rfl, rfl, rfl, rfl, rfl, rfl, rfl, rfl, rfl, rfl, rfl, trivial⟩
                          · intro whs161 hs161
                            refine WL.nil ?_
                            refine tkN ?_
                            refine hK149 _ _ ?_
                            clear hK149
                            refine WC.cond rfl (fun h162 => ?_) (fun h162 => ?_)
                            · have qh162 := h162
                              try simp only [decide_eq_true_eq, decide_eq_false_iff_not, Bool.not_eq_true', Bool.not_eq_false', Bool.and_eq_true, Bool.or_eq_false_iff, within_iff, within_not] at qh162
                              refine WC.seq (fun K163 hK163 => ?_)
                              refine WC.region ?_
                              refine WL.val rfl rfl rfl (Run.assign rfl rfl) ?_
                              refine WL.nil ?_
                              refine tkN ?_
                              refine hK163 _ _ ?_
                              clear hK163
                              refine WC.ret ?_
                              refine tkR ?_
                              clear hK148
                              refine retV1 rfl (resV.tmp rfl) ?_
                              refine ⟨congrArg Ending.returned ?_, hs161.nil⟩
                              rw [opOk_eq]; simp_all [opOkS, noText, isCmd] <;> grind
                            · have qh162 := h162
                              try simp only [decide_eq_true_eq, decide_eq_false_iff_not, Bool.not_eq_true', Bool.not_eq_false', Bool.and_eq_true, Bool.or_eq_false_iff, within_iff, within_not] at qh162
                              refine WC.skip ?_
                              refine tkN ?_
                              refine hK148 _ _ ?_
                              clear hK148
                              refine WC.seq (fun K164 hK164 => ?_)
                              refine WC.seq (fun K165 hK165 => ?_)
                              refine WC.region ?_
                              refine WL.val rfl rfl rfl (Run.move rfl rfl) ?_
                              refine WL.val rfl rfl rfl (Run.idxB Try.runUnderlying75 Try.sizeOf4 rfl rfl rfl ?_ ?_) ?_
                              · omega
                              · omega
                              refine WL.val rfl rfl rfl (Run.loadL hs161 0 Try.isAgg4 rfl rfl rfl rfl) ?_
                              refine WL.val rfl rfl rfl (Run.move rfl rfl) ?_
                              apply WL.meetAnd 5 92 97 [(0, _), (1, _), (2, _), (3, _), (4, _), (5, _), (6, _), (14, _), (15, _), (16, _), (17, _), (18, _), (19, _), (20, _), (21, _), (22, _), (23, _), (24, _), (25, _), (65, _), (88, _)] rfl hs161
                              · intro g166 J167
                                refine WL.val (wantT rfl g166) rfl rfl (Run.field Try.runUnderlying27 rfl rfl rfl Try.sizeOf9 rfl) ?_
                                refine WL.val (wantT rfl g166) rfl rfl (Run.loadL hs161 1 Try.isAgg9 rfl rfl rfl rfl) ?_
                                refine WL.call (wantT rfl g166) rfl rfl (Run.call Try.call47 rfl rfl rfl) (c_spec_WordOk _ _ ?_) ?_
                                · first | assumption | rfl | omega
                                rintro _ whs168 ⟨rfl, hs168⟩
                                replace hs168 := hs161.call0 hs168
                                refine ⟨_, rfl, ?_⟩
                                refine WL.val (wantT rfl g166) rfl rfl (Run.not rfl rfl) ?_
                                refine WL.val rfl rfl rfl (Run.pickT rfl rfl g166 rfl) ?_
                                exact WL.fin J167 hs168 rfl (andT g166) ⟨rfl, rfl, rfl, rfl, rfl, rfl, rfl, rfl, rfl, rfl, rfl, rfl, rfl, rfl, rfl, rfl, rfl, rfl, rfl, rfl, rfl, trivial⟩
                              · intro g166 J167
                                refine WL.skip (wantNT rfl g166) rfl rfl ?_
                                refine WL.skip (wantNT rfl g166) rfl rfl ?_
                                refine WL.skip (wantNT rfl g166) rfl rfl ?_
                                refine WL.skip (wantNT rfl g166) rfl rfl ?_
                                refine WL.val rfl rfl rfl (Run.pickF rfl rfl g166 rfl) ?_
                                exact WL.fin J167 hs161 rfl (andF g166) ⟨rfl, rfl, rfl, rfl, rfl, rfl, rfl, rfl, rfl, rfl, rfl, rfl, rfl, rfl, rfl, rfl, rfl, rfl, rfl, rfl, rfl, trivial⟩
                              · intro whs169 hs169
                                refine WL.val rfl rfl rfl (Run.move rfl rfl) ?_
                                apply WL.meetOr 10 98 108 [(0, _), (1, _), (2, _), (3, _), (4, _), (5, _), (6, _), (14, _), (15, _), (16, _), (17, _), (18, _), (19, _), (20, _), (21, _), (22, _), (23, _), (24, _), (25, _), (65, _), (88, _)] rfl hs169
                                · intro g170 J171
                                  refine WL.val (wantF rfl g170) rfl rfl (Run.move rfl rfl) ?_
                                  refine WL.val (wantF rfl g170) rfl rfl (Run.idxB Try.runUnderlying75 Try.sizeOf4 rfl rfl rfl ?_ ?_) ?_
                                  · omega
                                  · omega
                                  refine WL.val (wantF rfl g170) rfl rfl (Run.loadL hs169 0 Try.isAgg4 rfl rfl rfl rfl) ?_
                                  refine WL.val (wantF rfl g170) rfl rfl (Run.not rfl rfl) ?_
                                  refine WL.val (wantF rfl g170) rfl rfl (Run.move rfl rfl) ?_
                                  apply WL.meetAnd 4 103 107 [(0, _), (1, _), (2, _), (3, _), (4, _), (5, _), (6, _), (14, _), (15, _), (16, _), (17, _), (18, _), (19, _), (20, _), (21, _), (22, _), (23, _), (24, _), (25, _), (65, _), (88, _), (98, _)] rfl hs169
                                  · intro g172 J173
                                    refine WL.val (wantT rfl g172) rfl rfl (Run.field Try.runUnderlying27 rfl rfl rfl Try.sizeOf9 rfl) ?_
                                    refine WL.val (wantT rfl g172) rfl rfl (Run.loadL hs169 1 Try.isAgg9 rfl rfl rfl rfl) ?_
                                    refine WL.val (wantT rfl g172) rfl rfl (Run.neqS rfl rfl rfl) ?_
                                    refine WL.val (wantF rfl g170) rfl rfl (Run.pickT rfl rfl g172 rfl) ?_
                                    exact WL.fin J173 hs169 rfl (andT g172) ⟨rfl, rfl, rfl, rfl, rfl, rfl, rfl, rfl, rfl, rfl, rfl, rfl, rfl, rfl, rfl, rfl, rfl, rfl, rfl, rfl, rfl, rfl, trivial⟩
                                  · intro g172 J173
                                    refine WL.skip (wantNT rfl g172) rfl rfl ?_
                                    refine WL.skip (wantNT rfl g172) rfl rfl ?_
                                    refine WL.skip (wantNT rfl g172) rfl rfl ?_
                                    refine WL.val (wantF rfl g170) rfl rfl (Run.pickF rfl rfl g172 rfl) ?_
                                    exact WL.fin J173 hs169 rfl (andF g172) ⟨rfl, rfl, rfl, rfl, rfl, rfl, rfl, rfl, rfl, rfl, rfl, rfl, rfl, rfl, rfl, rfl, rfl, rfl, rfl, rfl, rfl, rfl, trivial⟩
                                  · intro whs174 hs174
                                    refine WL.val rfl rfl rfl (Run.pickF rfl rfl g170 rfl) ?_
                                    exact WL.fin J171 hs174 rfl (orF g170) ⟨rfl, rfl, rfl, rfl, rfl, rfl, rfl, rfl, rfl, rfl, rfl, rfl, rfl, rfl, rfl, rfl, rfl, rfl, rfl, rfl, rfl, trivial⟩
                                · intro g170 J171
                                  refine WL.skip (wantNF rfl g170) rfl rfl ?_
                                  refine WL.skip (wantNF rfl g170) rfl rfl ?_
                                  refine WL.skip (wantNF rfl g170) rfl rfl ?_
                                  refine WL.skip (wantNF rfl g170) rfl rfl ?_
                                  refine WL.skip (wantNF rfl g170) rfl rfl ?_
                                  refine WL.skip rfl rfl rfl ?_
                                  refine WL.skip rfl rfl rfl ?_
                                  refine WL.skip rfl rfl rfl ?_
                                  refine WL.skip (wantNF rfl g170) rfl rfl ?_
                                  refine WL.val rfl rfl rfl (Run.pickT rfl rfl g170 rfl) ?_
                                  exact WL.fin J171 hs169 rfl (orT g170) ⟨rfl, rfl, rfl, rfl, rfl, rfl, rfl, rfl, rfl, rfl, rfl, rfl, rfl, rfl, rfl, rfl, rfl, rfl, rfl, rfl, rfl, trivial⟩
                                · intro whs175 hs175
                                  refine WL.val rfl rfl rfl (Run.move rfl rfl) ?_
                                  apply WL.meetOr 15 109 124 [(0, _), (1, _), (2, _), (3, _), (4, _), (5, _), (6, _), (14, _), (15, _), (16, _), (17, _), (18, _), (19, _), (20, _), (21, _), (22, _), (23, _), (24, _), (25, _), (65, _), (88, _)] rfl hs175
                                  · intro g176 J177
                                    refine WL.val (wantF rfl g176) rfl rfl (Run.move rfl rfl) ?_
                                    refine WL.val (wantF rfl g176) rfl rfl (Run.idxB Try.runUnderlying75 Try.sizeOf4 rfl rfl rfl ?_ ?_) ?_
                                    · omega
                                    · omega
                                    refine WL.val (wantF rfl g176) rfl rfl (Run.loadL hs175 0 Try.isAgg4 rfl rfl rfl rfl) ?_
                                    refine WL.val (wantF rfl g176) rfl rfl (Run.not rfl rfl) ?_
                                    refine WL.val (wantF rfl g176) rfl rfl (Run.move rfl rfl) ?_
                                    apply WL.meetAnd 9 114 123 [(0, _), (1, _), (2, _), (3, _), (4, _), (5, _), (6, _), (14, _), (15, _), (16, _), (17, _), (18, _), (19, _), (20, _), (21, _), (22, _), (23, _), (24, _), (25, _), (65, _), (88, _), (109, _)] rfl hs175
                                    · intro g178 J179
                                      refine WL.val (wantT rfl g178) rfl rfl (Run.field Try.runUnderlying27 rfl rfl rfl Try.sizeOf9 rfl) ?_
                                      refine WL.val (wantT rfl g178) rfl rfl (Run.loadL hs175 1 Try.isAgg9 rfl rfl rfl rfl) ?_
                                      refine WL.val (wantT rfl g178) rfl rfl (Run.neqS rfl rfl rfl) ?_
                                      refine WL.val (wantT rfl g178) rfl rfl (Run.move rfl rfl) ?_
                                      apply WL.meetOr 4 118 122 [(0, _), (1, _), (2, _), (3, _), (4, _), (5, _), (6, _), (14, _), (15, _), (16, _), (17, _), (18, _), (19, _), (20, _), (21, _), (22, _), (23, _), (24, _), (25, _), (65, _), (88, _), (109, _), (114, _)] rfl hs175
                                      · intro g180 J181
                                        refine WL.val (wantF rfl g180) rfl rfl (Run.field Try.runUnderlying27 rfl rfl rfl Try.sizeOf9 rfl) ?_
                                        refine WL.val (wantF rfl g180) rfl rfl (Run.loadL hs175 1 Try.isAgg9 rfl rfl rfl rfl) ?_
                                        refine WL.val (wantF rfl g180) rfl rfl (Run.neqS rfl rfl rfl) ?_
                                        refine WL.val (wantT rfl g178) rfl rfl (Run.pickF rfl rfl g180 rfl) ?_
                                        exact WL.fin J181 hs175 rfl (orF g180) ⟨rfl, rfl, rfl, rfl, rfl, rfl, rfl, rfl, rfl, rfl, rfl, rfl, rfl, rfl, rfl, rfl, rfl, rfl, rfl, rfl, rfl, rfl, rfl, trivial⟩
                                      · intro g180 J181
                                        refine WL.skip (wantNF rfl g180) rfl rfl ?_
                                        refine WL.skip (wantNF rfl g180) rfl rfl ?_
                                        refine WL.skip (wantNF rfl g180) rfl rfl ?_
                                        refine WL.val (wantT rfl g178) rfl rfl (Run.pickT rfl rfl g180 rfl) ?_
                                        exact WL.fin J181 hs175 rfl (orT g180) ⟨rfl, rfl, rfl, rfl, rfl, rfl, rfl, rfl, rfl, rfl, rfl, rfl, rfl, rfl, rfl, rfl, rfl, rfl, rfl, rfl, rfl, rfl, rfl, trivial⟩
                                      · intro whs182 hs182
                                        refine WL.val (wantF rfl g176) rfl rfl (Run.pickT rfl rfl g178 rfl) ?_
                                        exact WL.fin J179 hs182 rfl (andT g178) ⟨rfl, rfl, rfl, rfl, rfl, rfl, rfl, rfl, rfl, rfl, rfl, rfl, rfl, rfl, rfl, rfl, rfl, rfl, rfl, rfl, rfl, rfl, trivial⟩
                                    · intro g178 J179
                                      refine WL.skip (wantNT rfl g178) rfl rfl ?_
                                      refine WL.skip (wantNT rfl g178) rfl rfl ?_
                                      refine WL.skip (wantNT rfl g178) rfl rfl ?_
                                      refine WL.skip (wantNT rfl g178) rfl rfl ?_
                                      refine WL.skip rfl rfl rfl ?_
                                      refine WL.skip rfl rfl rfl ?_
                                      refine WL.skip rfl rfl rfl ?_
                                      refine WL.skip (wantNT rfl g178) rfl rfl ?_
                                      refine WL.val (wantF rfl g176) rfl rfl (Run.pickF rfl rfl g178 rfl) ?_
                                      exact WL.fin J179 hs175 rfl (andF g178) ⟨rfl, rfl, rfl, rfl, rfl, rfl, rfl, rfl, rfl, rfl, rfl, rfl, rfl, rfl, rfl, rfl, rfl, rfl, rfl, rfl, rfl, rfl, trivial⟩
                                    · intro whs183 hs183
                                      refine WL.val rfl rfl rfl (Run.pickF rfl rfl g176 rfl) ?_
                                      exact WL.fin J177 hs183 rfl (orF g176) ⟨rfl, rfl, rfl, rfl, rfl, rfl, rfl, rfl, rfl, rfl, rfl, rfl, rfl, rfl, rfl, rfl, rfl, rfl, rfl, rfl, rfl, trivial⟩
                                  · intro g176 J177
                                    refine WL.skip (wantNF rfl g176) rfl rfl ?_
                                    refine WL.skip (wantNF rfl g176) rfl rfl ?_
                                    refine WL.skip (wantNF rfl g176) rfl rfl ?_
                                    refine WL.skip (wantNF rfl g176) rfl rfl ?_
                                    refine WL.skip (wantNF rfl g176) rfl rfl ?_
                                    refine WL.skip rfl rfl rfl ?_
                                    refine WL.skip rfl rfl rfl ?_
                                    refine WL.skip rfl rfl rfl ?_
                                    refine WL.skip rfl rfl rfl ?_
                                    refine WL.skip rfl rfl rfl ?_
                                    refine WL.skip rfl rfl rfl ?_
                                    refine WL.skip rfl rfl rfl ?_
                                    refine WL.skip rfl rfl rfl ?_
                                    refine WL.skip (wantNF rfl g176) rfl rfl ?_
                                    refine WL.val rfl rfl rfl (Run.pickT rfl rfl g176 rfl) ?_
                                    exact WL.fin J177 hs175 rfl (orT g176) ⟨rfl, rfl, rfl, rfl, rfl, rfl, rfl, rfl, rfl, rfl, rfl, rfl, rfl, rfl, rfl, rfl, rfl, rfl, rfl, rfl, rfl, trivial⟩
                                  · intro whs184 hs184
                                    refine WL.nil ?_
                                    refine tkN ?_
                                    refine hK165 _ _ ?_
                                    clear hK165
                                    refine WC.cond rfl (fun h185 => ?_) (fun h185 => ?_)
                                    · have qh185 := h185
                                      try simp only [decide_eq_true_eq, decide_eq_false_iff_not, Bool.not_eq_true', Bool.not_eq_false', Bool.and_eq_true, Bool.or_eq_false_iff, within_iff, within_not] at qh185
                                      refine WC.seq (fun K186 hK186 => ?_)
                                      refine WC.region ?_
                                      refine WL.val rfl rfl rfl (Run.assign rfl rfl) ?_
                                      refine WL.nil ?_
                                      refine tkN ?_
                                      refine hK186 _ _ ?_
                                      clear hK186
                                      refine WC.ret ?_
                                      refine tkR ?_
                                      clear hK164
                                      refine retV1 rfl (resV.tmp rfl) ?_
                                      refine ⟨congrArg Ending.returned ?_, hs184.nil⟩
                                      rw [opOk_eq]; simp_all [opOkS, noText, isCmd] <;> grind
                                    · have qh185 := h185
                                      try simp only [decide_eq_true_eq, decide_eq_false_iff_not, Bool.not_eq_true', Bool.not_eq_false', Bool.and_eq_true, Bool.or_eq_false_iff, within_iff, within_not] at qh185
                                      refine WC.skip ?_
                                      refine tkN ?_
                                      refine hK164 _ _ ?_
                                      clear hK164
                                      refine WC.seq (fun K187 hK187 => ?_)
                                      refine WC.region ?_
                                      refine WL.val rfl rfl rfl (Run.field Try.runUnderlying27 rfl rfl rfl Try.sizeOf9 rfl) ?_
                                      refine WL.val rfl rfl rfl (Run.loadL hs184 1 Try.isAgg9 rfl rfl rfl rfl) ?_
                                      refine WL.val rfl rfl rfl (Run.lenStr Try.runUnderlying9 rfl rfl) ?_
                                      refine WL.val rfl rfl rfl (Run.leq rfl rfl rfl) ?_
                                      refine WL.val rfl rfl rfl (Run.move rfl rfl) ?_
                                      apply WL.meetAnd 5 129 134 [(0, _), (1, _), (2, _), (3, _), (4, _), (5, _), (6, _), (14, _), (15, _), (16, _), (17, _), (18, _), (19, _), (20, _), (21, _), (22, _), (23, _), (24, _), (25, _), (65, _), (88, _), (124, _)] rfl hs184
                                      · intro g188 J189
                                        refine WL.val (wantT rfl g188) rfl rfl (Run.field Try.runUnderlying27 rfl rfl rfl Try.sizeOf9 rfl) ?_
                                        refine WL.val (wantT rfl g188) rfl rfl (Run.loadL hs184 1 Try.isAgg9 rfl rfl rfl rfl) ?_
                                        refine WL.val (wantT rfl g188) rfl rfl (Run.lenStr Try.runUnderlying9 rfl rfl) ?_
                                        refine WL.val (wantT rfl g188) rfl rfl (Run.leq rfl rfl rfl) ?_
                                        refine WL.val rfl rfl rfl (Run.pickT rfl rfl g188 rfl) ?_
                                        exact WL.fin J189 hs184 rfl (andT g188) ⟨rfl, rfl, rfl, rfl, rfl, rfl, rfl, rfl, rfl, rfl, rfl, rfl, rfl, rfl, rfl, rfl, rfl, rfl, rfl, rfl, rfl, rfl, trivial⟩
                                      · intro g188 J189
                                        refine WL.skip (wantNT rfl g188) rfl rfl ?_
                                        refine WL.skip (wantNT rfl g188) rfl rfl ?_
                                        refine WL.skip (wantNT rfl g188) rfl rfl ?_
                                        refine WL.skip (wantNT rfl g188) rfl rfl ?_
                                        refine WL.val rfl rfl rfl (Run.pickF rfl rfl g188 rfl) ?_
                                        exact WL.fin J189 hs184 rfl (andF g188) ⟨rfl, rfl, rfl, rfl, rfl, rfl, rfl, rfl, rfl, rfl, rfl, rfl, rfl, rfl, rfl, rfl, rfl, rfl, rfl, rfl, rfl, rfl, trivial⟩
                                      · intro whs190 hs190
                                        refine WL.val rfl rfl rfl (Run.assign rfl rfl) ?_
                                        refine WL.nil ?_
                                        refine tkN ?_
                                        refine hK187 _ _ ?_
                                        clear hK187
                                        refine WC.ret ?_
                                        refine retV1 rfl (resV.tmp rfl) ?_
                                        refine ⟨congrArg Ending.returned ?_, hs190.nil⟩
                                        rw [opOk_eq]; simp_all [opOkS, noText, isCmd] <;> grind
          · have qh135 := h135
            try simp only [decide_eq_true_eq, decide_eq_false_iff_not, Bool.not_eq_true', Bool.not_eq_false', Bool.and_eq_true, Bool.or_eq_false_iff, within_iff, within_not] at qh135
            refine WC.seq (fun K191 hK191 => ?_)
            refine WC.region ?_
            refine WL.val rfl rfl rfl (Run.eql rfl rfl rfl) ?_
            refine WL.val rfl rfl rfl (Run.assign rfl rfl) ?_
            refine WL.nil ?_
            refine tkN ?_
            refine hK191 _ _ ?_
            clear hK191
            refine WC.cond rfl (fun h192 => ?_) (fun h192 => ?_)
            · have qh192 := h192
              try simp only [decide_eq_true_eq, decide_eq_false_iff_not, Bool.not_eq_true', Bool.not_eq_false', Bool.and_eq_true, Bool.or_eq_false_iff, within_iff, within_not] at qh192
              refine WC.seq (fun K193 hK193 => ?_)
              refine WC.region ?_
              refine WL.val rfl rfl rfl (Run.assign rfl rfl) ?_
              refine WL.nil ?_
              refine tkN ?_
              refine hK193 _ _ ?_
              clear hK193
              refine WC.region ?_
              refine WL.val rfl rfl rfl (Run.assign rfl rfl) ?_
              refine WL.nil ?_
              refine ibN ?_
              refine tkN ?_
              refine hK18 _ _ ?_
              clear hK18
              refine WC.seq (fun K194 hK194 => ?_)
              refine WC.seq (fun K195 hK195 => ?_)
              refine WC.regionQ (fun w' => St _ _ _ w') mixed (by kernel_rfl) hs13.drew ?_
              refine WQ.val rfl rfl rfl (fun w_ hs_ => (Run.move rfl rfl)) ?_
              refine WQ.val rfl rfl rfl (fun w_ hs_ => (Run.idxB Try.runUnderlying75 Try.sizeOf4 rfl rfl rfl ?_ ?_)) ?_
              · omega
              · omega
              refine WQ.val rfl rfl rfl (fun w_ hs_ => (Run.loadL (hs_ : St _ _ _ _) 0 Try.isAgg4 rfl rfl rfl rfl)) ?_
              refine WQ.val rfl rfl rfl (fun w_ hs_ => (Run.field Try.runUnderlying27 rfl rfl rfl Try.sizeOf3 rfl)) ?_
              refine WQ.val rfl rfl rfl (fun w_ hs_ => (Run.loadL (hs_ : St _ _ _ _) 1 Try.isAgg3 rfl rfl rfl rfl)) ?_
              refine WQ.val rfl rfl rfl (fun w_ hs_ => (Run.move rfl rfl)) ?_
              refine WQ.call rfl rfl rfl (fun w_ hs_ => (Run.call Try.call46 rfl rfl rfl)) (fun w_ hs_ => (c_spec_l16In _ _ _ _ _).mono fun e_ w_ h_ => ⟨h_.1, (hs_ : St _ _ _ _).call0 h_.2⟩) ?_
              refine WQ.val rfl rfl rfl (fun w_ hs_ => (Run.not rfl rfl)) ?_
              refine WQ.val rfl rfl rfl (fun w_ hs_ => (Run.move rfl rfl)) ?_
              apply WQ.meetOr 10 36 46 [(0, _), (1, _), (2, _), (3, _), (4, _), (5, _), (6, _), (14, _), (15, _), (16, _), (17, _), (18, _), (19, _), (20, _), (21, _), (22, _), (23, _), (24, _), (25, _), (26, _), (27, _)] rfl
              · intro g196 J197
                refine WQ.val (wantF rfl g196) rfl rfl (fun w_ hs_ => (Run.move rfl rfl)) ?_
                refine WQ.val (wantF rfl g196) rfl rfl (fun w_ hs_ => (Run.idxB Try.runUnderlying75 Try.sizeOf4 rfl rfl rfl ?_ ?_)) ?_
                · omega
                · omega
                refine WQ.val (wantF rfl g196) rfl rfl (fun w_ hs_ => (Run.loadL (hs_ : St _ _ _ _) 0 Try.isAgg4 rfl rfl rfl rfl)) ?_
                refine WQ.val (wantF rfl g196) rfl rfl (fun w_ hs_ => (Run.field Try.runUnderlying27 rfl rfl rfl Try.sizeOf3 rfl)) ?_
                refine WQ.val (wantF rfl g196) rfl rfl (fun w_ hs_ => (Run.loadL (hs_ : St _ _ _ _) 1 Try.isAgg3 rfl rfl rfl rfl)) ?_
                refine WQ.val (wantF rfl g196) rfl rfl (fun w_ hs_ => (Run.move rfl rfl)) ?_
                refine WQ.val (wantF rfl g196) rfl rfl (fun w_ hs_ => (Run.move rfl rfl)) ?_
                refine WQ.call (wantF rfl g196) rfl rfl (fun w_ hs_ => (Run.call Try.call46 rfl rfl rfl)) (fun w_ hs_ => (c_spec_l16In _ _ _ _ _).mono fun e_ w_ h_ => ⟨h_.1, (hs_ : St _ _ _ _).call0 h_.2⟩) ?_
                refine WQ.val (wantF rfl g196) rfl rfl (fun w_ hs_ => (Run.not rfl rfl)) ?_
                refine WQ.val rfl rfl rfl (fun w_ hs_ => (Run.pickF rfl rfl g196 rfl)) ?_
                exact WQ.fin J197 rfl (orF g196) ⟨rfl, rfl, rfl, rfl, rfl, rfl, rfl, rfl, rfl, rfl, rfl, rfl, rfl, rfl, rfl, rfl, rfl, rfl, rfl, rfl, rfl, trivial⟩
              · intro g196 J197
                refine WQ.skip (wantNF rfl g196) rfl rfl ?_
                refine WQ.skip (wantNF rfl g196) rfl rfl ?_
                refine WQ.skip (wantNF rfl g196) rfl rfl ?_
                refine WQ.skip (wantNF rfl g196) rfl rfl ?_
                refine WQ.skip (wantNF rfl g196) rfl rfl ?_
                refine WQ.skip (wantNF rfl g196) rfl rfl ?_
                refine WQ.skip (wantNF rfl g196) rfl rfl ?_
                refine WQ.skip (wantNF rfl g196) rfl rfl ?_
                refine WQ.skip (wantNF rfl g196) rfl rfl ?_
                refine WQ.val rfl rfl rfl (fun w_ hs_ => (Run.pickT rfl rfl g196 rfl)) ?_
                exact WQ.fin J197 rfl (orT g196) ⟨rfl, rfl, rfl, rfl, rfl, rfl, rfl, rfl, rfl, rfl, rfl, rfl, rfl, rfl, rfl, rfl, rfl, rfl, rfl, rfl, rfl, trivial⟩
              · refine WQ.val rfl rfl rfl (fun w_ hs_ => (Run.move rfl rfl)) ?_
                apply WQ.meetOr 8 47 55 [(0, _), (1, _), (2, _), (3, _), (4, _), (5, _), (6, _), (14, _), (15, _), (16, _), (17, _), (18, _), (19, _), (20, _), (21, _), (22, _), (23, _), (24, _), (25, _), (26, _), (27, _)] rfl
                · intro g198 J199
                  refine WQ.val (wantF rfl g198) rfl rfl (fun w_ hs_ => (Run.move rfl rfl)) ?_
                  refine WQ.val (wantF rfl g198) rfl rfl (fun w_ hs_ => (Run.idxB Try.runUnderlying75 Try.sizeOf4 rfl rfl rfl ?_ ?_)) ?_
                  · omega
                  · omega
                  refine WQ.val (wantF rfl g198) rfl rfl (fun w_ hs_ => (Run.loadL (hs_ : St _ _ _ _) 0 Try.isAgg4 rfl rfl rfl rfl)) ?_
                  refine WQ.val (wantF rfl g198) rfl rfl (fun w_ hs_ => (Run.field Try.runUnderlying27 rfl rfl rfl Try.sizeOf3 rfl)) ?_
                  refine WQ.val (wantF rfl g198) rfl rfl (fun w_ hs_ => (Run.loadL (hs_ : St _ _ _ _) 1 Try.isAgg3 rfl rfl rfl rfl)) ?_
                  refine WQ.call (wantF rfl g198) rfl rfl (fun w_ hs_ => (Run.call Try.call46 rfl rfl rfl)) (fun w_ hs_ => (c_spec_l16In _ _ _ _ _).mono fun e_ w_ h_ => ⟨h_.1, (hs_ : St _ _ _ _).call0 h_.2⟩) ?_
                  refine WQ.val (wantF rfl g198) rfl rfl (fun w_ hs_ => (Run.not rfl rfl)) ?_
                  refine WQ.val rfl rfl rfl (fun w_ hs_ => (Run.pickF rfl rfl g198 rfl)) ?_
                  exact WQ.fin J199 rfl (orF g198) ⟨rfl, rfl, rfl, rfl, rfl, rfl, rfl, rfl, rfl, rfl, rfl, rfl, rfl, rfl, rfl, rfl, rfl, rfl, rfl, rfl, rfl, trivial⟩
                · intro g198 J199
                  refine WQ.skip (wantNF rfl g198) rfl rfl ?_
                  refine WQ.skip (wantNF rfl g198) rfl rfl ?_
                  refine WQ.skip (wantNF rfl g198) rfl rfl ?_
                  refine WQ.skip (wantNF rfl g198) rfl rfl ?_
                  refine WQ.skip (wantNF rfl g198) rfl rfl ?_
                  refine WQ.skip (wantNF rfl g198) rfl rfl ?_
                  refine WQ.skip (wantNF rfl g198) rfl rfl ?_
                  refine WQ.val rfl rfl rfl (fun w_ hs_ => (Run.pickT rfl rfl g198 rfl)) ?_
                  exact WQ.fin J199 rfl (orT g198) ⟨rfl, rfl, rfl, rfl, rfl, rfl, rfl, rfl, rfl, rfl, rfl, rfl, rfl, rfl, rfl, rfl, rfl, rfl, rfl, rfl, rfl, trivial⟩
                · refine WQ.val rfl rfl rfl (fun w_ hs_ => (Run.move rfl rfl)) ?_
                  apply WQ.meetOr 9 56 65 [(0, _), (1, _), (2, _), (3, _), (4, _), (5, _), (6, _), (14, _), (15, _), (16, _), (17, _), (18, _), (19, _), (20, _), (21, _), (22, _), (23, _), (24, _), (25, _), (26, _), (27, _)] rfl
                  · intro g200 J201
                    refine WQ.val (wantF rfl g200) rfl rfl (fun w_ hs_ => (Run.move rfl rfl)) ?_
                    refine WQ.val (wantF rfl g200) rfl rfl (fun w_ hs_ => (Run.idxB Try.runUnderlying75 Try.sizeOf4 rfl rfl rfl ?_ ?_)) ?_
                    · omega
                    · omega
                    refine WQ.val (wantF rfl g200) rfl rfl (fun w_ hs_ => (Run.loadL (hs_ : St _ _ _ _) 0 Try.isAgg4 rfl rfl rfl rfl)) ?_
                    refine WQ.val (wantF rfl g200) rfl rfl (fun w_ hs_ => (Run.field Try.runUnderlying27 rfl rfl rfl Try.sizeOf22 rfl)) ?_
                    refine WQ.val (wantF rfl g200) rfl rfl (fun w_ hs_ => (Run.loadL (hs_ : St _ _ _ _) 1 Try.isAgg22 rfl rfl rfl rfl)) ?_
                    refine WQ.val (wantF rfl g200) rfl rfl (fun w_ hs_ => (Run.lenSl Try.runUnderlying22 rfl rfl)) ?_
                    refine WQ.call (wantF rfl g200) rfl rfl (fun w_ hs_ => (Run.call Try.call46 rfl rfl rfl)) (fun w_ hs_ => (c_spec_l16In _ _ _ _ _).mono fun e_ w_ h_ => ⟨h_.1, (hs_ : St _ _ _ _).call0 h_.2⟩) ?_
                    refine WQ.val (wantF rfl g200) rfl rfl (fun w_ hs_ => (Run.not rfl rfl)) ?_
                    refine WQ.val rfl rfl rfl (fun w_ hs_ => (Run.pickF rfl rfl g200 rfl)) ?_
                    exact WQ.fin J201 rfl (orF g200) ⟨rfl, rfl, rfl, rfl, rfl, rfl, rfl, rfl, rfl, rfl, rfl, rfl, rfl, rfl, rfl, rfl, rfl, rfl, rfl, rfl, rfl, trivial⟩
                  · intro g200 J201
                    refine WQ.skip (wantNF rfl g200) rfl rfl ?_
                    refine WQ.skip (wantNF rfl g200) rfl rfl ?_
                    refine WQ.skip (wantNF rfl g200) rfl rfl ?_
                    refine WQ.skip (wantNF rfl g200) rfl rfl ?_
                    refine WQ.skip (wantNF rfl g200) rfl rfl ?_
                    refine WQ.skip (wantNF rfl g200) rfl rfl ?_
                    refine WQ.skip (wantNF rfl g200) rfl rfl ?_
                    refine WQ.skip (wantNF rfl g200) rfl rfl ?_
                    refine WQ.val rfl rfl rfl (fun w_ hs_ => (Run.pickT rfl rfl g200 rfl)) ?_
                    exact WQ.fin J201 rfl (orT g200) ⟨rfl, rfl, rfl, rfl, rfl, rfl, rfl, rfl, rfl, rfl, rfl, rfl, rfl, rfl, rfl, rfl, rfl, rfl, rfl, rfl, rfl, trivial⟩
                  · refine WQ.nil (fun whs202 hs202 => ?_)
                    replace hs202 : St _ _ _ _ := hs202
                    refine tkN ?_
                    refine hK195 _ _ ?_
                    clear hK195
                    refine WC.cond rfl (fun h203 => ?_) (fun h203 => ?_)
                    · have qh203 := h203
                      try simp only [decide_eq_true_eq, decide_eq_false_iff_not, Bool.not_eq_true', Bool.not_eq_false', Bool.and_eq_true, Bool.or_eq_false_iff, within_iff, within_not] at qh203
                      refine WC.seq (fun K204 hK204 => ?_)
                      refine WC.region ?_
                      refine WL.val rfl rfl rfl (Run.assign rfl rfl) ?_
                      refine WL.nil ?_
                      refine tkN ?_
                      refine hK204 _ _ ?_
                      clear hK204
                      refine WC.ret ?_
                      refine tkR ?_
                      clear hK194
                      refine retV1 rfl (resV.tmp rfl) ?_
                      refine ⟨congrArg Ending.returned ?_, hs202.nil⟩
                      rw [opOk_eq]; simp_all [opOkS, noText, isCmd] <;> grind
                    · have qh203 := h203
                      try simp only [decide_eq_true_eq, decide_eq_false_iff_not, Bool.not_eq_true', Bool.not_eq_false', Bool.and_eq_true, Bool.or_eq_false_iff, within_iff, within_not] at qh203
                      refine WC.skip ?_
                      refine tkN ?_
                      refine hK194 _ _ ?_
                      clear hK194
                      refine WC.seq (fun K205 hK205 => ?_)
                      refine WC.seq (fun K206 hK206 => ?_)
                      refine WC.region ?_
                      refine WL.val rfl rfl rfl (Run.field Try.runUnderlying27 rfl rfl rfl Try.sizeOf3 rfl) ?_
                      refine WL.val rfl rfl rfl (Run.loadL hs202 1 Try.isAgg3 rfl rfl rfl rfl) ?_
                      refine WL.val rfl rfl rfl (Run.eql rfl rfl rfl) ?_
                      refine WL.val rfl rfl rfl (Run.move rfl rfl) ?_
                      apply WL.meetAnd 4 69 73 [(0, _), (1, _), (2, _), (3, _), (4, _), (5, _), (6, _), (14, _), (15, _), (16, _), (17, _), (18, _), (19, _), (20, _), (21, _), (22, _), (23, _), (24, _), (25, _), (26, _), (27, _), (65, _)] rfl hs202
                      · intro g207 J208
                        refine WL.val (wantT rfl g207) rfl rfl (Run.field Try.runUnderlying27 rfl rfl rfl Try.sizeOf3 rfl) ?_
                        refine WL.val (wantT rfl g207) rfl rfl (Run.loadL hs202 1 Try.isAgg3 rfl rfl rfl rfl) ?_
                        refine WL.val (wantT rfl g207) rfl rfl (Run.neq rfl rfl rfl) ?_
                        refine WL.val rfl rfl rfl (Run.pickT rfl rfl g207 rfl) ?_
                        exact WL.fin J208 hs202 rfl (andT g207) ⟨rfl, rfl, rfl, rfl, rfl, rfl, rfl, rfl, rfl, rfl, rfl, rfl, rfl, rfl, rfl, rfl, rfl, rfl, rfl, rfl, rfl, rfl, trivial⟩
                      · intro g207 J208
                        refine WL.skip (wantNT rfl g207) rfl rfl ?_
                        refine WL.skip (wantNT rfl g207) rfl rfl ?_
                        refine WL.skip (wantNT rfl g207) rfl rfl ?_
                        refine WL.val rfl rfl rfl (Run.pickF rfl rfl g207 rfl) ?_
                        exact WL.fin J208 hs202 rfl (andF g207) ⟨rfl, rfl, rfl, rfl, rfl, rfl, rfl, rfl, rfl, rfl, rfl, rfl, rfl, rfl, rfl, rfl, rfl, rfl, rfl, rfl, rfl, rfl, trivial⟩
                      · intro whs209 hs209
                        refine WL.val rfl rfl rfl (Run.move rfl rfl) ?_
                        apply WL.meetAnd 4 74 78 [(0, _), (1, _), (2, _), (3, _), (4, _), (5, _), (6, _), (14, _), (15, _), (16, _), (17, _), (18, _), (19, _), (20, _), (21, _), (22, _), (23, _), (24, _), (25, _), (26, _), (27, _), (65, _)] rfl hs209
                        · intro g210 J211
                          refine WL.val (wantT rfl g210) rfl rfl (Run.field Try.runUnderlying27 rfl rfl rfl Try.sizeOf3 rfl) ?_
                          refine WL.val (wantT rfl g210) rfl rfl (Run.loadL hs209 1 Try.isAgg3 rfl rfl rfl rfl) ?_
                          refine WL.val (wantT rfl g210) rfl rfl (Run.neq rfl rfl rfl) ?_
                          refine WL.val rfl rfl rfl (Run.pickT rfl rfl g210 rfl) ?_
                          exact WL.fin J211 hs209 rfl (andT g210) ⟨rfl, rfl, rfl, rfl, rfl, rfl, rfl, rfl, rfl, rfl, rfl, rfl, rfl, rfl, rfl, rfl, rfl, rfl, rfl, rfl, rfl, rfl, trivial⟩
                        · intro g210 J211
                          refine WL.skip (wantNT rfl g210) rfl rfl ?_
                          refine WL.skip (wantNT rfl g210) rfl rfl ?_
                          refine WL.skip (wantNT rfl g210) rfl rfl ?_
                          refine WL.val rfl rfl rfl (Run.pickF rfl rfl g210 rfl) ?_
                          exact WL.fin J211 hs209 rfl (andF g210) ⟨rfl, rfl, rfl, rfl, rfl, rfl, rfl, rfl, rfl, rfl, rfl, rfl, rfl, rfl, rfl, rfl, rfl, rfl, rfl, rfl, rfl, rfl, trivial⟩
                        · intro whs212 hs212
                          refine WL.val rfl rfl rfl (Run.move rfl rfl) ?_
                          apply WL.meetAnd 4 79 83 [(0, _), (1, _), (2, _), (3, _), (4, _), (5, _), (6, _), (14, _), (15, _), (16, _), (17, _), (18, _), (19, _), (20, _), (21, _), (22, _), (23, _), (24, _), (25, _), (26, _), (27, _), (65, _)] rfl hs212
                          · intro g213 J214
                            refine WL.val (wantT rfl g213) rfl rfl (Run.field Try.runUnderlying27 rfl rfl rfl Try.sizeOf3 rfl) ?_
                            refine WL.val (wantT rfl g213) rfl rfl (Run.loadL hs212 1 Try.isAgg3 rfl rfl rfl rfl) ?_
                            refine WL.val (wantT rfl g213) rfl rfl (Run.neq rfl rfl rfl) ?_
                            refine WL.val rfl rfl rfl (Run.pickT rfl rfl g213 rfl) ?_
                            exact WL.fin J214 hs212 rfl (andT g213) ⟨rfl, rfl, rfl, rfl, rfl, rfl, rfl, rfl, rfl, rfl, rfl, rfl, rfl, rfl, rfl, rfl, rfl, rfl, rfl, rfl, rfl, rfl, trivial⟩
                          · intro g213 J214
                            refine WL.skip (wantNT rfl g213) rfl rfl ?_
                            refine WL.skip (wantNT rfl g213) rfl rfl ?_
                            refine WL.skip (wantNT rfl g213) rfl rfl ?_
                            refine WL.val rfl rfl rfl (Run.pickF rfl rfl g213 rfl) ?_
                            exact WL.fin J214 hs212 rfl (andF g213) ⟨rfl, rfl, rfl, rfl, rfl, rfl, rfl, rfl, rfl, rfl, rfl, rfl, rfl, rfl, rfl, rfl, rfl, rfl, rfl, rfl, rfl, rfl, trivial⟩
                          · intro whs215 hs215
                            refine WL.val rfl rfl rfl (Run.move rfl rfl) ?_
                            apply WL.meetAnd 4 84 88 [(0, _), (1, _), (2, _), (3, _), (4, _), (5, _), (6, _), (14, _), (15, _), (16, _), (17, _), (18, _), (19, _), (20, _), (21, _), (22, _), (23, _), (24, _), (25, _), (26, _), (27, _), (65, _)] rfl hs215
                            · intro g216 J217
                              refine WL.val (wantT rfl g216) rfl rfl (Run.field Try.runUnderlying27 rfl rfl rfl Try.sizeOf3 rfl) ?_
                              refine WL.val (wantT rfl g216) rfl rfl (Run.loadL hs215 1 Try.isAgg3 rfl rfl rfl rfl) ?_
                              refine WL.val (wantT rfl g216) rfl rfl (Run.neq rfl rfl rfl) ?_
                              refine WL.val rfl rfl rfl (Run.pickT rfl rfl g216 rfl) ?_
                              exact WL.fin J217 hs215 rfl (andT g216) ⟨rfl, rfl, rfl, rfl, rfl, rfl, rfl, rfl, rfl, rfl, rfl, rfl, rfl, rfl, rfl, rfl, rfl, rfl, rfl, rfl, rfl, rfl, trivial⟩
                            · intro g216 J217
                              refine WL.skip (wantNT rfl g216) rfl rfl ?_
                              refine WL.skip (wantNT rfl g216) rfl rfl ?_
                              refine WL.skip (wantNT rfl g216) rfl rfl ?_
                              refine WL.val rfl rfl rfl (Run.pickF rfl rfl g216 rfl) ?_
                              exact WL.fin J217 hs215 rfl (andF g216) ⟨rfl, rfl, rfl, rfl, rfl, rfl, rfl, rfl, rfl, rfl, rfl, rfl, rfl, rfl, rfl, rfl, rfl, rfl, rfl, rfl, rfl, rfl, trivial⟩
                            · intro whs218 hs218
                              refine WL.nil ?_
                              refine tkN ?_
                              refine hK206 _ _ ?_
                              clear hK206
                              refine WC.cond rfl (fun h219 => ?_) (fun h219 => ?_)
                              · have qh219 := h219
                                try simp only [decide_eq_true_eq, decide_eq_false_iff_not, Bool.not_eq_true', Bool.not_eq_false', Bool.and_eq_true, Bool.or_eq_false_iff, within_iff, within_not] at qh219
                                refine WC.seq (fun K220 hK220 => ?_)
                                refine WC.region ?_
                                refine WL.val rfl rfl rfl (Run.assign rfl rfl) ?_
                                refine WL.nil ?_
                                refine tkN ?_
                                refine hK220 _ _ ?_
                                clear hK220
                                refine WC.ret ?_
                                refine tkR ?_
                                clear hK205
                                refine retV1 rfl (resV.tmp rfl) ?_
                                refine ⟨congrArg Ending.returned ?_, hs218.nil⟩
                                rw [opOk_eq]; simp_all [opOkS, noText, isCmd] <;> grind
                              · have qh219 := h219
                                try simp only [decide_eq_true_eq, decide_eq_false_iff_not, Bool.not_eq_true', Bool.not_eq_false', Bool.and_eq_true, Bool.or_eq_false_iff, within_iff, within_not] at qh219
                                refine WC.skip ?_
                                refine tkN ?_
                                refine hK205 _ _ ?_
                                clear hK205
                                refine WC.seq (fun K221 hK221 => ?_)
                                refine WC.seq (fun K222 hK222 => ?_)
                                refine WC.region ?_
                                refine WL.val rfl rfl rfl (Run.move rfl rfl) ?_
                                refine WL.val rfl rfl rfl (Run.idxB Try.runUnderlying75 Try.sizeOf4 rfl rfl rfl ?_ ?_) ?_
                                · omega
                                · omega
                                refine WL.val rfl rfl rfl (Run.loadL hs218 0 Try.isAgg4 rfl rfl rfl rfl) ?_
                                refine WL.val rfl rfl rfl (Run.move rfl rfl) ?_
                                apply WL.meetAnd 5 92 97 [(0, _), (1, _), (2, _), (3, _), (4, _), (5, _), (6, _), (14, _), (15, _), (16, _), (17, _), (18, _), (19, _), (20, _), (21, _), (22, _), (23, _), (24, _), (25, _), (26, _), (27, _), (65, _), (88, _)] rfl hs218
                                · intro g223 J224
                                  refine WL.val (wantT rfl g223) rfl rfl (Run.field Try.runUnderlying27 rfl rfl rfl Try.sizeOf9 rfl) ?_
                                  refine WL.val (wantT rfl g223) rfl rfl (Run.loadL hs218 1 Try.isAgg9 rfl rfl rfl rfl) ?_
                                  refine WL.call (wantT rfl g223) rfl rfl (Run.call Try.call47 rfl rfl rfl) (c_spec_WordOk _ _ ?_) ?_
                                  · first | assumption | rfl | omega
                                  rintro _ whs225 ⟨rfl, hs225⟩
                                  replace hs225 := hs218.call0 hs225
                                  refine ⟨_, rfl, ?_⟩
                                  refine WL.val (wantT rfl g223) rfl rfl (Run.not rfl rfl) ?_
                                  refine WL.val rfl rfl rfl (Run.pickT rfl rfl g223 rfl) ?_
                                  exact WL.fin J224 hs225 rfl (andT g223) ⟨rfl, rfl, rfl, rfl, rfl, rfl, rfl, rfl, rfl, rfl, rfl, rfl, rfl, rfl, rfl, rfl, rfl, rfl, rfl, rfl, rfl, rfl, rfl, trivial⟩
                                · intro g223 J224
                                  refine WL.skip (wantNT rfl g223) rfl rfl ?_
                                  refine WL.skip (wantNT rfl g223) rfl rfl ?_
                                  refine WL.skip (wantNT rfl g223) rfl rfl ?_
                                  refine WL.skip (wantNT rfl g223) rfl rfl ?_
                                  refine WL.val rfl rfl rfl (Run.pickF rfl rfl g223 rfl) ?_
                                  exact WL.fin J224 hs218 rfl (andF g223) ⟨rfl, rfl, rfl, rfl, rfl, rfl, rfl, rfl, rfl, rfl, rfl, rfl, rfl, rfl, rfl, rfl, rfl, rfl, rfl, rfl, rfl, rfl, rfl, trivial⟩
                                · intro whs226 hs226
                                  refine WL.val rfl rfl rfl (Run.move rfl rfl) ?_
                                  apply WL.meetOr 10 98 108 [(0, _), (1, _), (2, _), (3, _), (4, _), (5, _), (6, _), (14, _), (15, _), (16, _), (17, _), (18, _), (19, _), (20, _), (21, _), (22, _), (23, _), (24, _), (25, _), (26, _), (27, _), (65, _), (88, _)] rfl hs226
                                  · intro g227 J228
                                    refine WL.val (wantF rfl g227) rfl rfl (Run.move rfl rfl) ?_
                                    refine WL.val (wantF rfl g227) rfl rfl (Run.idxB Try.runUnderlying75 Try.sizeOf4 rfl rfl rfl ?_ ?_) ?_
                                    · omega
                                    · omega
                                    refine WL.val (wantF rfl g227) rfl rfl (Run.loadL hs226 0 Try.isAgg4 rfl rfl rfl rfl) ?_
                                    refine WL.val (wantF rfl g227) rfl rfl (Run.not rfl rfl) ?_
                                    refine WL.val (wantF rfl g227) rfl rfl (Run.move rfl rfl) ?_
                                    apply WL.meetAnd 4 103 107 [(0, _), (1, _), (2, _), (3, _), (4, _), (5, _), (6, _), (14, _), (15, _), (16, _), (17, _), (18, _), (19, _), (20, _), (21, _), (22, _), (23, _), (24, _), (25, _), (26, _), (27, _), (65, _), (88, _), (98, _)] rfl hs226
                                    · intro g229 J230
                                      refine WL.val (wantT rfl g229) rfl rfl (Run.field Try.runUnderlying27 rfl rfl rfl Try.sizeOf9 rfl) ?_
                                      refine WL.val (wantT rfl g229) rfl rfl (Run.loadL hs226 1 Try.isAgg9 rfl rfl rfl rfl) ?_
                                      refine WL.val (wantT rfl g229) rfl rfl (Run.neqS rfl rfl rfl) ?_
                                      refine WL.val (wantF rfl g227) rfl rfl (Run.pickT rfl rfl g229 rfl) ?_
                                      exact WL.fin J230 hs226 rfl (andT g229) ⟨rfl, rfl, rfl, rfl, rfl, rfl, rfl, rfl, rfl, rfl, rfl, rfl, rfl, rfl, rfl, rfl, rfl, rfl, rfl, rfl, rfl, rfl, rfl, rfl, trivial⟩
                                    · intro g229 J230
                                      refine WL.skip (wantNT rfl g229) rfl rfl ?_
                                      refine WL.skip (wantNT rfl g229) rfl rfl ?_
                                      refine WL.skip (wantNT rfl g229) rfl rfl ?_
                                      refine WL.val (wantF rfl g227) rfl rfl (Run.pickF rfl rfl g229 rfl) ?_
                                      exact WL.fin J230 hs226 rfl (andF g229) ⟨rfl, rfl, rfl, rfl, rfl, rfl, rfl, rfl, rfl, rfl, rfl, rfl, rfl, rfl, rfl, rfl, rfl, rfl, rfl, rfl, rfl, rfl, rfl, rfl, trivial⟩
                                    · intro whs231 hs231
                                      refine WL.val rfl rfl rfl (Run.pickF rfl rfl g227 rfl) ?_
                                      exact WL.fin J228 hs231 rfl (orF g227) ⟨rfl, rfl, rfl, rfl, rfl, rfl, rfl, rfl, rfl, rfl, rfl, rfl, rfl, rfl, rfl, rfl, rfl, rfl, rfl, rfl, rfl, rfl, rfl, trivial⟩
                                  · intro g227 J228
                                    refine WL.skip (wantNF rfl g227) rfl rfl ?_
                                    refine WL.skip (wantNF rfl g227) rfl rfl ?_
                                    refine WL.skip (wantNF rfl g227) rfl rfl ?_
                                    refine WL.skip (wantNF rfl g227) rfl rfl ?_
                                    refine WL.skip (wantNF rfl g227) rfl rfl ?_
                                    refine WL.skip rfl rfl rfl ?_
                                    refine WL.skip rfl rfl rfl ?_
                                    refine WL.skip rfl rfl rfl ?_
                                    refine WL.skip (wantNF rfl g227) rfl rfl ?_
                                    refine WL.val rfl rfl rfl (Run.pickT rfl rfl g227 rfl) ?_
                                    exact WL.fin J228 hs226 rfl (orT g227) ⟨rfl, rfl, rfl, rfl, rfl, rfl, rfl, rfl, rfl, rfl, rfl, rfl, rfl, rfl, rfl, rfl, rfl, rfl, rfl, rfl, rfl, rfl, rfl, trivial⟩
                                  · intro whs232 hs232
                                    refine WL.val rfl rfl rfl (Run.move rfl rfl) ?_
                                    apply WL.meetOr 15 109 124 [(0, _), (1, _), (2, _), (3, _), (4, _), (5, _), (6, _), (14, _), (15, _), (16, _), (17, _), (18, _), (19, _), (20, _), (21, _), (22, _), (23, _), (24, _), (25, _), (26, _), (27, _), (65, _), (88, _)] rfl hs232
                                    · intro g233 J234
                                      refine WL.val (wantF rfl g233) rfl rfl (Run.move rfl rfl) ?_
                                      refine WL.val (wantF rfl g233) rfl rfl (Run.idxB Try.runUnderlying75 Try.sizeOf4 rfl rfl rfl ?_ ?_) ?_
                                      · omega
                                      · omega
                                      refine WL.val (wantF rfl g233) rfl rfl (Run.loadL hs232 0 Try.isAgg4 rfl rfl rfl rfl) ?_
                                      refine WL.val (wantF rfl g233) rfl rfl (Run.not rfl rfl) ?_
                                      refine WL.val (wantF rfl g233) rfl rfl (Run.move rfl rfl) ?_
                                      apply WL.meetAnd 9 114 123 [(0, _), (1, _), (2, _), (3, _), (4, _), (5, _), (6, _), (14, _), (15, _), (16, _), (17, _), (18, _), (19, _), (20, _), (21, _), (22, _), (23, _), (24, _), (25, _), (26, _), (27, _), (65, _), (88, _), (109, _)] rfl hs232
                                      · intro g235 J236
                                        refine WL.val (wantT rfl g235) rfl rfl (Run.field Try.runUnderlying27 rfl rfl rfl Try.sizeOf9 rfl) ?_
                                        refine WL.val (wantT rfl g235) rfl rfl (Run.loadL hs232 1 Try.isAgg9 rfl rfl rfl rfl) ?_
                                        refine WL.val (wantT rfl g235) rfl rfl (Run.neqS rfl rfl rfl) ?_
                                        refine WL.val (wantT rfl g235) rfl rfl (Run.move rfl rfl) ?_
                                        apply WL.meetOr 4 118 122 [(0, _), (1, _), (2, _), (3, _), (4, _), (5, _), (6, _), (14, _), (15, _), (16, _), (17, _), (18, _), (19, _), (20, _), (21, _), (22, _), (23, _), (24, _), (25, _), (26, _), (27, _), (65, _), (88, _), (109, _), (114, _)] rfl hs232
                                        · intro g237 J238
                                          refine WL.val (wantF rfl g237) rfl rfl (Run.field Try.runUnderlying27 rfl rfl rfl Try.sizeOf9 rfl) ?_
                                          refine WL.val (wantF rfl g237) rfl rfl (Run.loadL hs232 1 Try.isAgg9 rfl rfl rfl rfl) ?_
                                          refine WL.val (wantF rfl g237) rfl rfl (Run.neqS rfl rfl rfl) ?_
                                          refine WL.val (wantT rfl g235) rfl rfl (Run.pickF rfl rfl g237 rfl) ?_
                                          exact WL.fin J238 hs232 rfl (orF g237) ⟨rfl, rfl, rfl, rfl, rfl, rfl, rfl, rfl, rfl, rfl, rfl, rfl, rfl, rfl, rfl, rfl, rfl, rfl, rfl, rfl, rfl, rfl, rfl, rfl, rfl, trivial⟩
                                        · intro g237 J238
                                          refine WL.skip (wantNF rfl g237) rfl rfl ?_
                                          refine WL.skip (wantNF rfl g237) rfl rfl ?_
                                          refine WL.skip (wantNF rfl g237) rfl rfl ?_
                                          refine WL.val (wantT rfl g235) rfl rfl (Run.pickT rfl rfl g237 rfl) ?_
                                          exact WL.fin J238 hs232 rfl (orT g237) ⟨rfl, rfl, rfl, rfl, rfl, rfl, rfl, rfl, rfl, rfl, rfl, rfl, rfl, rfl, rfl, rfl, rfl, rfl, rfl, rfl, rfl, rfl, rfl, rfl, rfl, trivial⟩
                                        · intro whs239 hs239
                                          refine WL.val (wantF rfl g233) rfl rfl (Run.pickT rfl rfl g235 rfl) ?_
                                          exact WL.fin J236 hs239 rfl (andT g235) ⟨rfl, rfl, rfl, rfl, rfl, rfl, rfl, rfl, rfl, rfl, rfl, rfl, rfl, rfl, rfl, rfl, rfl, rfl, rfl, rfl, rfl, rfl, rfl, rfl, trivial⟩
                                      · intro g235 J236
                                        refine WL.skip (wantNT rfl g235) rfl rfl ?_
                                        refine WL.skip (wantNT rfl g235) rfl rfl ?_
                                        refine WL.skip (wantNT rfl g235) rfl rfl ?_
                                        refine WL.skip (wantNT rfl g235) rfl rfl ?_
                                        refine WL.skip rfl rfl rfl ?_
                                        refine WL.skip rfl rfl rfl ?_
                                        refine WL.skip rfl rfl rfl ?_
                                        refine WL.skip (wantNT rfl g235) rfl rfl ?_
                                        refine WL.val (wantF rfl g233) rfl rfl (Run.pickF rfl rfl g235 rfl) ?_
                                        exact WL.fin J236 hs232 rfl (andF g235) ⟨rfl, rfl, rfl, rfl, rfl, rfl, rfl, rfl, rfl, rfl, rfl, rfl, rfl, rfl, rfl, rfl, rfl, rfl, rfl, rfl, rfl, rfl, rfl, rfl, trivial⟩
                                      · intro whs240 hs240
                                        refine WL.val rfl rfl rfl (Run.pickF rfl rfl g233 rfl) ?_
                                        exact WL.fin J234 hs240 rfl (orF g233) ⟨rfl, rfl, rfl, rfl, rfl, rfl, rfl, rfl, rfl, rfl, rfl, rfl, rfl, rfl, rfl, rfl, rfl, rfl, rfl, rfl, rfl, rfl, rfl, trivial⟩
                                    · intro g233 J234
                                      refine WL.skip (wantNF rfl g233) rfl rfl ?_
                                      refine WL.skip (wantNF rfl g233) rfl rfl ?_
                                      refine WL.skip (wantNF rfl g233) rfl rfl ?_
                                      refine WL.skip (wantNF rfl g233) rfl rfl ?_
                                      refine WL.skip (wantNF rfl g233) rfl rfl ?_
                                      refine WL.skip rfl rfl rfl ?_
                                      refine WL.skip rfl rfl rfl ?_
                                      refine WL.skip rfl rfl rfl ?_
                                      refine WL.skip rfl rfl rfl ?_
                                      refine WL.skip rfl rfl rfl ?_
                                      refine WL.skip rfl rfl rfl ?_
                                      refine WL.skip rfl rfl rfl ?_
                                      refine WL.skip rfl rfl rfl ?_
                                      refine WL.skip (wantNF rfl g233) rfl rfl ?_
                                      refine WL.val rfl rfl rfl (Run.pickT rfl rfl g233 rfl) ?_
                                      exact WL.fin J234 hs232 rfl (orT g233) ⟨rfl, rfl, rfl, rfl, rfl, rfl, rfl, rfl, rfl, rfl, rfl, rfl, rfl, rfl, rfl, rfl, rfl, rfl, rfl, rfl, rfl, rfl, rfl, trivial⟩
                                    · intro whs241 hs241
                                      refine WL.nil ?_
                                      refine tkN ?_
                                      refine hK222 _ _ ?_
                                      clear hK222
                                      refine WC.cond rfl (fun h242 => ?_) (fun h242 => ?_)
                                      · have qh242 := h242
                                        try simp only [decide_eq_true_eq, decide_eq_false_iff_not, Bool.not_eq_true', Bool.not_eq_false', Bool.and_eq_true, Bool.or_eq_false_iff, within_iff, within_not] at qh242
                                        refine WC.seq (fun K243 hK243 => ?_)
                                        refine WC.region ?_
                                        refine WL.val rfl rfl rfl (Run.assign rfl rfl) ?_
                                        refine WL.nil ?_
                                        refine tkN ?_
                                        refine hK243 _ _ ?_
                                        clear hK243
                                        refine WC.ret ?_
                                        refine tkR ?_
                                        clear hK221
                                        refine retV1 rfl (resV.tmp rfl) ?_
                                        refine ⟨congrArg Ending.returned ?_, hs241.nil⟩
                                        rw [opOk_eq]; simp_all [opOkS, noText, isCmd] <;> grind
                                      · have qh242 := h242
                                        try simp only [decide_eq_true_eq, decide_eq_false_iff_not, Bool.not_eq_true', Bool.not_eq_false', Bool.and_eq_true, Bool.or_eq_false_iff, within_iff, within_not] at qh242
                                        refine WC.skip ?_
                                        refine tkN ?_
                                        refine hK221 _ _ ?_
                                        clear hK221
                                        refine WC.seq (fun K244 hK244 => ?_)
                                        refine WC.region ?_
                                        refine WL.val rfl rfl rfl (Run.field Try.runUnderlying27 rfl rfl rfl Try.sizeOf9 rfl) ?_
                                        refine WL.val rfl rfl rfl (Run.loadL hs241 1 Try.isAgg9 rfl rfl rfl rfl) ?_
                                        refine WL.val rfl rfl rfl (Run.lenStr Try.runUnderlying9 rfl rfl) ?_
                                        refine WL.val rfl rfl rfl (Run.leq rfl rfl rfl) ?_
                                        refine WL.val rfl rfl rfl (Run.move rfl rfl) ?_
                                        apply WL.meetAnd 5 129 134 [(0, _), (1, _), (2, _), (3, _), (4, _), (5, _), (6, _), (14, _), (15, _), (16, _), (17, _), (18, _), (19, _), (20, _), (21, _), (22, _), (23, _), (24, _), (25, _), (26, _), (27, _), (65, _), (88, _), (124, _)] rfl hs241
                                        · intro g245 J246
                                          refine WL.val (wantT rfl g245) rfl rfl (Run.field Try.runUnderlying27 rfl rfl rfl Try.sizeOf9 rfl) ?_
                                          refine WL.val (wantT rfl g245) rfl rfl (Run.loadL hs241 1 Try.isAgg9 rfl rfl rfl rfl) ?_
                                          refine WL.val (wantT rfl g245) rfl rfl (Run.lenStr Try.runUnderlying9 rfl rfl) ?_
                                          refine WL.val (wantT rfl g245) rfl rfl (Run.leq rfl rfl rfl) ?_
                                          refine WL.val rfl rfl rfl (Run.pickT rfl rfl g245 rfl) ?_
                                          exact WL.fin J246 hs241 rfl (andT g245) ⟨rfl, rfl, rfl, rfl, rfl, rfl, rfl, rfl, rfl, rfl, rfl, rfl, rfl, rfl, rfl, rfl, rfl, rfl, rfl, rfl, rfl, rfl, rfl, rfl, trivial⟩
                                        · intro g245 J246
                                          refine WL.skip (wantNT rfl g245) rfl rfl ?_
                                          refine WL.skip (wantNT rfl g245) rfl rfl ?_
                                          refine WL.skip (wantNT rfl g245) rfl rfl ?_
                                          refine WL.skip (wantNT rfl g245) rfl rfl ?_
                                          refine WL.val rfl rfl rfl (Run.pickF rfl rfl g245 rfl) ?_
                                          exact WL.fin J246 hs241 rfl (andF g245) ⟨rfl, rfl, rfl, rfl, rfl, rfl, rfl, rfl, rfl, rfl, rfl, rfl, rfl, rfl, rfl, rfl, rfl, rfl, rfl, rfl, rfl, rfl, rfl, rfl, trivial⟩
                                        · intro whs247 hs247
                                          refine WL.val rfl rfl rfl (Run.assign rfl rfl) ?_
                                          refine WL.nil ?_
                                          refine tkN ?_
                                          refine hK244 _ _ ?_
                                          clear hK244
                                          refine WC.ret ?_
                                          refine retV1 rfl (resV.tmp rfl) ?_
                                          refine ⟨congrArg Ending.returned ?_, hs247.nil⟩
                                          rw [opOk_eq]; simp_all [opOkS, noText, isCmd] <;> grind
            · have qh192 := h192
              try simp only [decide_eq_true_eq, decide_eq_false_iff_not, Bool.not_eq_true', Bool.not_eq_false', Bool.and_eq_true, Bool.or_eq_false_iff, within_iff, within_not] at qh192
              refine WC.skip ?_
              refine ibN ?_
              refine tkN ?_
              refine hK18 _ _ ?_
              clear hK18
              refine WC.seq (fun K248 hK248 => ?_)
              refine WC.seq (fun K249 hK249 => ?_)
              refine WC.regionQ (fun w' => St _ _ _ w') mixed (by kernel_rfl) hs13.drew ?_
              refine WQ.val rfl rfl rfl (fun w_ hs_ => (Run.move rfl rfl)) ?_
              refine WQ.val rfl rfl rfl (fun w_ hs_ => (Run.idxB Try.runUnderlying75 Try.sizeOf4 rfl rfl rfl ?_ ?_)) ?_
              · omega
              · omega
              refine WQ.val rfl rfl rfl (fun w_ hs_ => (Run.loadL (hs_ : St _ _ _ _) 0 Try.isAgg4 rfl rfl rfl rfl)) ?_
              refine WQ.val rfl rfl rfl (fun w_ hs_ => (Run.field Try.runUnderlying27 rfl rfl rfl Try.sizeOf3 rfl)) ?_
              refine WQ.val rfl rfl rfl (fun w_ hs_ => (Run.loadL (hs_ : St _ _ _ _) 1 Try.isAgg3 rfl rfl rfl rfl)) ?_
              refine WQ.val rfl rfl rfl (fun w_ hs_ => (Run.move rfl rfl)) ?_
              refine WQ.call rfl rfl rfl (fun w_ hs_ => (Run.call Try.call46 rfl rfl rfl)) (fun w_ hs_ => (c_spec_l16In _ _ _ _ _).mono fun e_ w_ h_ => ⟨h_.1, (hs_ : St _ _ _ _).call0 h_.2⟩) ?_
              refine WQ.val rfl rfl rfl (fun w_ hs_ => (Run.not rfl rfl)) ?_
              refine WQ.val rfl rfl rfl (fun w_ hs_ => (Run.move rfl rfl)) ?_
              apply WQ.meetOr 10 36 46 [(0, _), (1, _), (2, _), (3, _), (4, _), (5, _), (6, _), (14, _), (15, _), (16, _), (17, _), (18, _), (19, _), (20, _), (21, _), (22, _), (23, _), (24, _), (25, _), (26, _), (27, _)] rfl
              · intro g250 J251
                refine WQ.val (wantF rfl g250) rfl rfl (fun w_ hs_ => (Run.move rfl rfl)) ?_
                refine WQ.val (wantF rfl g250) rfl rfl (fun w_ hs_ => (Run.idxB Try.runUnderlying75 Try.sizeOf4 rfl rfl rfl ?_ ?_)) ?_
                · omega
                · omega
                refine WQ.val (wantF rfl g250) rfl rfl (fun w_ hs_ => (Run.loadL (hs_ : St _ _ _ _) 0 Try.isAgg4 rfl rfl rfl rfl)) ?_
                refine WQ.val (wantF rfl g250) rfl rfl (fun w_ hs_ => (Run.field Try.runUnderlying27 rfl rfl rfl Try.sizeOf3 rfl)) ?_
                refine WQ.val (wantF rfl g250) rfl rfl (fun w_ hs_ => (Run.loadL (hs_ : St _ _ _ _) 1 Try.isAgg3 rfl rfl rfl rfl)) ?_
                refine WQ.val (wantF rfl g250) rfl rfl (fun w_ hs_ => (Run.move rfl rfl)) ?_
                refine WQ.val (wantF rfl g250) rfl rfl (fun w_ hs_ => (Run.move rfl rfl)) ?_
                refine WQ.call (wantF rfl g250) rfl rfl (fun w_ hs_ => (Run.call Try.call46 rfl rfl rfl)) (fun w_ hs_ => (c_spec_l16In _ _ _ _ _).mono fun e_ w_ h_ => ⟨h_.1, (hs_ : St _ _ _ _).call0 h_.2⟩) ?_
                refine WQ.val (wantF rfl g250) rfl rfl (fun w_ hs_ => (Run.not rfl rfl)) ?_
                refine WQ.val rfl rfl rfl (fun w_ hs_ => (Run.pickF rfl rfl g250 rfl)) ?_
                exact WQ.fin J251 rfl (orF g250) ⟨rfl, rfl, rfl, rfl, rfl, rfl, rfl, rfl, rfl, rfl, rfl, rfl, rfl, rfl, rfl, rfl, rfl, rfl, rfl, rfl, rfl, trivial⟩
              · intro g250 J251
                refine WQ.skip (wantNF rfl g250) rfl rfl ?_
                refine WQ.skip (wantNF rfl g250) rfl rfl ?_
                refine WQ.skip (wantNF rfl g250) rfl rfl ?_
                refine WQ.skip (wantNF rfl g250) rfl rfl ?_
                refine WQ.skip (wantNF rfl g250) rfl rfl ?_
                refine WQ.skip (wantNF rfl g250) rfl rfl ?_
                refine WQ.skip (wantNF rfl g250) rfl rfl ?_
                refine WQ.skip (wantNF rfl g250) rfl rfl ?_
                refine WQ.skip (wantNF rfl g250) rfl rfl ?_
                refine WQ.val rfl rfl rfl (fun w_ hs_ => (Run.pickT rfl rfl g250 rfl)) ?_
                exact WQ.fin J251 rfl (orT g250) ⟨rfl, rfl, rfl, rfl, rfl, rfl, rfl, rfl, rfl, rfl, rfl, rfl, rfl, rfl, rfl, rfl, rfl, rfl, rfl, rfl, rfl, trivial⟩
              · refine WQ.val rfl rfl rfl (fun w_ hs_ => (Run.move rfl rfl)) ?_
                apply WQ.meetOr 8 47 55 [(0, _), (1, _), (2, _), (3, _), (4, _), (5, _), (6, _), (14, _), (15, _), (16, _), (17, _), (18, _), (19, _), (20, _), (21, _), (22, _), (23, _), (24, _), (25, _), (26, _), (27, _)] rfl
                · intro g252 J253
                  refine WQ.val (wantF rfl g252) rfl rfl (fun w_ hs_ => (Run.move rfl rfl)) ?_
                  refine WQ.val (wantF rfl g252) rfl rfl (fun w_ hs_ => (Run.idxB Try.runUnderlying75 Try.sizeOf4 rfl rfl rfl ?_ ?_)) ?_
                  · omega
                  · omega
                  refine WQ.val (wantF rfl g252) rfl rfl (fun w_ hs_ => (Run.loadL (hs_ : St _ _ _ _) 0 Try.isAgg4 rfl rfl rfl rfl)) ?_
                  refine WQ.val (wantF rfl g252) rfl rfl (fun w_ hs_ => (Run.field Try.runUnderlying27 rfl rfl rfl Try.sizeOf3 rfl)) ?_
                  refine WQ.val (wantF rfl g252) rfl rfl (fun w_ hs_ => (Run.loadL (hs_ : St _ _ _ _) 1 Try.isAgg3 rfl rfl rfl rfl)) ?_
                  refine WQ.call (wantF rfl g252) rfl rfl (fun w_ hs_ => (Run.call Try.call46 rfl rfl rfl)) (fun w_ hs_ => (c_spec_l16In _ _ _ _ _).mono fun e_ w_ h_ => ⟨h_.1, (hs_ : St _ _ _ _).call0 h_.2⟩) ?_
                  refine WQ.val (wantF rfl g252) rfl rfl (fun w_ hs_ => (Run.not rfl rfl)) ?_
                  refine WQ.val rfl rfl rfl (fun w_ hs_ => (Run.pickF rfl rfl g252 rfl)) ?_
                  exact WQ.fin J253 rfl (orF g252) ⟨rfl, rfl, rfl, rfl, rfl, rfl, rfl, rfl, rfl, rfl, rfl, rfl, rfl, rfl, rfl, rfl, rfl, rfl, rfl, rfl, rfl, trivial⟩
                · intro g252 J253
                  refine WQ.skip (wantNF rfl g252) rfl rfl ?_
                  refine WQ.skip (wantNF rfl g252) rfl rfl ?_
                  refine WQ.skip (wantNF rfl g252) rfl rfl ?_
                  refine WQ.skip (wantNF rfl g252) rfl rfl ?_
                  refine WQ.skip (wantNF rfl g252) rfl rfl ?_
                  refine WQ.skip (wantNF rfl g252) rfl rfl ?_
                  refine WQ.skip (wantNF rfl g252) rfl rfl ?_
                  refine WQ.val rfl rfl rfl (fun w_ hs_ => (Run.pickT rfl rfl g252 rfl)) ?_
                  exact WQ.fin J253 rfl (orT g252) ⟨rfl, rfl, rfl, rfl, rfl, rfl, rfl, rfl, rfl, rfl, rfl, rfl, rfl, rfl, rfl, rfl, rfl, rfl, rfl, rfl, rfl, trivial⟩
                · refine WQ.val rfl rfl rfl (fun w_ hs_ => (Run.move rfl rfl)) ?_
                  apply WQ.meetOr 9 56 65 [(0, _), (1, _), (2, _), (3, _), (4, _), (5, _), (6, _), (14, _), (15, _), (16, _), (17, _), (18, _), (19, _), (20, _), (21, _), (22, _), (23, _), (24, _), (25, _), (26, _), (27, _)] rfl
                  · intro g254 J255
                    refine WQ.val (wantF rfl g254) rfl rfl (fun w_ hs_ => (Run.move rfl rfl)) ?_
                    refine WQ.val (wantF rfl g254) rfl rfl (fun w_ hs_ => (Run.idxB Try.runUnderlying75 Try.sizeOf4 rfl rfl rfl ?_ ?_)) ?_
                    · omega
                    · omega
                    refine WQ.val (wantF rfl g254) rfl rfl (fun w_ hs_ => (Run.loadL (hs_ : St _ _ _ _) 0 Try.isAgg4 rfl rfl rfl rfl)) ?_
                    refine WQ.val (wantF rfl g254) rfl rfl (fun w_ hs_ => (Run.field Try.runUnderlying27 rfl rfl rfl Try.sizeOf22 rfl)) ?_
                    refine WQ.val (wantF rfl g254) rfl rfl (fun w_ hs_ => (Run.loadL (hs_ : St _ _ _ _) 1 Try.isAgg22 rfl rfl rfl rfl)) ?_
                    refine WQ.val (wantF rfl g254) rfl rfl (fun w_ hs_ => (Run.lenSl Try.runUnderlying22 rfl rfl)) ?_
                    refine WQ.call (wantF rfl g254) rfl rfl (fun w_ hs_ => (Run.call Try.call46 rfl rfl rfl)) (fun w_ hs_ => (c_spec_l16In _ _ _ _ _).mono fun e_ w_ h_ => ⟨h_.1, (hs_ : St _ _ _ _).call0 h_.2⟩) ?_
                    refine WQ.val (wantF rfl g254) rfl rfl (fun w_ hs_ => (Run.not rfl rfl)) ?_
                    refine WQ.val rfl rfl rfl (fun w_ hs_ => (Run.pickF rfl rfl g254 rfl)) ?_
                    exact WQ.fin J255 rfl (orF g254) ⟨rfl, rfl, rfl, rfl, rfl, rfl, rfl, rfl, rfl, rfl, rfl, rfl, rfl, rfl, rfl, rfl, rfl, rfl, rfl, rfl, rfl, trivial⟩
                  · intro g254 J255
                    refine WQ.skip (wantNF rfl g254) rfl rfl ?_
                    refine WQ.skip (wantNF rfl g254) rfl rfl ?_
                    refine WQ.skip (wantNF rfl g254) rfl rfl ?_
                    refine WQ.skip (wantNF rfl g254) rfl rfl ?_
                    refine WQ.skip (wantNF rfl g254) rfl rfl ?_
                    refine WQ.skip (wantNF rfl g254) rfl rfl ?_
                    refine WQ.skip (wantNF rfl g254) rfl rfl ?_
                    refine WQ.skip (wantNF rfl g254) rfl rfl ?_
                    refine WQ.val rfl rfl rfl (fun w_ hs_ => (Run.pickT rfl rfl g254 rfl)) ?_
                    exact WQ.fin J255 rfl (orT g254) ⟨rfl, rfl, rfl, rfl, rfl, rfl, rfl, rfl, rfl, rfl, rfl, rfl, rfl, rfl, rfl, rfl, rfl, rfl, rfl, rfl, rfl, trivial⟩
                  · refine WQ.nil (fun whs256 hs256 => ?_)
                    replace hs256 : St _ _ _ _ := hs256
                    refine tkN ?_
                    refine hK249 _ _ ?_
                    clear hK249
                    refine WC.cond rfl (fun h257 => ?_) (fun h257 => ?_)
                    · have qh257 := h257
                      try simp only [decide_eq_true_eq, decide_eq_false_iff_not, Bool.not_eq_true', Bool.not_eq_false', Bool.and_eq_true, Bool.or_eq_false_iff, within_iff, within_not] at qh257
                      refine WC.seq (fun K258 hK258 => ?_)
                      refine WC.region ?_
                      refine WL.val rfl rfl rfl (Run.assign rfl rfl) ?_
                      refine WL.nil ?_
                      refine tkN ?_
                      refine hK258 _ _ ?_
                      clear hK258
                      refine WC.ret ?_
                      refine tkR ?_
                      clear hK248
                      refine retV1 rfl (resV.tmp rfl) ?_
                      refine ⟨congrArg Ending.returned ?_, hs256.nil⟩
                      rw [opOk_eq]; simp_all [opOkS, noText, isCmd] <;> grind
                    · have qh257 := h257
                      try simp only [decide_eq_true_eq, decide_eq_false_iff_not, Bool.not_eq_true', Bool.not_eq_false', Bool.and_eq_true, Bool.or_eq_false_iff, within_iff, within_not] at qh257
                      refine WC.skip ?_
                      refine tkN ?_
                      refine hK248 _ _ ?_
                      clear hK248
                      refine WC.seq (fun K259 hK259 => ?_)
                      refine WC.seq (fun K260 hK260 => ?_)
                      refine WC.region ?_
                      refine WL.val rfl rfl rfl (Run.field Try.runUnderlying27 rfl rfl rfl Try.sizeOf3 rfl) ?_
                      refine WL.val rfl rfl rfl (Run.loadL hs256 1 Try.isAgg3 rfl rfl rfl rfl) ?_
                      refine WL.val rfl rfl rfl (Run.eql rfl rfl rfl) ?_
                      refine WL.val rfl rfl rfl (Run.move rfl rfl) ?_
                      apply WL.meetAnd 4 69 73 [(0, _), (1, _), (2, _), (3, _), (4, _), (5, _), (6, _), (14, _), (15, _), (16, _), (17, _), (18, _), (19, _), (20, _), (21, _), (22, _), (23, _), (24, _), (25, _), (26, _), (27, _), (65, _)] rfl hs256
                      · intro g261 J262
                        refine WL.val (wantT rfl g261) rfl rfl (Run.field Try.runUnderlying27 rfl rfl rfl Try.sizeOf3 rfl) ?_
                        refine WL.val (wantT rfl g261) rfl rfl (Run.loadL hs256 1 Try.isAgg3 rfl rfl rfl rfl) ?_
                        refine WL.val (wantT rfl g261) rfl rfl (Run.neq rfl rfl rfl) ?_
                        refine WL.val rfl rfl rfl (Run.pickT rfl rfl g261 rfl) ?_
                        exact WL.fin J262 hs256 rfl (andT g261) ⟨rfl, rfl, rfl, rfl, rfl, rfl, rfl, rfl, rfl, rfl, rfl, rfl, rfl, rfl, rfl, rfl, rfl, rfl, rfl, rfl, rfl, rfl, trivial⟩
                      · intro g261 J262
                        refine WL.skip (wantNT rfl g261) rfl rfl ?_
                        refine WL.skip (wantNT rfl g261) rfl rfl ?_
                        refine WL.skip (wantNT rfl g261) rfl rfl ?_
                        refine WL.val rfl rfl rfl (Run.pickF rfl rfl g261 rfl) ?_
                        exact WL.fin J262 hs256 rfl (andF g261) ⟨rfl, rfl, rfl, rfl, rfl, rfl, rfl, rfl, rfl, rfl, rfl, rfl, rfl, rfl, rfl, rfl, rfl, rfl, rfl, rfl, rfl, rfl, trivial⟩
                      · intro whs263 hs263
                        refine WL.val rfl rfl rfl (Run.move rfl rfl) ?_
                        apply WL.meetAnd 4 74 78 [(0, _), (1, _), (2, _), (3, _), (4, _), (5, _), (6, _), (14, _), (15, _), (16, _), (17, _), (18, _), (19, _), (20, _), (21, _), (22, _), (23, _), (24, _), (25, _), (26, _), (27, _), (65, _)] rfl hs263
                        · intro g264 J265
                          refine WL.val (wantT rfl g264) rfl rfl (Run.field Try.runUnderlying27 rfl rfl rfl Try.sizeOf3 rfl) ?_
                          refine WL.val (wantT rfl g264) rfl rfl (Run.loadL hs263 1 Try.isAgg3 rfl rfl rfl rfl) ?_
                          refine WL.val (wantT rfl g264) rfl rfl (Run.neq rfl rfl rfl) ?_
                          refine WL.val rfl rfl rfl (Run.pickT rfl rfl g264 rfl) ?_
                          exact WL.fin J265 hs263 rfl (andT g264) ⟨rfl, rfl, rfl, rfl, rfl, rfl, rfl, rfl, rfl, rfl, rfl, rfl, rfl, rfl, rfl, rfl, rfl, rfl, rfl, rfl, rfl, rfl, trivial⟩
                        · intro g264 J265
                          refine WL.skip (wantNT rfl g264) rfl rfl ?_
                          refine WL.skip (wantNT rfl g264) rfl rfl ?_
                          refine WL.skip (wantNT rfl g264) rfl rfl ?_
                          refine WL.val rfl rfl rfl (Run.pickF rfl rfl g264 rfl) ?_
                          exact WL.fin J265 hs263 rfl (andF g264) ⟨rfl, rfl, rfl, rfl, rfl, rfl, rfl, rfl, rfl, rfl, rfl, rfl, rfl, rfl, rfl, rfl, rfl, rfl, rfl, rfl, rfl, rfl, trivial⟩
                        · intro whs266 hs266
                          refine WL.val rfl rfl rfl (Run.move rfl rfl) ?_
                          apply WL.meetAnd 4 79 83 [(0, _), (1, _), (2, _), (3, _), (4, _), (5, _), (6, _), (14, _), (15, _), (16, _), (17, _), (18, _), (19, _), (20, _), (21, _), (22, _), (23, _), (24, _), (25, _), (26, _), (27, _), (65, _)] rfl hs266
                          · intro g267 J268
                            refine WL.val (wantT rfl g267) rfl rfl (Run.field Try.runUnderlying27 rfl rfl rfl Try.sizeOf3 rfl) ?_
                            refine WL.val (wantT rfl g267) rfl rfl (Run.loadL hs266 1 Try.isAgg3 rfl rfl rfl rfl) ?_
                            refine WL.val (wantT rfl g267) rfl rfl (Run.neq rfl rfl rfl) ?_
                            refine WL.val rfl rfl rfl (Run.pickT rfl rfl g267 rfl) ?_
                            exact WL.fin J268 hs266 rfl (andT g267) ⟨rfl, rfl, rfl, rfl, rfl, rfl, rfl, rfl, rfl, rfl, rfl, rfl, rfl, rfl, rfl, rfl, rfl, rfl, rfl, rfl, rfl, rfl, trivial⟩
                          · intro g267 J268
                            refine WL.skip (wantNT rfl g267) rfl rfl ?_
                            refine WL.skip (wantNT rfl g267) rfl rfl ?_
                            refine WL.skip (wantNT rfl g267) rfl rfl ?_
                            refine WL.val rfl rfl rfl (Run.pickF rfl rfl g267 rfl) ?_
                            exact WL.fin J268 hs266 rfl (andF g267) ⟨rfl, rfl, rfl, rfl, rfl, rfl, rfl, rfl, rfl, rfl, rfl, rfl, rfl, rfl, rfl, rfl, rfl, rfl, rfl, rfl, rfl, rfl, trivial⟩
                          · intro whs269 hs269
                            refine WL.val rfl rfl rfl (Run.move rfl rfl) ?_
                            apply WL.meetAnd 4 84 88 [(0, _), (1, _), (2, _), (3, _), (4, _), (5, _), (6, _), (14, _), (15, _), (16, _), (17, _), (18, _), (19, _), (20, _), (21, _), (22, _), (23, _), (24, _), (25, _), (26, _), (27, _), (65, _)] rfl hs269
                            · intro g270 J271
                              refine WL.val (wantT rfl g270) rfl rfl (Run.field Try.runUnderlying27 rfl rfl rfl Try.sizeOf3 rfl) ?_
                              refine WL.val (wantT rfl g270) rfl rfl (Run.loadL hs269 1 Try.isAgg3 rfl rfl rfl rfl) ?_
                              refine WL.val (wantT rfl g270) rfl rfl (Run.neq rfl rfl rfl) ?_
                              refine WL.val rfl rfl rfl (Run.pickT rfl rfl g270 rfl) ?_
                              exact WL.fin J271 hs269 rfl (andT g270) ⟨rfl, rfl, rfl, rfl, rfl, rfl, rfl, rfl, rfl, rfl, rfl, rfl, rfl, rfl, rfl, rfl, rfl, rfl, rfl, rfl, rfl, rfl, trivial⟩
                            · intro g270 J271
                              refine WL.skip (wantNT rfl g270) rfl rfl ?_
                              refine WL.skip (wantNT rfl g270) rfl rfl ?_
                              refine WL.skip (wantNT rfl g270) rfl rfl ?_
                              refine WL.val rfl rfl rfl (Run.pickF rfl rfl g270 rfl) ?_
                              exact WL.fin J271 hs269 rfl (andF g270) ⟨rfl, rfl, rfl, rfl, rfl, rfl, rfl, rfl, rfl, rfl, rfl, rfl, rfl, rfl, rfl, rfl, rfl, rfl, rfl, rfl, rfl, rfl, trivial⟩
                            · intro whs272 hs272
                              refine WL.nil ?_
                              refine tkN ?_
                              refine hK260 _ _ ?_
                              clear hK260
                              refine WC.cond rfl (fun h273 => ?_) (fun h273 => ?_)
                              · have qh273 := h273
                                try simp only [decide_eq_true_eq, decide_eq_false_iff_not, Bool.not_eq_true', Bool.not_eq_false', Bool.and_eq_true, Bool.or_eq_false_iff, within_iff, within_not] at qh273
                                refine WC.seq (fun K274 hK274 => ?_)
                                refine WC.region ?_
                                refine WL.val rfl rfl rfl (Run.assign rfl rfl) ?_
                                refine WL.nil ?_
                                refine tkN ?_
                                refine hK274 _ _ ?_
                                clear hK274
                                refine WC.ret ?_
                                refine tkR ?_
                                clear hK259
                                refine retV1 rfl (resV.tmp rfl) ?_
                                refine ⟨congrArg Ending.returned ?_, hs272.nil⟩
                                rw [opOk_eq]; simp_all [opOkS, noText, isCmd] <;> grind
                              · have qh273 := h273
                                try simp only [decide_eq_true_eq, decide_eq_false_iff_not, Bool.not_eq_true', Bool.not_eq_false', Bool.and_eq_true, Bool.or_eq_false_iff, within_iff, within_not] at qh273
                                refine WC.skip ?_
                                refine tkN ?_
                                refine hK259 _ _ ?_
                                clear hK259
                                refine WC.seq (fun K275 hK275 => ?_)
                                refine WC.seq (fun K276 hK276 => ?_)
                                refine WC.region ?_
                                refine WL.val rfl rfl rfl (Run.move rfl rfl) ?_
                                refine WL.val rfl rfl rfl (Run.idxB Try.runUnderlying75 Try.sizeOf4 rfl rfl rfl ?_ ?_) ?_
                                · omega
                                · omega
                                refine WL.val rfl rfl rfl (Run.loadL hs272 0 Try.isAgg4 rfl rfl rfl rfl) ?_
                                refine WL.val rfl rfl rfl (Run.move rfl rfl) ?_
                                apply WL.meetAnd 5 92 97 [(0, _), (1, _), (2, _), (3, _), (4, _), (5, _), (6, _), (14, _), (15, _), (16, _), (17, _), (18, _), (19, _), (20, _), (21, _), (22, _), (23, _), (24, _), (25, _), (26, _), (27, _), (65, _), (88, _)] rfl hs272
                                · intro g277 J278
                                  refine WL.val (wantT rfl g277) rfl rfl (Run.field Try.runUnderlying27 rfl rfl rfl Try.sizeOf9 rfl) ?_
                                  refine WL.val (wantT rfl g277) rfl rfl (Run.loadL hs272 1 Try.isAgg9 rfl rfl rfl rfl) ?_
                                  refine WL.call (wantT rfl g277) rfl rfl (Run.call Try.call47 rfl rfl rfl) (c_spec_WordOk _ _ ?_) ?_
                                  · first | assumption | rfl | omega
                                  rintro _ whs279 ⟨rfl, hs279⟩
                                  replace hs279 := hs272.call0 hs279
                                  refine ⟨_, rfl, ?_⟩
                                  refine WL.val (wantT rfl g277) rfl rfl (Run.not rfl rfl) ?_
                                  refine WL.val rfl rfl rfl (Run.pickT rfl rfl g277 rfl) ?_
                                  exact WL.fin J278 hs279 rfl (andT g277) ⟨rfl, rfl, rfl, rfl, rfl, rfl, rfl, rfl, rfl, rfl, rfl, rfl, rfl, rfl, rfl, rfl, rfl, rfl, rfl, rfl, rfl, rfl, rfl, trivial⟩
                                · intro g277 J278
                                  refine WL.skip (wantNT rfl g277) rfl rfl ?_
                                  refine WL.skip (wantNT rfl g277) rfl rfl ?_
                                  refine WL.skip (wantNT rfl g277) rfl rfl ?_
                                  refine WL.skip (wantNT rfl g277) rfl rfl ?_
                                  refine WL.val rfl rfl rfl (Run.pickF rfl rfl g277 rfl) ?_
                                  exact WL.fin J278 hs272 rfl (andF g277) ⟨rfl, rfl, rfl, rfl, rfl, rfl, rfl, rfl, rfl, rfl, rfl, rfl, rfl, rfl, rfl, rfl, rfl, rfl, rfl, rfl, rfl, rfl, rfl, trivial⟩
                                · intro whs280 hs280
                                  refine WL.val rfl rfl rfl (Run.move rfl rfl) ?_
                                  apply WL.meetOr 10 98 108 [(0, _), (1, _), (2, _), (3, _), (4, _), (5, _), (6, _), (14, _), (15, _), (16, _), (17, _), (18, _), (19, _), (20, _), (21, _), (22, _), (23, _), (24, _), (25, _), (26, _), (27, _), (65, _), (88, _)] rfl hs280
                                  · intro g281 J282
                                    refine WL.val (wantF rfl g281) rfl rfl (Run.move rfl rfl) ?_
                                    refine WL.val (wantF rfl g281) rfl rfl (Run.idxB Try.runUnderlying75 Try.sizeOf4 rfl rfl rfl ?_ ?_) ?_
                                    · omega
                                    · omega
                                    refine WL.val (wantF rfl g281) rfl rfl (Run.loadL hs280 0 Try.isAgg4 rfl rfl rfl rfl) ?_
                                    refine WL.val (wantF rfl g281) rfl rfl (Run.not rfl rfl) ?_
                                    refine WL.val (wantF rfl g281) rfl rfl (Run.move rfl rfl) ?_
                                    apply WL.meetAnd 4 103 107 [(0, _), (1, _), (2, _), (3, _), (4, _), (5, _), (6, _), (14, _), (15, _), (16, _), (17, _), (18, _), (19, _), (20, _), (21, _), (22, _), (23, _), (24, _), (25, _), (26, _), (27, _), (65, _), (88, _), (98, _)] rfl hs280
                                    · intro g283 J284
                                      refine WL.val (wantT rfl g283) rfl rfl (Run.field Try.runUnderlying27 rfl rfl rfl Try.sizeOf9 rfl) ?_
                                      refine WL.val (wantT rfl g283) rfl rfl (Run.loadL hs280 1 Try.isAgg9 rfl rfl rfl rfl) ?_
                                      refine WL.val (wantT rfl g283) rfl rfl (Run.neqS rfl rfl rfl) ?_
                                      refine WL.val (wantF rfl g281) rfl rfl (Run.pickT rfl rfl g283 rfl) ?_
                                      exact WL.fin J284 hs280 rfl (andT g283) ⟨rfl, rfl, rfl, rfl, rfl, rfl, rfl, rfl, rfl, rfl, rfl, rfl, rfl, rfl, rfl, rfl, rfl, rfl, rfl, rfl, rfl, rfl, rfl, rfl, trivial⟩
                                    · intro g283 J284
                                      refine WL.skip (wantNT rfl g283) rfl rfl ?_
                                      refine WL.skip (wantNT rfl g283) rfl rfl ?_
                                      refine WL.skip (wantNT rfl g283) rfl rfl ?_
                                      refine WL.val (wantF rfl g281) rfl rfl (Run.pickF rfl rfl g283 rfl) ?_
                                      exact WL.fin J284 hs280 rfl (andF g283) ⟨rfl, rfl, rfl, rfl, rfl, rfl, rfl, rfl, rfl, rfl, rfl, rfl, rfl, rfl, rfl, rfl, rfl, rfl, rfl, rfl, rfl, rfl, rfl, rfl, trivial⟩
                                    · intro whs285 hs285
                                      refine WL.val rfl rfl rfl (Run.pickF rfl rfl g281 rfl) ?_
                                      exact WL.fin J282 hs285 rfl (orF g281) ⟨rfl, rfl, rfl, rfl, rfl, rfl, rfl, rfl, rfl, rfl, rfl, rfl, rfl, rfl, rfl, rfl, rfl, rfl, rfl, rfl, rfl, rfl, rfl, trivial⟩
                                  · intro g281 J282
                                    refine WL.skip (wantNF rfl g281) rfl rfl ?_
                                    refine WL.skip (wantNF rfl g281) rfl rfl ?_
                                    refine WL.skip (wantNF rfl g281) rfl rfl ?_
                                    refine WL.skip (wantNF rfl g281) rfl rfl ?_
                                    refine WL.skip (wantNF rfl g281) rfl rfl ?_
                                    refine WL.skip rfl rfl rfl ?_
                                    refine WL.skip rfl rfl rfl ?_
                                    refine WL.skip rfl rfl rfl ?_
                                    refine WL.skip (wantNF rfl g281) rfl rfl ?_
                                    refine WL.val rfl rfl rfl (Run.pickT rfl rfl g281 rfl) ?_
                                    exact WL.fin J282 hs280 rfl (orT g281) ⟨rfl, rfl, rfl, rfl, rfl, rfl, rfl, rfl, rfl, rfl, rfl, rfl, rfl, rfl, rfl, rfl, rfl, rfl, rfl, rfl, rfl, rfl, rfl, trivial⟩
                                  · intro whs286 hs286
                                    refine WL.val rfl rfl rfl (Run.move rfl rfl) ?_
                                    apply WL.meetOr 15 109 124 [(0, _), (1, _), (2, _), (3, _), (4, _), (5, _), (6, _), (14, _), (15, _), (16, _), (17, _), (18, _), (19, _), (20, _), (21, _), (22, _), (23, _), (24, _), (25, _), (26, _), (27, _), (65, _), (88, _)] rfl hs286
                                    · intro g287 J288
                                      refine WL.val (wantF rfl g287) rfl rfl (Run.move rfl rfl) ?_
                                      refine WL.val (wantF rfl g287) rfl rfl (Run.idxB Try.runUnderlying75 Try.sizeOf4 rfl rfl rfl ?_ ?_) ?_
                                      · omega
                                      · omega
                                      refine WL.val (wantF rfl g287) rfl rfl (Run.loadL hs286 0 Try.isAgg4 rfl rfl rfl rfl) ?_
                                      refine WL.val (wantF rfl g287) rfl rfl (Run.not rfl rfl) ?_
                                      refine WL.val (wantF rfl g287) rfl rfl (Run.move rfl rfl) ?_
                                      apply WL.meetAnd 9 114 123 [(0, _), (1, _), (2, _), (3, _), (4, _), (5, _), (6, _), (14, _), (15, _), (16, _), (17, _), (18, _), (19, _), (20, _), (21, _), (22, _), (23, _), (24, _), (25, _), (26, _), (27, _), (65, _), (88, _), (109, _)] rfl hs286
                                      · intro g289 J290
                                        refine WL.val (wantT rfl g289) rfl rfl (Run.field Try.runUnderlying27 rfl rfl rfl Try.sizeOf9 rfl) ?_
                                        refine WL.val (wantT rfl g289) rfl rfl (Run.loadL hs286 1 Try.isAgg9 rfl rfl rfl rfl) ?_
                                        refine WL.val (wantT rfl g289) rfl rfl (Run.neqS rfl rfl rfl) ?_
                                        refine WL.val (wantT rfl g289) rfl rfl (Run.move rfl rfl) ?_
                                        apply WL.meetOr 4 118 122 [(0, _), (1, _), (2, _), (3, _), (4, _), (5, _), (6, _), (14, _), (15, _), (16, _), (17, _), (18, _), (19, _), (20, _), (21, _), (22, _), (23, _), (24, _), (25, _), (26, _), (27, _), (65, _), (88, _), (109, _), (114, _)] rfl hs286
                                        · intro g291 J292
                                          refine WL.val (wantF rfl g291) rfl rfl (Run.field Try.runUnderlying27 rfl rfl rfl Try.sizeOf9 rfl) ?_
                                          refine WL.val (wantF rfl g291) rfl rfl (Run.loadL hs286 1 Try.isAgg9 rfl rfl rfl rfl) ?_
                                          refine WL.val (wantF rfl g291) rfl rfl (Run.neqS rfl rfl rfl) ?_
                                          refine WL.val (wantT rfl g289) rfl rfl (Run.pickF rfl rfl g291 rfl) ?_
                                          exact WL.fin J292 hs286 rfl (orF g291) ⟨rfl, rfl, rfl, rfl, rfl, rfl, rfl, rfl, rfl, rfl, rfl, rfl, rfl, rfl, rfl, rfl, rfl, rfl, rfl, rfl, rfl, rfl, rfl, rfl, rfl, trivial⟩
                                        · intro g291 J292
                                          refine WL.skip (wantNF rfl g291) rfl rfl ?_
                                          refine WL.skip (wantNF rfl g291) rfl rfl ?_
                                          refine WL.skip (wantNF rfl g291) rfl rfl ?_
                                          refine WL.val (wantT rfl g289) rfl rfl (Run.pickT rfl rfl g291 rfl) ?_
                                          exact WL.fin J292 hs286 rfl (orT g291) ⟨rfl, rfl, rfl, rfl, rfl, rfl, rfl, rfl, rfl, rfl, rfl, rfl, rfl, rfl, rfl, rfl, rfl, rfl, rfl, rfl, rfl, rfl, rfl, rfl, rfl, trivial⟩
                                        · intro whs293 hs293
                                          refine WL.val (wantF rfl g287) rfl rfl (Run.pickT rfl rfl g289 rfl) ?_
                                          exact WL.fin J290 hs293 rfl (andT g289) ⟨rfl, rfl, rfl, rfl, rfl, rfl, rfl, rfl, rfl, rfl, rfl, rfl, rfl, rfl, rfl, rfl, rfl, rfl, rfl, rfl, rfl, rfl, rfl, rfl, trivial⟩
                                      · intro g289 J290
                                        refine WL.skip (wantNT rfl g289) rfl rfl ?_
                                        refine WL.skip (wantNT rfl g289) rfl rfl ?_
                                        refine WL.skip (wantNT rfl g289) rfl rfl ?_
                                        refine WL.skip (wantNT rfl g289) rfl rfl ?_
                                        refine WL.skip rfl rfl rfl ?_
                                        refine WL.skip rfl rfl rfl ?_
                                        refine WL.skip rfl rfl rfl ?_
                                        refine WL.skip (wantNT rfl g289) rfl rfl ?_
                                        refine WL.val (wantF rfl g287) rfl rfl (Run.pickF rfl rfl g289 rfl) ?_
                                        exact WL.fin J290 hs286 rfl (andF g289) ⟨rfl, rfl, rfl, rfl, rfl, rfl, rfl, rfl, rfl, rfl, rfl, rfl, rfl, rfl, rfl, rfl, rfl, rfl, rfl, rfl, rfl, rfl, rfl, rfl, trivial⟩
                                      · intro whs294 hs294
                                        refine WL.val rfl rfl rfl (Run.pickF rfl rfl g287 rfl) ?_
                                        exact WL.fin J288 hs294 rfl (orF g287) ⟨rfl, rfl, rfl, rfl, rfl, rfl, rfl, rfl, rfl, rfl, rfl, rfl, rfl, rfl, rfl, rfl, rfl, rfl, rfl, rfl, rfl, rfl, rfl, trivial⟩
                                    · intro g287 J288
                                      refine WL.skip (wantNF rfl g287) rfl rfl ?_
                                      refine WL.skip (wantNF rfl g287) rfl rfl ?_
                                      refine WL.skip (wantNF rfl g287) rfl rfl ?_
                                      refine WL.skip (wantNF rfl g287) rfl rfl ?_
                                      refine WL.skip (wantNF rfl g287) rfl rfl ?_
                                      refine WL.skip rfl rfl rfl ?_
                                      refine WL.skip rfl rfl rfl ?_
                                      refine WL.skip rfl rfl rfl ?_
                                      refine WL.skip rfl rfl rfl ?_
                                      refine WL.skip rfl rfl rfl ?_
                                      refine WL.skip rfl rfl rfl ?_
                                      refine WL.skip rfl rfl rfl ?_
                                      refine WL.skip rfl rfl rfl ?_
                                      refine WL.skip (wantNF rfl g287) rfl rfl ?_
                                      refine WL.val rfl rfl rfl (Run.pickT rfl rfl g287 rfl) ?_
                                      exact WL.fin J288 hs286 rfl (orT g287) ⟨rfl, rfl, rfl, rfl, rfl, rfl, rfl, rfl, rfl, rfl, rfl, rfl, rfl, rfl, rfl, rfl, rfl, rfl, rfl, rfl, rfl, rfl, rfl, trivial⟩
                                    · intro whs295 hs295
                                      refine WL.nil ?_
                                      refine tkN ?_
                                      refine hK276 _ _ ?_
                                      clear hK276
                                      refine WC.cond rfl (fun h296 => ?_) (fun h296 => ?_)
                                      · have qh296 := h296
                                        try simp only [decide_eq_true_eq, decide_eq_false_iff_not, Bool.not_eq_true', Bool.not_eq_false', Bool.and_eq_true, Bool.or_eq_false_iff, within_iff, within_not] at qh296
                                        refine WC.seq (fun K297 hK297 => ?_)
                                        refine WC.region ?_
                                        refine WL.val rfl rfl rfl (Run.assign rfl rfl) ?_
                                        refine WL.nil ?_
                                        refine tkN ?_
                                        refine hK297 _ _ ?_
                                        clear hK297
                                        refine WC.ret ?_
                                        refine tkR ?_
                                        clear hK275
                                        refine retV1 rfl (resV.tmp rfl) ?_
                                        refine ⟨congrArg Ending.returned ?_, hs295.nil⟩
                                        rw [opOk_eq]; simp_all [opOkS, noText, isCmd] <;> grind
                                      · have qh296 := h296
                                        try simp only [decide_eq_true_eq, decide_eq_false_iff_not, Bool.not_eq_true', Bool.not_eq_false', Bool.and_eq_true, Bool.or_eq_false_iff, within_iff, within_not] at qh296
                                        refine WC.skip ?_
                                        refine tkN ?_
                                        refine hK275 _ _ ?_
                                        clear hK275
                                        refine WC.seq (fun K298 hK298 => ?_)
                                        refine WC.region ?_
                                        refine WL.val rfl rfl rfl (Run.field Try.runUnderlying27 rfl rfl rfl Try.sizeOf9 rfl) ?_
                                        refine WL.val rfl rfl rfl (Run.loadL hs295 1 Try.isAgg9 rfl rfl rfl rfl) ?_
                                        refine WL.val rfl rfl rfl (Run.lenStr Try.runUnderlying9 rfl rfl) ?_
                                        refine WL.val rfl rfl rfl (Run.leq rfl rfl rfl) ?_
                                        refine WL.val rfl rfl rfl (Run.move rfl rfl) ?_
                                        apply WL.meetAnd 5 129 134 [(0, _), (1, _), (2, _), (3, _), (4, _), (5, _), (6, _), (14, _), (15, _), (16, _), (17, _), (18, _), (19, _), (20, _), (21, _), (22, _), (23, _), (24, _), (25, _), (26, _), (27, _), (65, _), (88, _), (124, _)] rfl hs295
                                        · intro g299 J300
                                          refine WL.val (wantT rfl g299) rfl rfl (Run.field Try.runUnderlying27 rfl rfl rfl Try.sizeOf9 rfl) ?_
                                          refine WL.val (wantT rfl g299) rfl rfl (Run.loadL hs295 1 Try.isAgg9 rfl rfl rfl rfl) ?_
                                          refine WL.val (wantT rfl g299) rfl rfl (Run.lenStr Try.runUnderlying9 rfl rfl) ?_
                                          refine WL.val (wantT rfl g299) rfl rfl (Run.leq rfl rfl rfl) ?_
                                          refine WL.val rfl rfl rfl (Run.pickT rfl rfl g299 rfl) ?_
                                          exact WL.fin J300 hs295 rfl (andT g299) ⟨rfl, rfl, rfl, rfl, rfl, rfl, rfl, rfl, rfl, rfl, rfl, rfl, rfl, rfl, rfl, rfl, rfl, rfl, rfl, rfl, rfl, rfl, rfl, rfl, trivial⟩
                                        · intro g299 J300
                                          refine WL.skip (wantNT rfl g299) rfl rfl ?_
                                          refine WL.skip (wantNT rfl g299) rfl rfl ?_
                                          refine WL.skip (wantNT rfl g299) rfl rfl ?_
                                          refine WL.skip (wantNT rfl g299) rfl rfl ?_
                                          refine WL.val rfl rfl rfl (Run.pickF rfl rfl g299 rfl) ?_
                                          exact WL.fin J300 hs295 rfl (andF g299) ⟨rfl, rfl, rfl, rfl, rfl, rfl, rfl, rfl, rfl, rfl, rfl, rfl, rfl, rfl, rfl, rfl, rfl, rfl, rfl, rfl, rfl, rfl, rfl, rfl, trivial⟩
                                        · intro whs301 hs301
                                          refine WL.val rfl rfl rfl (Run.assign rfl rfl) ?_
                                          refine WL.nil ?_
                                          refine tkN ?_
                                          refine hK298 _ _ ?_
                                          clear hK298
                                          refine WC.ret ?_
                                          refine retV1 rfl (resV.tmp rfl) ?_
                                          refine ⟨congrArg Ending.returned ?_, hs301.nil⟩
                                          rw [opOk_eq]; simp_all [opOkS, noText, isCmd] <;> grind
end Go.Proofs.Ytpiimkfonlijdaa
