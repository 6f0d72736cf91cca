/- Walks of Go functions, printed by a program (wip/gen). -/
import Derived.Test.YtpiimkfonlijdaaM3
import Derived.Test.YtpiimkfonlijdaaC4
import Derived.Test.YtpiimkfonlijdaaE8
namespace Go.Proofs.Ytpiimkfonlijdaa
open Go Go.RowKit
set_option linter.unusedVariables false
set_option linter.unusedSimpArgs false
theorem c_spec_Shows (n : Int) (w : World) :
    Calls Try.prog 93 #[i64 n] w fun e w' => e = .returned (.bool (shows n)) ∧ St w [] [] w' := by
  refine enter (vs := [i64 n]) 25 Try.func93 rfl Try.ntmps93 rfl rfl ?_
  have hs1 := St.init w
  refine WC.seq (fun K2 hK2 => ?_)
  refine WC.region ?_
  refine WL.val rfl rfl rfl (Run.assign rfl rfl) ?_
  refine WL.nil ?_
  refine tkN ?_
  refine hK2 _ _ ?_
  clear hK2
  refine WC.seq (fun K3 hK3 => ?_)
  refine WC.region ?_
  refine WL.val rfl rfl rfl (Run.move rfl rfl) ?_
  refine WL.val rfl rfl rfl (Run.geq rfl rfl rfl) ?_
  refine WL.val rfl rfl rfl (Run.move rfl rfl) ?_
  apply WL.meetAnd 3 5 8 [(0, _), (2, _)] rfl hs1
  · intro g4 J5
    have qg4 := g4
    try simp only [decide_eq_true_eq, decide_eq_false_iff_not, Bool.not_eq_true', Bool.not_eq_false'] at qg4
    refine WL.val (wantT rfl g4) rfl rfl (Run.move rfl rfl) ?_
    refine WL.val (wantT rfl g4) rfl rfl (Run.leq rfl rfl rfl) ?_
    refine WL.val rfl rfl rfl (Run.pickT rfl rfl g4 rfl) ?_
    exact WL.fin J5 hs1 rfl (andT g4) ⟨rfl, rfl, trivial⟩
  · intro g4 J5
    refine WL.skip (wantNT rfl g4) rfl rfl ?_
    refine WL.skip (wantNT rfl g4) rfl rfl ?_
    refine WL.val rfl rfl rfl (Run.pickF rfl rfl g4 rfl) ?_
    exact WL.fin J5 hs1 rfl (andF g4) ⟨rfl, rfl, trivial⟩
  · intro whs6 hs6
    refine WL.val rfl rfl rfl (Run.move rfl rfl) ?_
    apply WL.meetOr 15 9 24 [(0, _), (2, _)] rfl hs6
    · intro g7 J8
      have qg7 := g7
      try simp only [decide_eq_true_eq, decide_eq_false_iff_not, Bool.not_eq_true', Bool.not_eq_false'] at qg7
      refine WL.val (wantF rfl g7) rfl rfl (Run.move rfl rfl) ?_
      refine WL.val (wantF rfl g7) rfl rfl (Run.geq rfl rfl rfl) ?_
      refine WL.val (wantF rfl g7) rfl rfl (Run.move rfl rfl) ?_
      apply WL.meetAnd 3 12 15 [(0, _), (2, _), (9, _)] rfl hs6
      · intro g9 J10
        have qg9 := g9
        try simp only [decide_eq_true_eq, decide_eq_false_iff_not, Bool.not_eq_true', Bool.not_eq_false'] at qg9
        refine WL.val (wantT rfl g9) rfl rfl (Run.move rfl rfl) ?_
        refine WL.val (wantT rfl g9) rfl rfl (Run.leq rfl rfl rfl) ?_
        refine WL.val (wantF rfl g7) rfl rfl (Run.pickT rfl rfl g9 rfl) ?_
        exact WL.fin J10 hs6 rfl (andT g9) ⟨rfl, rfl, rfl, trivial⟩
      · intro g9 J10
        refine WL.skip (wantNT rfl g9) rfl rfl ?_
        refine WL.skip (wantNT rfl g9) rfl rfl ?_
        refine WL.val (wantF rfl g7) rfl rfl (Run.pickF rfl rfl g9 rfl) ?_
        exact WL.fin J10 hs6 rfl (andF g9) ⟨rfl, rfl, rfl, trivial⟩
      · intro whs11 hs11
        refine WL.val (wantF rfl g7) rfl rfl (Run.move rfl rfl) ?_
        apply WL.meetAnd 7 16 23 [(0, _), (2, _), (9, _)] rfl hs11
        · intro g12 J13
          have qg12 := g12
          try simp only [decide_eq_true_eq, decide_eq_false_iff_not, Bool.not_eq_true', Bool.not_eq_false'] at qg12
          refine WL.val (wantT rfl g12) rfl rfl (Run.move rfl rfl) ?_
          refine WL.val (wantT rfl g12) rfl rfl (Run.lss rfl rfl rfl) ?_
          refine WL.val (wantT rfl g12) rfl rfl (Run.move rfl rfl) ?_
          apply WL.meetOr 3 19 22 [(0, _), (2, _), (9, _), (16, _)] rfl hs11
          · intro g14 J15
            have qg14 := g14
            try simp only [decide_eq_true_eq, decide_eq_false_iff_not, Bool.not_eq_true', Bool.not_eq_false'] at qg14
            refine WL.val (wantF rfl g14) rfl rfl (Run.move rfl rfl) ?_
            refine WL.val (wantF rfl g14) rfl rfl (Run.gtr rfl rfl rfl) ?_
            refine WL.val (wantT rfl g12) rfl rfl (Run.pickF rfl rfl g14 rfl) ?_
            exact WL.fin J15 hs11 rfl (orF g14) ⟨rfl, rfl, rfl, rfl, trivial⟩
          · intro g14 J15
            refine WL.skip (wantNF rfl g14) rfl rfl ?_
            refine WL.skip (wantNF rfl g14) rfl rfl ?_
            refine WL.val (wantT rfl g12) rfl rfl (Run.pickT rfl rfl g14 rfl) ?_
            exact WL.fin J15 hs11 rfl (orT g14) ⟨rfl, rfl, rfl, rfl, trivial⟩
          · intro whs16 hs16
            refine WL.val (wantF rfl g7) rfl rfl (Run.pickT rfl rfl g12 rfl) ?_
            exact WL.fin J13 hs16 rfl (andT g12) ⟨rfl, rfl, rfl, trivial⟩
        · intro g12 J13
          refine WL.skip (wantNT rfl g12) rfl rfl ?_
          refine WL.skip (wantNT rfl g12) rfl rfl ?_
          refine WL.skip (wantNT rfl g12) rfl rfl ?_
          refine WL.skip rfl rfl rfl ?_
          refine WL.skip rfl rfl rfl ?_
          refine WL.skip (wantNT rfl g12) rfl rfl ?_
          refine WL.val (wantF rfl g7) rfl rfl (Run.pickF rfl rfl g12 rfl) ?_
          exact WL.fin J13 hs11 rfl (andF g12) ⟨rfl, rfl, rfl, trivial⟩
        · intro whs17 hs17
          refine WL.val rfl rfl rfl (Run.pickF rfl rfl g7 rfl) ?_
          exact WL.fin J8 hs17 rfl (orF g7) ⟨rfl, rfl, trivial⟩
    · intro g7 J8
      refine WL.skip (wantNF rfl g7) rfl rfl ?_
      refine WL.skip (wantNF rfl g7) rfl rfl ?_
      refine WL.skip (wantNF rfl g7) rfl rfl ?_
      refine WL.skip rfl rfl rfl ?_
      refine WL.skip rfl rfl rfl ?_
      refine WL.skip (wantNF rfl g7) rfl rfl ?_
      refine WL.skip (wantNF rfl g7) rfl rfl ?_
      refine WL.skip rfl rfl rfl ?_
      refine WL.skip rfl rfl rfl ?_
      refine WL.skip rfl rfl rfl ?_
      refine WL.skip rfl rfl rfl ?_
      refine WL.skip rfl rfl rfl ?_
      refine WL.skip rfl rfl rfl ?_
      refine WL.skip (wantNF rfl g7) rfl rfl ?_
      refine WL.val rfl rfl rfl (Run.pickT rfl rfl g7 rfl) ?_
      exact WL.fin J8 hs6 rfl (orT g7) ⟨rfl, rfl, trivial⟩
    · intro whs18 hs18
      refine WL.val rfl rfl rfl (Run.assign rfl rfl) ?_
      refine WL.nil ?_
      refine tkN ?_
      refine hK3 _ _ ?_
      clear hK3
      refine WC.ret ?_
      refine retV1 rfl (resV.tmp rfl) ?_
      refine ⟨congrArg Ending.returned ?_, hs18.nil⟩
      refine congrArg Value.bool ?_; rw [Bool.eq_iff_iff]; simp [shows, within] <;> omega
theorem c_impl_AttrOk (a_Fg : Int) (a_Bg : Int) (a_Bold : Bool) (a_Under : Bool) (a_Turn : Bool) (w : World) :
    Calls Try.prog 104 #[.agg #[i64 a_Fg, i64 a_Bg, .bool a_Bold, .bool a_Under, .bool a_Turn]] w fun e w' => e = .returned (.bool (attrOk a_Fg a_Bg)) ∧ St w [] [] w' := by
  refine enter (vs := [.agg #[i64 a_Fg, i64 a_Bg, .bool a_Bold, .bool a_Under, .bool a_Turn]]) 11 Try.func104 rfl Try.ntmps104 rfl rfl ?_
  have hs1 := St.init w
  refine WC.seq (fun K2 hK2 => ?_)
  refine WC.region ?_
  refine WL.box hs1 rfl rfl rfl rfl rfl rfl (fun b3 whs4 hs4 => ?_)
  refine WL.val rfl rfl rfl (Run.assign rfl rfl) ?_
  refine WL.nil ?_
  refine tkN ?_
  refine hK2 _ _ ?_
  clear hK2
  refine WC.seq (fun K5 hK5 => ?_)
  refine WC.region ?_
  refine WL.val rfl rfl rfl (Run.field Try.runUnderlying57 rfl rfl rfl Try.sizeOf3 rfl) ?_
  refine WL.val rfl rfl rfl (Run.loadL hs4 0 Try.isAgg3 rfl rfl rfl rfl) ?_
  refine WL.call rfl rfl rfl (Run.call Try.call51 rfl rfl rfl) (c_impl_within _ _ _ _) ?_
  rintro _ whs6 ⟨rfl, hs6⟩
  replace hs6 := hs4.call0 hs6
  refine ⟨_, rfl, ?_⟩
  refine WL.val rfl rfl rfl (Run.move rfl rfl) ?_
  apply WL.meetAnd 4 6 10 [(0, _), (1, _), (2, _)] rfl hs6
  · intro g7 J8
    have qg7 := g7
    try simp only [decide_eq_true_eq, decide_eq_false_iff_not, Bool.not_eq_true', Bool.not_eq_false'] at qg7
    refine WL.val (wantT rfl g7) rfl rfl (Run.field Try.runUnderlying57 rfl rfl rfl Try.sizeOf3 rfl) ?_
    refine WL.val (wantT rfl g7) rfl rfl (Run.loadL hs6 0 Try.isAgg3 rfl rfl rfl rfl) ?_
    refine WL.call (wantT rfl g7) rfl rfl (Run.call Try.call51 rfl rfl rfl) (c_impl_within _ _ _ _) ?_
    rintro _ whs9 ⟨rfl, hs9⟩
    replace hs9 := hs6.call0 hs9
    refine ⟨_, rfl, ?_⟩
    refine WL.val rfl rfl rfl (Run.pickT rfl rfl g7 rfl) ?_
    exact WL.fin J8 hs9 rfl (andT g7) ⟨rfl, rfl, rfl, trivial⟩
  · intro g7 J8
    refine WL.skip (wantNT rfl g7) rfl rfl ?_
    refine WL.skip (wantNT rfl g7) rfl rfl ?_
    refine WL.skip (wantNT rfl g7) rfl rfl ?_
    refine WL.val rfl rfl rfl (Run.pickF rfl rfl g7 rfl) ?_
    exact WL.fin J8 hs6 rfl (andF g7) ⟨rfl, rfl, rfl, trivial⟩
  · intro whs10 hs10
    refine WL.val rfl rfl rfl (Run.assign rfl rfl) ?_
    refine WL.nil ?_
    refine tkN ?_
    refine hK5 _ _ ?_
    clear hK5
    refine WC.ret ?_
    refine retV1 rfl (resV.tmp rfl) ?_
    refine ⟨congrArg Ending.returned ?_, hs10.nil⟩
    rfl
theorem c_spec_AttrOk (a_Fg : Int) (a_Bg : Int) (a_Bold : Bool) (a_Under : Bool) (a_Turn : Bool) (w : World) :
    Calls Try.prog 94 #[.agg #[i64 a_Fg, i64 a_Bg, .bool a_Bold, .bool a_Under, .bool a_Turn]] w fun e w' => e = .returned (.bool (attrOk a_Fg a_Bg)) ∧ St w [] [] w' := by
  refine enter (vs := [.agg #[i64 a_Fg, i64 a_Bg, .bool a_Bold, .bool a_Under, .bool a_Turn]]) 21 Try.func94 rfl Try.ntmps94 rfl rfl ?_
  have hs1 := St.init w
  refine WC.seq (fun K2 hK2 => ?_)
  refine WC.region ?_
  refine WL.box hs1 rfl rfl rfl rfl rfl rfl (fun b3 whs4 hs4 => ?_)
  refine WL.val rfl rfl rfl (Run.assign rfl rfl) ?_
  refine WL.nil ?_
  refine tkN ?_
  refine hK2 _ _ ?_
  clear hK2
  refine WC.seq (fun K5 hK5 => ?_)
  refine WC.region ?_
  refine WL.val rfl rfl rfl (Run.field Try.runUnderlying57 rfl rfl rfl Try.sizeOf3 rfl) ?_
  refine WL.val rfl rfl rfl (Run.loadL hs4 0 Try.isAgg3 rfl rfl rfl rfl) ?_
  refine WL.val rfl rfl rfl (Run.geq rfl rfl rfl) ?_
  refine WL.val rfl rfl rfl (Run.move rfl rfl) ?_
  apply WL.meetAnd 4 6 10 [(0, _), (1, _), (2, _)] rfl hs4
  · intro g6 J7
    have qg6 := g6
    try simp only [decide_eq_true_eq, decide_eq_false_iff_not, Bool.not_eq_true', Bool.not_eq_false'] at qg6
    refine WL.val (wantT rfl g6) rfl rfl (Run.field Try.runUnderlying57 rfl rfl rfl Try.sizeOf3 rfl) ?_
    refine WL.val (wantT rfl g6) rfl rfl (Run.loadL hs4 0 Try.isAgg3 rfl rfl rfl rfl) ?_
    refine WL.val (wantT rfl g6) rfl rfl (Run.leq rfl rfl rfl) ?_
    refine WL.val rfl rfl rfl (Run.pickT rfl rfl g6 rfl) ?_
    exact WL.fin J7 hs4 rfl (andT g6) ⟨rfl, rfl, rfl, trivial⟩
  · intro g6 J7
    refine WL.skip (wantNT rfl g6) rfl rfl ?_
    refine WL.skip (wantNT rfl g6) rfl rfl ?_
    refine WL.skip (wantNT rfl g6) rfl rfl ?_
    refine WL.val rfl rfl rfl (Run.pickF rfl rfl g6 rfl) ?_
    exact WL.fin J7 hs4 rfl (andF g6) ⟨rfl, rfl, rfl, trivial⟩
  · intro whs8 hs8
    refine WL.val rfl rfl rfl (Run.move rfl rfl) ?_
    apply WL.meetAnd 4 11 15 [(0, _), (1, _), (2, _)] rfl hs8
    · intro g9 J10
      have qg9 := g9
      try simp only [decide_eq_true_eq, decide_eq_false_iff_not, Bool.not_eq_true', Bool.not_eq_false'] at qg9
      refine WL.val (wantT rfl g9) rfl rfl (Run.field Try.runUnderlying57 rfl rfl rfl Try.sizeOf3 rfl) ?_
      refine WL.val (wantT rfl g9) rfl rfl (Run.loadL hs8 0 Try.isAgg3 rfl rfl rfl rfl) ?_
      refine WL.val (wantT rfl g9) rfl rfl (Run.geq rfl rfl rfl) ?_
      refine WL.val rfl rfl rfl (Run.pickT rfl rfl g9 rfl) ?_
      exact WL.fin J10 hs8 rfl (andT g9) ⟨rfl, rfl, rfl, trivial⟩
    · intro g9 J10
      refine WL.skip (wantNT rfl g9) rfl rfl ?_
      refine WL.skip (wantNT rfl g9) rfl rfl ?_
      refine WL.skip (wantNT rfl g9) rfl rfl ?_
      refine WL.val rfl rfl rfl (Run.pickF rfl rfl g9 rfl) ?_
      exact WL.fin J10 hs8 rfl (andF g9) ⟨rfl, rfl, rfl, trivial⟩
    · intro whs11 hs11
      refine WL.val rfl rfl rfl (Run.move rfl rfl) ?_
      apply WL.meetAnd 4 16 20 [(0, _), (1, _), (2, _)] rfl hs11
      · intro g12 J13
        have qg12 := g12
        try simp only [decide_eq_true_eq, decide_eq_false_iff_not, Bool.not_eq_true', Bool.not_eq_false'] at qg12
        refine WL.val (wantT rfl g12) rfl rfl (Run.field Try.runUnderlying57 rfl rfl rfl Try.sizeOf3 rfl) ?_
        refine WL.val (wantT rfl g12) rfl rfl (Run.loadL hs11 0 Try.isAgg3 rfl rfl rfl rfl) ?_
        refine WL.val (wantT rfl g12) rfl rfl (Run.leq rfl rfl rfl) ?_
        refine WL.val rfl rfl rfl (Run.pickT rfl rfl g12 rfl) ?_
        exact WL.fin J13 hs11 rfl (andT g12) ⟨rfl, rfl, rfl, trivial⟩
      · intro g12 J13
        refine WL.skip (wantNT rfl g12) rfl rfl ?_
        refine WL.skip (wantNT rfl g12) rfl rfl ?_
        refine WL.skip (wantNT rfl g12) rfl rfl ?_
        refine WL.val rfl rfl rfl (Run.pickF rfl rfl g12 rfl) ?_
        exact WL.fin J13 hs11 rfl (andF g12) ⟨rfl, rfl, rfl, trivial⟩
      · intro whs14 hs14
        refine WL.val rfl rfl rfl (Run.assign rfl rfl) ?_
        refine WL.nil ?_
        refine tkN ?_
        refine hK5 _ _ ?_
        clear hK5
        refine WC.ret ?_
        refine retV1 rfl (resV.tmp rfl) ?_
        refine ⟨congrArg Ending.returned ?_, hs14.nil⟩
        simp [attrOk, within, Bool.and_assoc]
theorem c_impl_AttrNum (a_Fg : Int) (a_Bg : Int) (a_Bold : Bool) (a_Under : Bool) (a_Turn : Bool) (w : World) :
    Calls Try.prog 100 #[.agg #[i64 a_Fg, i64 a_Bg, .bool a_Bold, .bool a_Under, .bool a_Turn]] w fun e w' => e = .returned (.int .i64 (attrNum ⟨a_Fg, a_Bg, a_Bold, a_Under, a_Turn⟩)) ∧ St w [] [] w' := by
  refine enter (vs := [.agg #[i64 a_Fg, i64 a_Bg, .bool a_Bold, .bool a_Under, .bool a_Turn]]) 36 Try.func100 rfl Try.ntmps100 rfl rfl ?_
  have hs1 := St.init w
  refine WC.seq (fun K2 hK2 => ?_)
  refine WC.region ?_
  refine WL.box hs1 rfl rfl rfl rfl rfl rfl (fun b3 whs4 hs4 => ?_)
  refine WL.val rfl rfl rfl (Run.assign rfl rfl) ?_
  refine WL.nil ?_
  refine tkN ?_
  refine hK2 _ _ ?_
  clear hK2
  refine WC.seq (fun K5 hK5 => ?_)
  refine WC.seq (fun K6 hK6 => ?_)
  refine WC.region ?_
  refine WL.val rfl rfl rfl (Run.loadLA hs4 0 Try.isAgg57 Try.sizeOf57 rfl rfl rfl rfl rfl) ?_
  refine WL.call rfl rfl rfl (Run.call Try.call104 rfl rfl rfl) (c_impl_AttrOk _ _ _ _ _ _) ?_
  rintro _ whs7 ⟨rfl, hs7⟩
  replace hs7 := hs4.call0 hs7
  refine ⟨_, rfl, ?_⟩
  refine WL.val rfl rfl rfl (Run.not rfl rfl) ?_
  refine WL.nil ?_
  refine tkN ?_
  refine hK6 _ _ ?_
  clear hK6
  refine WC.cond rfl (fun h8 => ?_) (fun h8 => ?_)
  · have qh8 := h8
    try simp only [decide_eq_true_eq, decide_eq_false_iff_not, Bool.not_eq_true', Bool.not_eq_false', Bool.and_eq_true, Bool.or_eq_false_iff, within_iff, within_not] at qh8
    have hok : attrOk a_Fg a_Bg = false := by simpa using qh8
    refine WC.seq (fun K9 hK9 => ?_)
    refine WC.region ?_
    refine WL.val rfl rfl rfl (Run.assign rfl rfl) ?_
    refine WL.nil ?_
    refine tkN ?_
    refine hK9 _ _ ?_
    clear hK9
    refine WC.ret ?_
    refine tkR ?_
    clear hK5
    refine retV1 rfl (resV.tmp rfl) ?_
    refine ⟨congrArg Ending.returned ?_, hs7.nil⟩
    simp [attrNum, hok]
  · have qh8 := h8
    try simp only [decide_eq_true_eq, decide_eq_false_iff_not, Bool.not_eq_true', Bool.not_eq_false', Bool.and_eq_true, Bool.or_eq_false_iff, within_iff, within_not] at qh8
    have hok : attrOk a_Fg a_Bg = true := by simpa using qh8
    have hok2 := hok
    simp [attrOk, within] at hok2
    refine WC.skip ?_
    refine tkN ?_
    refine hK5 _ _ ?_
    clear hK5
    refine WC.seq (fun K10 hK10 => ?_)
    refine WC.region ?_
    refine WL.val rfl rfl rfl (Run.field Try.runUnderlying57 rfl rfl rfl Try.sizeOf3 rfl) ?_
    refine WL.val rfl rfl rfl (Run.loadL hs7 0 Try.isAgg3 rfl rfl rfl rfl) ?_
    refine WL.val rfl rfl rfl (Run.mul rfl rfl rfl ?_) ?_
    · constructor <;> first | omega | (show (0 : Int) ≤ 1 * 2 ^ i; omega) | (show (1 * 2 ^ i : Int) ≤ _; omega)
    refine WL.val rfl rfl rfl (Run.field Try.runUnderlying57 rfl rfl rfl Try.sizeOf3 rfl) ?_
    refine WL.val rfl rfl rfl (Run.loadL hs7 0 Try.isAgg3 rfl rfl rfl rfl) ?_
    refine WL.val rfl rfl rfl (Run.mul rfl rfl rfl ?_) ?_
    · constructor <;> first | omega | (show (0 : Int) ≤ 1 * 2 ^ i; omega) | (show (1 * 2 ^ i : Int) ≤ _; omega)
    refine WL.val rfl rfl rfl (Run.add rfl rfl rfl ?_) ?_
    · constructor <;> first | omega | (show (0 : Int) ≤ 1 * 2 ^ i; omega) | (show (1 * 2 ^ i : Int) ≤ _; omega)
    refine WL.val rfl rfl rfl (Run.assign rfl rfl) ?_
    refine WL.nil ?_
    refine tkN ?_
    refine hK10 _ _ ?_
    clear hK10
    refine WC.seq (fun K11 hK11 => ?_)
    refine WC.seq (fun K12 hK12 => ?_)
    refine WC.region ?_
    refine WL.val rfl rfl rfl (Run.field Try.runUnderlying57 rfl rfl rfl Try.sizeOf4 rfl) ?_
    refine WL.val rfl rfl rfl (Run.loadL hs7 0 Try.isAgg4 rfl rfl rfl rfl) ?_
    refine WL.val rfl rfl rfl (Run.field Try.runUnderlying57 rfl rfl rfl Try.sizeOf4 rfl) ?_
    refine WL.val rfl rfl rfl (Run.loadL hs7 0 Try.isAgg4 rfl rfl rfl rfl) ?_
    refine WL.val rfl rfl rfl (Run.field Try.runUnderlying57 rfl rfl rfl Try.sizeOf4 rfl) ?_
    refine WL.val rfl rfl rfl (Run.loadL hs7 0 Try.isAgg4 rfl rfl rfl rfl) ?_
    refine WL.buildF (F := encT) hs7 ([a_Bold, a_Under, a_Turn]) Try.runUnderlying75 Try.sizeOf4 Try.zeroValue4 rfl rfl rfl rfl rfl rfl rfl rfl rfl rfl rfl rfl (fun A16 c17 L13 whs14 hs14 ho15 => ?_)
    replace hs14 := St.back [_] hs14
    refine WL.val rfl rfl rfl (Run.lenSl Try.runUnderlying75 rfl rfl) ?_
    refine WL.val rfl rfl rfl (Run.move rfl rfl) ?_
    refine WL.nil ?_
    refine tkN ?_
    refine hK12 _ _ ?_
    clear hK12
    refine WC.block ?_
    refine WC.loopS [(0, _), (1, _), (2, _), (6, _), (7, _), (8, _), (9, _), (10, _), (11, _), (12, _), (13, _), (14, _), (15, _), (16, _), (17, _), (18, _), (19, _), (20, _), (21, _), (22, _), (23, _)] ⟨rfl, rfl, rfl, rfl, rfl, rfl, rfl, rfl, rfl, rfl, rfl, rfl, rfl, rfl, rfl, rfl, rfl, rfl, rfl, rfl, rfl, trivial⟩ hs14 (fun k_ f w' => ∃ (i : Nat) (q : Int), k_ = 3 - i ∧ (i ≤ 3) ∧ (q = 72 * a_Bg + 8 * a_Fg + attrBits ⟨a_Fg, a_Bg, a_Bold, a_Under, a_Turn⟩ i) ∧ Sub [(24, .int .i64 i), (3, .int .i64 q)] f) ((fun (i : Nat) (q : Int) => 3 - i) (0) (72 * a_Bg + 8 * a_Fg)) ?_ ?_
    · refine ⟨0, 72 * a_Bg + 8 * a_Fg, rfl, ?_, ?_, ⟨rfl, rfl, trivial⟩⟩
      · exact Nat.zero_le _
      · simp [attrBits]
    · clear hs14
      rintro _ f w ⟨i, q, rfl, p0, p1, hG⟩ hF hs18
      refine WC.sub _ (hG.app hF) ?_
      clear hG hF
      have hbit : 0 ≤ attrBits ⟨a_Fg, a_Bg, a_Bold, a_Under, a_Turn⟩ i ∧ attrBits ⟨a_Fg, a_Bg, a_Bold, a_Under, a_Turn⟩ i ≤ 7 := by unfold attrBits; (repeat' split) <;> omega
      refine WC.seq (fun K19 hK19 => ?_)
      refine WC.region ?_
      refine WL.val rfl rfl rfl (Run.lss rfl rfl rfl) ?_
      refine WL.nil ?_
      refine tkN ?_
      refine hK19 _ _ ?_
      clear hK19
      refine WC.seq (fun K20 hK20 => ?_)
      refine WC.cond rfl (fun h21 => ?_) (fun h21 => ?_)
      · have qh21 := h21
        try simp only [decide_eq_true_eq, decide_eq_false_iff_not, Bool.not_eq_true', Bool.not_eq_false', Bool.and_eq_true, Bool.or_eq_false_iff, within_iff, within_not] at qh21
        simp only [List.length_cons, List.length_nil] at qh21
        have hp2 : (1 * 2 ^ i : Int) = 1 ∨ (1 * 2 ^ i : Int) = 2 ∨ (1 * 2 ^ i : Int) = 4 := by
          rcases i with _ | _ | _ | i
          · exact Or.inl rfl
          · exact Or.inr (Or.inl rfl)
          · exact Or.inr (Or.inr rfl)
          · omega
        refine WC.skip ?_
        refine tkN ?_
        refine hK20 _ _ ?_
        clear hK20
        refine WC.seq (fun K22 hK22 => ?_)
        refine WC.block ?_
        refine WC.seq (fun K23 hK23 => ?_)
        refine WC.region ?_
        refine WL.val rfl rfl rfl (Run.move rfl rfl) ?_
        refine WL.val rfl rfl rfl (Run.idxN Try.runUnderlying75 Try.sizeOf4 rfl rfl rfl ?_ ?_ ?_) ?_
        · exact SlF.some_ (SlF.ofOwn ho15 (fun p_ hp_ => (hs18.own p_ (List.mem_append_right [_] (List.mem_append_left _ hp_))).1))
        · simp only [List.length_cons, List.length_nil] at *; omega
        · simp only [List.length_cons, List.length_nil] at *; omega
        refine WL.val rfl rfl rfl (Run.load Try.isAgg4 rfl rfl (SlF.one1 (SlF.ofOwn ho15 (fun p_ hp_ => (hs18.own p_ (List.mem_append_right [_] (List.mem_append_left _ hp_))).1)) ?_ rfl)) ?_
        · simp only [List.length_cons, List.length_nil] at *; omega
        refine WL.val rfl rfl rfl (Run.assign rfl rfl) ?_
        refine WL.val rfl rfl rfl (Run.assign rfl rfl) ?_
        refine WL.nil ?_
        refine tkN ?_
        refine hK23 _ _ ?_
        clear hK23
        refine WC.seq (fun K24 hK24 => ?_)
        refine WC.region ?_
        refine WL.val rfl rfl rfl (Run.move rfl rfl) ?_
        refine WL.nil ?_
        refine tkN ?_
        refine hK24 _ _ ?_
        clear hK24
        refine WC.cond rfl (fun h25 => ?_) (fun h25 => ?_)
        · have qh25 := h25
          try simp only [decide_eq_true_eq, decide_eq_false_iff_not, Bool.not_eq_true', Bool.not_eq_false', Bool.and_eq_true, Bool.or_eq_false_iff, within_iff, within_not] at qh25
          refine WC.region ?_
          refine WL.val rfl rfl rfl (Run.move rfl rfl) ?_
          refine WL.val rfl rfl rfl (Run.move rfl rfl) ?_
          refine WL.val rfl rfl rfl (Run.shl rfl rfl rfl ?_ ?_ ?_) ?_
          · first | omega | (show (0 : Int) ≤ 1 * 2 ^ i; omega) | (show (1 * 2 ^ i : Int) ≤ _; omega)
          · first | omega | (show (0 : Int) ≤ 1 * 2 ^ i; omega) | (show (1 * 2 ^ i : Int) ≤ _; omega)
          · show In64 (1 * 2 ^ i); constructor <;> omega
          refine WL.val rfl rfl rfl (Run.or rfl rfl rfl ?_ ?_ ?_ ?_) ?_
          · first | omega | (show (0 : Int) ≤ 1 * 2 ^ i; omega) | (show (1 * 2 ^ i : Int) ≤ _; omega)
          · first | omega | (show (0 : Int) ≤ 1 * 2 ^ i; omega) | (show (1 * 2 ^ i : Int) ≤ _; omega)
          · first | omega | (show (0 : Int) ≤ 1 * 2 ^ i; omega) | (show (1 * 2 ^ i : Int) ≤ _; omega)
          · first | omega | (show (0 : Int) ≤ 1 * 2 ^ i; omega) | (show (1 * 2 ^ i : Int) ≤ _; omega)
          refine WL.val rfl rfl rfl (Run.assign rfl rfl) ?_
          refine WL.nil ?_
          refine ibN ?_
          refine tkN ?_
          refine hK22 _ _ ?_
          clear hK22
          refine WC.region ?_
          refine WL.val rfl rfl rfl (Run.add rfl rfl rfl ?_) ?_
          · constructor <;> first | omega | (show (0 : Int) ≤ 1 * 2 ^ i; omega) | (show (1 * 2 ^ i : Int) ≤ _; omega)
          refine WL.val rfl rfl rfl (Run.move rfl rfl) ?_
          refine WL.nil ?_
          refine tkN ?_
          refine ⟨⟨rfl, rfl, rfl, rfl, rfl, rfl, rfl, rfl, rfl, rfl, rfl, rfl, rfl, rfl, rfl, rfl, rfl, rfl, rfl, rfl, rfl, trivial⟩, hs18, _, ?_, i + 1, _, rfl, ?_, ?_, ⟨rfl, rfl, trivial⟩⟩
          · omega
          · omega
          · first | exact attrBits_set hok2.1.1 hok2.2.1 p1 (by omega) qh25 | (rw [attrBits_skip (i := i) (by omega) qh25]; exact p1)
        · have qh25 := h25
          try simp only [decide_eq_true_eq, decide_eq_false_iff_not, Bool.not_eq_true', Bool.not_eq_false', Bool.and_eq_true, Bool.or_eq_false_iff, within_iff, within_not] at qh25
          refine WC.skip ?_
          refine ibN ?_
          refine tkN ?_
          refine hK22 _ _ ?_
          clear hK22
          refine WC.region ?_
          refine WL.val rfl rfl rfl (Run.add rfl rfl rfl ?_) ?_
          · constructor <;> first | omega | (show (0 : Int) ≤ 1 * 2 ^ i; omega) | (show (1 * 2 ^ i : Int) ≤ _; omega)
          refine WL.val rfl rfl rfl (Run.move rfl rfl) ?_
          refine WL.nil ?_
          refine tkN ?_
          refine ⟨⟨rfl, rfl, rfl, rfl, rfl, rfl, rfl, rfl, rfl, rfl, rfl, rfl, rfl, rfl, rfl, rfl, rfl, rfl, rfl, rfl, rfl, trivial⟩, hs18, _, ?_, i + 1, _, rfl, ?_, ?_, ⟨rfl, rfl, trivial⟩⟩
          · omega
          · omega
          · first | exact attrBits_set hok2.1.1 hok2.2.1 p1 (by omega) qh25 | (rw [attrBits_skip (i := i) (by omega) qh25]; exact p1)
      · have qh21 := h21
        try simp only [decide_eq_true_eq, decide_eq_false_iff_not, Bool.not_eq_true', Bool.not_eq_false', Bool.and_eq_true, Bool.or_eq_false_iff, within_iff, within_not] at qh21
        refine WC.exit ?_
        refine tkE ?_
        refine tkE ?_
        refine ibE ?_
        refine tkN ?_
        refine hK11 _ _ ?_
        clear hK11
        refine WC.seq (fun K26 hK26 => ?_)
        refine WC.region ?_
        refine WL.val rfl rfl rfl (Run.move rfl rfl) ?_
        refine WL.val rfl rfl rfl (Run.assign rfl rfl) ?_
        refine WL.nil ?_
        refine tkN ?_
        refine hK26 _ _ ?_
        clear hK26
        refine WC.ret ?_
        refine retV1 rfl (resV.tmp rfl) ?_
        refine ⟨congrArg Ending.returned ?_, hs18.nil⟩
        rw [attrNum_bits hok]; simp only [List.length_cons, List.length_nil] at *; rw [p1, show i = 3 from by omega]
theorem c_spec_AttrNum (a_Fg : Int) (a_Bg : Int) (a_Bold : Bool) (a_Under : Bool) (a_Turn : Bool) (w : World) :
    Calls Try.prog 56 #[.agg #[i64 a_Fg, i64 a_Bg, .bool a_Bold, .bool a_Under, .bool a_Turn]] w fun e w' => e = .returned (.int .i64 (attrNum ⟨a_Fg, a_Bg, a_Bold, a_Under, a_Turn⟩)) ∧ St w [] [] w' := by
  refine enter (vs := [.agg #[i64 a_Fg, i64 a_Bg, .bool a_Bold, .bool a_Under, .bool a_Turn]]) 27 Try.func56 rfl Try.ntmps56 rfl rfl ?_
  have hs1 := St.init w
  refine WC.seq (fun K2 hK2 => ?_)
  refine WC.region ?_
  refine WL.box hs1 rfl rfl rfl rfl rfl rfl (fun b3 whs4 hs4 => ?_)
  refine WL.val rfl rfl rfl (Run.assign rfl rfl) ?_
  refine WL.nil ?_
  refine tkN ?_
  refine hK2 _ _ ?_
  clear hK2
  refine WC.seq (fun K5 hK5 => ?_)
  refine WC.seq (fun K6 hK6 => ?_)
  refine WC.region ?_
  refine WL.val rfl rfl rfl (Run.loadLA hs4 0 Try.isAgg57 Try.sizeOf57 rfl rfl rfl rfl rfl) ?_
  refine WL.call rfl rfl rfl (Run.call Try.call94 rfl rfl rfl) (c_spec_AttrOk _ _ _ _ _ _) ?_
  rintro _ whs7 ⟨rfl, hs7⟩
  replace hs7 := hs4.call0 hs7
  refine ⟨_, rfl, ?_⟩
  refine WL.val rfl rfl rfl (Run.not rfl rfl) ?_
  refine WL.nil ?_
  refine tkN ?_
  refine hK6 _ _ ?_
  clear hK6
  refine WC.cond rfl (fun h8 => ?_) (fun h8 => ?_)
  · have qh8 := h8
    try simp only [decide_eq_true_eq, decide_eq_false_iff_not, Bool.not_eq_true', Bool.not_eq_false', Bool.and_eq_true, Bool.or_eq_false_iff, within_iff, within_not] at qh8
    have hok : attrOk a_Fg a_Bg = false := by simpa using qh8
    refine WC.seq (fun K9 hK9 => ?_)
    refine WC.region ?_
    refine WL.val rfl rfl rfl (Run.assign rfl rfl) ?_
    refine WL.nil ?_
    refine tkN ?_
    refine hK9 _ _ ?_
    clear hK9
    refine WC.ret ?_
    refine tkR ?_
    clear hK5
    refine retV1 rfl (resV.tmp rfl) ?_
    refine ⟨congrArg Ending.returned ?_, hs7.nil⟩
    simp [attrNum, hok]
  · have qh8 := h8
    try simp only [decide_eq_true_eq, decide_eq_false_iff_not, Bool.not_eq_true', Bool.not_eq_false', Bool.and_eq_true, Bool.or_eq_false_iff, within_iff, within_not] at qh8
    have hok : attrOk a_Fg a_Bg = true := by simpa using qh8
    have hok2 := hok
    simp [attrOk, within] at hok2
    refine WC.skip ?_
    refine tkN ?_
    refine hK5 _ _ ?_
    clear hK5
    refine WC.seq (fun K10 hK10 => ?_)
    refine WC.region ?_
    refine WL.val rfl rfl rfl (Run.field Try.runUnderlying57 rfl rfl rfl Try.sizeOf3 rfl) ?_
    refine WL.val rfl rfl rfl (Run.loadL hs7 0 Try.isAgg3 rfl rfl rfl rfl) ?_
    refine WL.val rfl rfl rfl (Run.mul rfl rfl rfl ?_) ?_
    · constructor <;> omega
    refine WL.val rfl rfl rfl (Run.field Try.runUnderlying57 rfl rfl rfl Try.sizeOf3 rfl) ?_
    refine WL.val rfl rfl rfl (Run.loadL hs7 0 Try.isAgg3 rfl rfl rfl rfl) ?_
    refine WL.val rfl rfl rfl (Run.mul rfl rfl rfl ?_) ?_
    · constructor <;> omega
    refine WL.val rfl rfl rfl (Run.add rfl rfl rfl ?_) ?_
    · constructor <;> omega
    refine WL.val rfl rfl rfl (Run.assign rfl rfl) ?_
    refine WL.nil ?_
    refine tkN ?_
    refine hK10 _ _ ?_
    clear hK10
    refine WC.seq (fun K11 hK11 => ?_)
    refine WC.seq (fun K12 hK12 => ?_)
    refine WC.region ?_
    refine WL.val rfl rfl rfl (Run.field Try.runUnderlying57 rfl rfl rfl Try.sizeOf4 rfl) ?_
    refine WL.val rfl rfl rfl (Run.loadL hs7 0 Try.isAgg4 rfl rfl rfl rfl) ?_
    refine WL.nil ?_
    refine tkN ?_
    refine hK12 _ _ ?_
    clear hK12
    refine WC.cond rfl (fun h13 => ?_) (fun h13 => ?_)
    · have qh13 := h13
      try simp only [decide_eq_true_eq, decide_eq_false_iff_not, Bool.not_eq_true', Bool.not_eq_false', Bool.and_eq_true, Bool.or_eq_false_iff, within_iff, within_not] at qh13
      refine WC.region ?_
      refine WL.val rfl rfl rfl (Run.move rfl rfl) ?_
      refine WL.val rfl rfl rfl (Run.add rfl rfl rfl ?_) ?_
      · constructor <;> omega
      refine WL.val rfl rfl rfl (Run.assign rfl rfl) ?_
      refine WL.nil ?_
      refine tkN ?_
      refine hK11 _ _ ?_
      clear hK11
      refine WC.seq (fun K14 hK14 => ?_)
      refine WC.seq (fun K15 hK15 => ?_)
      refine WC.region ?_
      refine WL.val rfl rfl rfl (Run.field Try.runUnderlying57 rfl rfl rfl Try.sizeOf4 rfl) ?_
      refine WL.val rfl rfl rfl (Run.loadL hs7 0 Try.isAgg4 rfl rfl rfl rfl) ?_
      refine WL.nil ?_
      refine tkN ?_
      refine hK15 _ _ ?_
      clear hK15
      refine WC.cond rfl (fun h16 => ?_) (fun h16 => ?_)
      · have qh16 := h16
        try simp only [decide_eq_true_eq, decide_eq_false_iff_not, Bool.not_eq_true', Bool.not_eq_false', Bool.and_eq_true, Bool.or_eq_false_iff, within_iff, within_not] at qh16
        refine WC.region ?_
        refine WL.val rfl rfl rfl (Run.move rfl rfl) ?_
        refine WL.val rfl rfl rfl (Run.add rfl rfl rfl ?_) ?_
        · constructor <;> omega
        refine WL.val rfl rfl rfl (Run.assign rfl rfl) ?_
        refine WL.nil ?_
        refine tkN ?_
        refine hK14 _ _ ?_
        clear hK14
        refine WC.seq (fun K17 hK17 => ?_)
        refine WC.seq (fun K18 hK18 => ?_)
        refine WC.region ?_
        refine WL.val rfl rfl rfl (Run.field Try.runUnderlying57 rfl rfl rfl Try.sizeOf4 rfl) ?_
        refine WL.val rfl rfl rfl (Run.loadL hs7 0 Try.isAgg4 rfl rfl rfl rfl) ?_
        refine WL.nil ?_
        refine tkN ?_
        refine hK18 _ _ ?_
        clear hK18
        refine WC.cond rfl (fun h19 => ?_) (fun h19 => ?_)
        · have qh19 := h19
          try simp only [decide_eq_true_eq, decide_eq_false_iff_not, Bool.not_eq_true', Bool.not_eq_false', Bool.and_eq_true, Bool.or_eq_false_iff, within_iff, within_not] at qh19
          refine WC.region ?_
          refine WL.val rfl rfl rfl (Run.move rfl rfl) ?_
          refine WL.val rfl rfl rfl (Run.add rfl rfl rfl ?_) ?_
          · constructor <;> omega
          refine WL.val rfl rfl rfl (Run.assign rfl rfl) ?_
          refine WL.nil ?_
          refine tkN ?_
          refine hK17 _ _ ?_
          clear hK17
          refine WC.seq (fun K20 hK20 => ?_)
          refine WC.region ?_
          refine WL.val rfl rfl rfl (Run.move rfl rfl) ?_
          refine WL.val rfl rfl rfl (Run.assign rfl rfl) ?_
          refine WL.nil ?_
          refine tkN ?_
          refine hK20 _ _ ?_
          clear hK20
          refine WC.ret ?_
          refine retV1 rfl (resV.tmp rfl) ?_
          refine ⟨congrArg Ending.returned ?_, hs7.nil⟩
          simp_all [attrNum]; omega
        · have qh19 := h19
          try simp only [decide_eq_true_eq, decide_eq_false_iff_not, Bool.not_eq_true', Bool.not_eq_false', Bool.and_eq_true, Bool.or_eq_false_iff, within_iff, within_not] at qh19
          refine WC.skip ?_
          refine tkN ?_
          refine hK17 _ _ ?_
          clear hK17
          refine WC.seq (fun K21 hK21 => ?_)
          refine WC.region ?_
          refine WL.val rfl rfl rfl (Run.move rfl rfl) ?_
          refine WL.val rfl rfl rfl (Run.assign rfl rfl) ?_
          refine WL.nil ?_
          refine tkN ?_
          refine hK21 _ _ ?_
          clear hK21
          refine WC.ret ?_
          refine retV1 rfl (resV.tmp rfl) ?_
          refine ⟨congrArg Ending.returned ?_, hs7.nil⟩
          simp_all [attrNum]; omega
      · have qh16 := h16
        try simp only [decide_eq_true_eq, decide_eq_false_iff_not, Bool.not_eq_true', Bool.not_eq_false', Bool.and_eq_true, Bool.or_eq_false_iff, within_iff, within_not] at qh16
        refine WC.skip ?_
        refine tkN ?_
        refine hK14 _ _ ?_
        clear hK14
        refine WC.seq (fun K22 hK22 => ?_)
        refine WC.seq (fun K23 hK23 => ?_)
        refine WC.region ?_
        refine WL.val rfl rfl rfl (Run.field Try.runUnderlying57 rfl rfl rfl Try.sizeOf4 rfl) ?_
        refine WL.val rfl rfl rfl (Run.loadL hs7 0 Try.isAgg4 rfl rfl rfl rfl) ?_
        refine WL.nil ?_
        refine tkN ?_
        refine hK23 _ _ ?_
        clear hK23
        refine WC.cond rfl (fun h24 => ?_) (fun h24 => ?_)
        · have qh24 := h24
          try simp only [decide_eq_true_eq, decide_eq_false_iff_not, Bool.not_eq_true', Bool.not_eq_false', Bool.and_eq_true, Bool.or_eq_false_iff, within_iff, within_not] at qh24
          refine WC.region ?_
          refine WL.val rfl rfl rfl (Run.move rfl rfl) ?_
          refine WL.val rfl rfl rfl (Run.add rfl rfl rfl ?_) ?_
          · constructor <;> omega
          refine WL.val rfl rfl rfl (Run.assign rfl rfl) ?_
          refine WL.nil ?_
          refine tkN ?_
          refine hK22 _ _ ?_
          clear hK22
          refine WC.seq (fun K25 hK25 => ?_)
          refine WC.region ?_
          refine WL.val rfl rfl rfl (Run.move rfl rfl) ?_
          refine WL.val rfl rfl rfl (Run.assign rfl rfl) ?_
          refine WL.nil ?_
          refine tkN ?_
          refine hK25 _ _ ?_
          clear hK25
          refine WC.ret ?_
          refine retV1 rfl (resV.tmp rfl) ?_
          refine ⟨congrArg Ending.returned ?_, hs7.nil⟩
          simp_all [attrNum]; omega
        · have qh24 := h24
          try simp only [decide_eq_true_eq, decide_eq_false_iff_not, Bool.not_eq_true', Bool.not_eq_false', Bool.and_eq_true, Bool.or_eq_false_iff, within_iff, within_not] at qh24
          refine WC.skip ?_
          refine tkN ?_
          refine hK22 _ _ ?_
          clear hK22
          refine WC.seq (fun K26 hK26 => ?_)
          refine WC.region ?_
          refine WL.val rfl rfl rfl (Run.move rfl rfl) ?_
          refine WL.val rfl rfl rfl (Run.assign rfl rfl) ?_
          refine WL.nil ?_
          refine tkN ?_
          refine hK26 _ _ ?_
          clear hK26
          refine WC.ret ?_
          refine retV1 rfl (resV.tmp rfl) ?_
          refine ⟨congrArg Ending.returned ?_, hs7.nil⟩
          simp_all [attrNum]; omega
    · have qh13 := h13
      try simp only [decide_eq_true_eq, decide_eq_false_iff_not, Bool.not_eq_true', Bool.not_eq_false', Bool.and_eq_true, Bool.or_eq_false_iff, within_iff, within_not] at qh13
      refine WC.skip ?_
      refine tkN ?_
      refine hK11 _ _ ?_
      clear hK11
      refine WC.seq (fun K27 hK27 => ?_)
      refine WC.seq (fun K28 hK28 => ?_)
      refine WC.region ?_
      refine WL.val rfl rfl rfl (Run.field Try.runUnderlying57 rfl rfl rfl Try.sizeOf4 rfl) ?_
      refine WL.val rfl rfl rfl (Run.loadL hs7 0 Try.isAgg4 rfl rfl rfl rfl) ?_
      refine WL.nil ?_
      refine tkN ?_
      refine hK28 _ _ ?_
      clear hK28
      refine WC.cond rfl (fun h29 => ?_) (fun h29 => ?_)
      · have qh29 := h29
        try simp only [decide_eq_true_eq, decide_eq_false_iff_not, Bool.not_eq_true', Bool.not_eq_false', Bool.and_eq_true, Bool.or_eq_false_iff, within_iff, within_not] at qh29
        refine WC.region ?_
        refine WL.val rfl rfl rfl (Run.move rfl rfl) ?_
        refine WL.val rfl rfl rfl (Run.add rfl rfl rfl ?_) ?_
        · constructor <;> omega
        refine WL.val rfl rfl rfl (Run.assign rfl rfl) ?_
        refine WL.nil ?_
        refine tkN ?_
        refine hK27 _ _ ?_
        clear hK27
        refine WC.seq (fun K30 hK30 => ?_)
        refine WC.seq (fun K31 hK31 => ?_)
        refine WC.region ?_
        refine WL.val rfl rfl rfl (Run.field Try.runUnderlying57 rfl rfl rfl Try.sizeOf4 rfl) ?_
        refine WL.val rfl rfl rfl (Run.loadL hs7 0 Try.isAgg4 rfl rfl rfl rfl) ?_
        refine WL.nil ?_
        refine tkN ?_
        refine hK31 _ _ ?_
        clear hK31
        refine WC.cond rfl (fun h32 => ?_) (fun h32 => ?_)
        · have qh32 := h32
          try simp only [decide_eq_true_eq, decide_eq_false_iff_not, Bool.not_eq_true', Bool.not_eq_false', Bool.and_eq_true, Bool.or_eq_false_iff, within_iff, within_not] at qh32
          refine WC.region ?_
          refine WL.val rfl rfl rfl (Run.move rfl rfl) ?_
          refine WL.val rfl rfl rfl (Run.add rfl rfl rfl ?_) ?_
          · constructor <;> omega
          refine WL.val rfl rfl rfl (Run.assign rfl rfl) ?_
          refine WL.nil ?_
          refine tkN ?_
          refine hK30 _ _ ?_
          clear hK30
          refine WC.seq (fun K33 hK33 => ?_)
          refine WC.region ?_
          refine WL.val rfl rfl rfl (Run.move rfl rfl) ?_
          refine WL.val rfl rfl rfl (Run.assign rfl rfl) ?_
          refine WL.nil ?_
          refine tkN ?_
          refine hK33 _ _ ?_
          clear hK33
          refine WC.ret ?_
          refine retV1 rfl (resV.tmp rfl) ?_
          refine ⟨congrArg Ending.returned ?_, hs7.nil⟩
          simp_all [attrNum]; omega
        · have qh32 := h32
          try simp only [decide_eq_true_eq, decide_eq_false_iff_not, Bool.not_eq_true', Bool.not_eq_false', Bool.and_eq_true, Bool.or_eq_false_iff, within_iff, within_not] at qh32
          refine WC.skip ?_
          refine tkN ?_
          refine hK30 _ _ ?_
          clear hK30
          refine WC.seq (fun K34 hK34 => ?_)
          refine WC.region ?_
          refine WL.val rfl rfl rfl (Run.move rfl rfl) ?_
          refine WL.val rfl rfl rfl (Run.assign rfl rfl) ?_
          refine WL.nil ?_
          refine tkN ?_
          refine hK34 _ _ ?_
          clear hK34
          refine WC.ret ?_
          refine retV1 rfl (resV.tmp rfl) ?_
          refine ⟨congrArg Ending.returned ?_, hs7.nil⟩
          simp_all [attrNum]; omega
      · have qh29 := h29
        try simp only [decide_eq_true_eq, decide_eq_false_iff_not, Bool.not_eq_true', Bool.not_eq_false', Bool.and_eq_true, Bool.or_eq_false_iff, within_iff, within_not] at qh29
        refine WC.skip ?_
        refine tkN ?_
        refine hK27 _ _ ?_
        clear hK27
        refine WC.seq (fun K35 hK35 => ?_)
        refine WC.seq (fun K36 hK36 => ?_)
        refine WC.region ?_
        refine WL.val rfl rfl rfl (Run.field Try.runUnderlying57 rfl rfl rfl Try.sizeOf4 rfl) ?_
        refine WL.val rfl rfl rfl (Run.loadL hs7 0 Try.isAgg4 rfl rfl rfl rfl) ?_
        refine WL.nil ?_
        refine tkN ?_
        refine hK36 _ _ ?_
        clear hK36
        refine WC.cond rfl (fun h37 => ?_) (fun h37 => ?_)
        · have qh37 := h37
          try simp only [decide_eq_true_eq, decide_eq_false_iff_not, Bool.not_eq_true', Bool.not_eq_false', Bool.and_eq_true, Bool.or_eq_false_iff, within_iff, within_not] at qh37
          refine WC.region ?_
          refine WL.val rfl rfl rfl (Run.move rfl rfl) ?_
          refine WL.val rfl rfl rfl (Run.add rfl rfl rfl ?_) ?_
          · constructor <;> omega
          refine WL.val rfl rfl rfl (Run.assign rfl rfl) ?_
          refine WL.nil ?_
          refine tkN ?_
          refine hK35 _ _ ?_
          clear hK35
          refine WC.seq (fun K38 hK38 => ?_)
          refine WC.region ?_
          refine WL.val rfl rfl rfl (Run.move rfl rfl) ?_
          refine WL.val rfl rfl rfl (Run.assign rfl rfl) ?_
          refine WL.nil ?_
          refine tkN ?_
          refine hK38 _ _ ?_
          clear hK38
          refine WC.ret ?_
          refine retV1 rfl (resV.tmp rfl) ?_
          refine ⟨congrArg Ending.returned ?_, hs7.nil⟩
          simp_all [attrNum]; omega
        · have qh37 := h37
          try simp only [decide_eq_true_eq, decide_eq_false_iff_not, Bool.not_eq_true', Bool.not_eq_false', Bool.and_eq_true, Bool.or_eq_false_iff, within_iff, within_not] at qh37
          refine WC.skip ?_
          refine tkN ?_
          refine hK35 _ _ ?_
          clear hK35
          refine WC.seq (fun K39 hK39 => ?_)
          refine WC.region ?_
          refine WL.val rfl rfl rfl (Run.move rfl rfl) ?_
          refine WL.val rfl rfl rfl (Run.assign rfl rfl) ?_
          refine WL.nil ?_
          refine tkN ?_
          refine hK39 _ _ ?_
          clear hK39
          refine WC.ret ?_
          refine retV1 rfl (resV.tmp rfl) ?_
          refine ⟨congrArg Ending.returned ?_, hs7.nil⟩
          simp_all [attrNum]; omega
theorem c_impl_CellOk (c_R : Int) (c_A_Fg : Int) (c_A_Bg : Int) (c_A_Bold : Bool) (c_A_Under : Bool) (c_A_Turn : Bool) (w : World) :
    Calls Try.prog 69 #[.agg #[i64 c_R, i64 c_A_Fg, i64 c_A_Bg, .bool c_A_Bold, .bool c_A_Under, .bool c_A_Turn]] w fun e w' => e = .returned (.bool (cellOk ⟨c_R, ⟨c_A_Fg, c_A_Bg, c_A_Bold, c_A_Under, c_A_Turn⟩⟩)) ∧ St w [] [] w' := by
  refine enter (vs := [.agg #[i64 c_R, i64 c_A_Fg, i64 c_A_Bg, .bool c_A_Bold, .bool c_A_Under, .bool c_A_Turn]]) 11 Try.func69 rfl Try.ntmps69 rfl rfl ?_
  have hs1 := St.init w
  refine WC.seq (fun K2 hK2 => ?_)
  refine WC.region ?_
  refine WL.box hs1 rfl rfl rfl rfl rfl rfl (fun b3 whs4 hs4 => ?_)
  refine WL.val rfl rfl rfl (Run.assign rfl rfl) ?_
  refine WL.nil ?_
  refine tkN ?_
  refine hK2 _ _ ?_
  clear hK2
  refine WC.seq (fun K5 hK5 => ?_)
  refine WC.region ?_
  refine WL.val rfl rfl rfl (Run.field Try.runUnderlying81 rfl rfl rfl Try.sizeOf3 rfl) ?_
  refine WL.val rfl rfl rfl (Run.loadL hs4 0 Try.isAgg3 rfl rfl rfl rfl) ?_
  refine WL.call rfl rfl rfl (Run.call Try.call103 rfl rfl rfl) (c_impl_Shows _ _) ?_
  rintro _ whs6 ⟨rfl, hs6⟩
  replace hs6 := hs4.call0 hs6
  refine ⟨_, rfl, ?_⟩
  refine WL.val rfl rfl rfl (Run.move rfl rfl) ?_
  apply WL.meetAnd 4 6 10 [(0, _), (1, _), (2, _)] rfl hs6
  · intro g7 J8
    have qg7 := g7
    try simp only [decide_eq_true_eq, decide_eq_false_iff_not, Bool.not_eq_true', Bool.not_eq_false'] at qg7
    refine WL.val (wantT rfl g7) rfl rfl (Run.field Try.runUnderlying81 rfl rfl rfl Try.sizeOf57 rfl) ?_
    refine WL.val (wantT rfl g7) rfl rfl (Run.loadLA hs6 0 Try.isAgg57 Try.sizeOf57 rfl rfl rfl rfl rfl) ?_
    refine WL.call (wantT rfl g7) rfl rfl (Run.call Try.call104 rfl rfl rfl) (c_impl_AttrOk _ _ _ _ _ _) ?_
    rintro _ whs9 ⟨rfl, hs9⟩
    replace hs9 := hs6.call0 hs9
    refine ⟨_, rfl, ?_⟩
    refine WL.val rfl rfl rfl (Run.pickT rfl rfl g7 rfl) ?_
    exact WL.fin J8 hs9 rfl (andT g7) ⟨rfl, rfl, rfl, trivial⟩
  · intro g7 J8
    refine WL.skip (wantNT rfl g7) rfl rfl ?_
    refine WL.skip (wantNT rfl g7) rfl rfl ?_
    refine WL.skip (wantNT rfl g7) rfl rfl ?_
    refine WL.val rfl rfl rfl (Run.pickF rfl rfl g7 rfl) ?_
    exact WL.fin J8 hs6 rfl (andF g7) ⟨rfl, rfl, rfl, trivial⟩
  · intro whs10 hs10
    refine WL.val rfl rfl rfl (Run.assign rfl rfl) ?_
    refine WL.nil ?_
    refine tkN ?_
    refine hK5 _ _ ?_
    clear hK5
    refine WC.ret ?_
    refine retV1 rfl (resV.tmp rfl) ?_
    refine ⟨congrArg Ending.returned ?_, hs10.nil⟩
    rfl
theorem c_spec_CellOk (c_R : Int) (c_A_Fg : Int) (c_A_Bg : Int) (c_A_Bold : Bool) (c_A_Under : Bool) (c_A_Turn : Bool) (w : World) :
    Calls Try.prog 54 #[.agg #[i64 c_R, i64 c_A_Fg, i64 c_A_Bg, .bool c_A_Bold, .bool c_A_Under, .bool c_A_Turn]] w fun e w' => e = .returned (.bool (cellOk ⟨c_R, ⟨c_A_Fg, c_A_Bg, c_A_Bold, c_A_Under, c_A_Turn⟩⟩)) ∧ St w [] [] w' := by
  refine enter (vs := [.agg #[i64 c_R, i64 c_A_Fg, i64 c_A_Bg, .bool c_A_Bold, .bool c_A_Under, .bool c_A_Turn]]) 11 Try.func54 rfl Try.ntmps54 rfl rfl ?_
  have hs1 := St.init w
  refine WC.seq (fun K2 hK2 => ?_)
  refine WC.region ?_
  refine WL.box hs1 rfl rfl rfl rfl rfl rfl (fun b3 whs4 hs4 => ?_)
  refine WL.val rfl rfl rfl (Run.assign rfl rfl) ?_
  refine WL.nil ?_
  refine tkN ?_
  refine hK2 _ _ ?_
  clear hK2
  refine WC.seq (fun K5 hK5 => ?_)
  refine WC.region ?_
  refine WL.val rfl rfl rfl (Run.field Try.runUnderlying81 rfl rfl rfl Try.sizeOf3 rfl) ?_
  refine WL.val rfl rfl rfl (Run.loadL hs4 0 Try.isAgg3 rfl rfl rfl rfl) ?_
  refine WL.call rfl rfl rfl (Run.call Try.call93 rfl rfl rfl) (c_spec_Shows _ _) ?_
  rintro _ whs6 ⟨rfl, hs6⟩
  replace hs6 := hs4.call0 hs6
  refine ⟨_, rfl, ?_⟩
  refine WL.val rfl rfl rfl (Run.move rfl rfl) ?_
  apply WL.meetAnd 4 6 10 [(0, _), (1, _), (2, _)] rfl hs6
  · intro g7 J8
    have qg7 := g7
    try simp only [decide_eq_true_eq, decide_eq_false_iff_not, Bool.not_eq_true', Bool.not_eq_false'] at qg7
    refine WL.val (wantT rfl g7) rfl rfl (Run.field Try.runUnderlying81 rfl rfl rfl Try.sizeOf57 rfl) ?_
    refine WL.val (wantT rfl g7) rfl rfl (Run.loadLA hs6 0 Try.isAgg57 Try.sizeOf57 rfl rfl rfl rfl rfl) ?_
    refine WL.call (wantT rfl g7) rfl rfl (Run.call Try.call94 rfl rfl rfl) (c_spec_AttrOk _ _ _ _ _ _) ?_
    rintro _ whs9 ⟨rfl, hs9⟩
    replace hs9 := hs6.call0 hs9
    refine ⟨_, rfl, ?_⟩
    refine WL.val rfl rfl rfl (Run.pickT rfl rfl g7 rfl) ?_
    exact WL.fin J8 hs9 rfl (andT g7) ⟨rfl, rfl, rfl, trivial⟩
  · intro g7 J8
    refine WL.skip (wantNT rfl g7) rfl rfl ?_
    refine WL.skip (wantNT rfl g7) rfl rfl ?_
    refine WL.skip (wantNT rfl g7) rfl rfl ?_
    refine WL.val rfl rfl rfl (Run.pickF rfl rfl g7 rfl) ?_
    exact WL.fin J8 hs6 rfl (andF g7) ⟨rfl, rfl, rfl, trivial⟩
  · intro whs10 hs10
    refine WL.val rfl rfl rfl (Run.assign rfl rfl) ?_
    refine WL.nil ?_
    refine tkN ?_
    refine hK5 _ _ ?_
    clear hK5
    refine WC.ret ?_
    refine retV1 rfl (resV.tmp rfl) ?_
    refine ⟨congrArg Ending.returned ?_, hs10.nil⟩
    rfl
theorem c_impl_areCells_1 (c_R : Int) (c_A_Fg : Int) (c_A_Bg : Int) (c_A_Bold : Bool) (c_A_Under : Bool) (c_A_Turn : Bool) (w : World) :
    Calls Try.prog 98 #[.agg #[i64 c_R, i64 c_A_Fg, i64 c_A_Bg, .bool c_A_Bold, .bool c_A_Under, .bool c_A_Turn]] w fun e w' => e = .returned (.bool (!cellOk ⟨c_R, ⟨c_A_Fg, c_A_Bg, c_A_Bold, c_A_Under, c_A_Turn⟩⟩)) ∧ St w [] [] w' := by
  refine enter (vs := [.agg #[i64 c_R, i64 c_A_Fg, i64 c_A_Bg, .bool c_A_Bold, .bool c_A_Under, .bool c_A_Turn]]) 6 Try.func98 rfl Try.ntmps98 rfl rfl ?_
  have hs1 := St.init w
  refine WC.seq (fun K2 hK2 => ?_)
  refine WC.region ?_
  refine WL.box hs1 rfl rfl rfl rfl rfl rfl (fun b3 whs4 hs4 => ?_)
  refine WL.val rfl rfl rfl (Run.assign rfl rfl) ?_
  refine WL.nil ?_
  refine tkN ?_
  refine hK2 _ _ ?_
  clear hK2
  refine WC.seq (fun K5 hK5 => ?_)
  refine WC.region ?_
  refine WL.val rfl rfl rfl (Run.loadLA hs4 0 Try.isAgg81 Try.sizeOf81 rfl rfl rfl rfl rfl) ?_
  refine WL.call rfl rfl rfl (Run.call Try.call69 rfl rfl rfl) (c_impl_CellOk _ _ _ _ _ _ _) ?_
  rintro _ whs6 ⟨rfl, hs6⟩
  replace hs6 := hs4.call0 hs6
  refine ⟨_, rfl, ?_⟩
  refine WL.val rfl rfl rfl (Run.not rfl rfl) ?_
  refine WL.val rfl rfl rfl (Run.assign rfl rfl) ?_
  refine WL.nil ?_
  refine tkN ?_
  refine hK5 _ _ ?_
  clear hK5
  refine WC.ret ?_
  refine retV1 rfl (resV.tmp rfl) ?_
  refine ⟨congrArg Ending.returned ?_, hs6.nil⟩
  rfl
theorem c_slices_IndexFunc_impl_Cell_impl_Cell (A_s : Option Addr) (n_s c_s : Nat) (s : List CellD) (w : World) (f_s : SlF encCell w A_s n_s s) (hn : n_s ≤ 1099511627776) :
    Calls Try.prog 127 #[.slice A_s n_s c_s, .func (.func 98) #[] #[]] w fun e w' => e = .returned (.int .i64 (findI (fun c => !cellOk c) s)) ∧ St w [] [] w' := by
  refine enter (vs := [.slice A_s n_s c_s, .func (.func 98) #[] #[]]) 19 Try.func127 rfl Try.ntmps127 rfl rfl ?_
  have hs1 := St.init w
  refine WC.seq (fun K2 hK2 => ?_)
  refine WC.region ?_
  refine WL.val rfl rfl rfl (Run.assign rfl rfl) ?_
  refine WL.nil ?_
  refine tkN ?_
  refine hK2 _ _ ?_
  clear hK2
  refine WC.seq (fun K3 hK3 => ?_)
  refine WC.seq (fun K4 hK4 => ?_)
  refine WC.region ?_
  refine WL.val rfl rfl rfl (Run.move rfl rfl) ?_
  refine WL.val rfl rfl rfl (Run.lenSl Try.runUnderlying35 rfl rfl) ?_
  refine WL.val rfl rfl rfl (Run.move rfl rfl) ?_
  refine WL.nil ?_
  refine tkN ?_
  refine hK4 _ _ ?_
  clear hK4
  refine WC.block ?_
  refine WC.loopS [(0, _), (1, _), (6, _), (7, _)] ⟨rfl, rfl, rfl, rfl, trivial⟩ hs1 (fun k_ f w' => ∃ (i : Nat), k_ = n_s - i ∧ (i ≤ n_s) ∧ (∀ j, j < i → (fun c => !cellOk c) (gat encCell s j) = false) ∧ Sub [(8, .int .i64 i)] f) ((fun (i : Nat) => n_s - i) (0)) ?_ ?_
  · refine ⟨0, rfl, ?_, ?_, ⟨rfl, trivial⟩⟩
    · exact Nat.zero_le _
    · exact fun j hj => absurd hj (by omega)
  · clear hs1
    rintro _ f w ⟨i, rfl, p0, p1, hG⟩ hF hs5
    refine WC.sub _ (hG.app hF) ?_
    clear hG hF
    refine WC.seq (fun K6 hK6 => ?_)
    refine WC.region ?_
    refine WL.val rfl rfl rfl (Run.lss rfl rfl rfl) ?_
    refine WL.nil ?_
    refine tkN ?_
    refine hK6 _ _ ?_
    clear hK6
    refine WC.seq (fun K7 hK7 => ?_)
    refine WC.cond rfl (fun h8 => ?_) (fun h8 => ?_)
    · have qh8 := h8
      try simp only [decide_eq_true_eq, decide_eq_false_iff_not] at qh8
      refine WC.skip ?_
      refine tkN ?_
      refine hK7 _ _ ?_
      clear hK7
      refine WC.seq (fun K9 hK9 => ?_)
      refine WC.block ?_
      refine WC.seq (fun K10 hK10 => ?_)
      refine WC.region ?_
      refine WL.val rfl rfl rfl (Run.move rfl rfl) ?_
      refine WL.val rfl rfl rfl (Run.assign rfl rfl) ?_
      refine WL.nil ?_
      refine tkN ?_
      refine hK10 _ _ ?_
      clear hK10
      refine WC.seq (fun K11 hK11 => ?_)
      refine WC.region ?_
      refine WL.val rfl rfl rfl (Run.move rfl rfl) ?_
      refine WL.val rfl rfl rfl (Run.move rfl rfl) ?_
      refine WL.val rfl rfl rfl (Run.move rfl rfl) ?_
      refine WL.val rfl rfl rfl (Run.idxN Try.runUnderlying35 Try.sizeOf81 rfl rfl rfl ?_ ?_ ?_) ?_
      · exact SlF.some_ (SlF.st0 f_s hs5)
      · omega
      · omega
      refine WL.val rfl rfl rfl (Run.loadA Try.isAgg81 Try.sizeOf81 rfl rfl (SlF.whole (SlF.st0 f_s hs5) ?_)) ?_
      · omega
      refine WL.call rfl rfl rfl (Run.call Try.call98 rfl rfl rfl) (c_impl_areCells_1 _ _ _ _ _ _ _) ?_
      rintro _ whs12 ⟨rfl, hs12⟩
      replace hs12 := hs5.call0 hs12
      refine ⟨_, rfl, ?_⟩
      refine WL.nil ?_
      refine tkN ?_
      refine hK11 _ _ ?_
      clear hK11
      refine WC.cond rfl (fun h13 => ?_) (fun h13 => ?_)
      · have qh13 := h13
        try simp only [decide_eq_true_eq, decide_eq_false_iff_not] at qh13
        refine WC.seq (fun K14 hK14 => ?_)
        refine WC.region ?_
        refine WL.val rfl rfl rfl (Run.move rfl rfl) ?_
        refine WL.val rfl rfl rfl (Run.assign rfl rfl) ?_
        refine WL.nil ?_
        refine tkN ?_
        refine hK14 _ _ ?_
        clear hK14
        refine WC.ret ?_
        refine ibR ?_
        refine tkR ?_
        refine tkR ?_
        refine ibR ?_
        refine tkR ?_
        clear hK9 hK3
        refine retV1 rfl (resV.tmp rfl) ?_
        refine ⟨congrArg Ending.returned ?_, hs12.nil⟩
        rw [findI_some (F := encCell) (by rw [f_s.len]; omega) p1 h13]
      · have qh13 := h13
        try simp only [decide_eq_true_eq, decide_eq_false_iff_not] at qh13
        refine WC.skip ?_
        refine ibN ?_
        refine tkN ?_
        refine hK9 _ _ ?_
        clear hK9
        refine WC.region ?_
        refine WL.val rfl rfl rfl (Run.add rfl rfl rfl ?_) ?_
        · constructor <;> omega
        refine WL.val rfl rfl rfl (Run.move rfl rfl) ?_
        refine WL.nil ?_
        refine tkN ?_
        refine ⟨⟨rfl, rfl, rfl, rfl, trivial⟩, hs12, _, ?_, i + 1, rfl, ?_, ?_, ⟨rfl, trivial⟩⟩
        · omega
        · omega
        · intro j hj; rcases Nat.lt_or_ge j i with h_ | h_
          · exact p1 j h_
          · obtain rfl : j = i := by omega
            exact h13
    · have qh8 := h8
      try simp only [decide_eq_true_eq, decide_eq_false_iff_not] at qh8
      refine WC.exit ?_
      refine tkE ?_
      refine tkE ?_
      refine ibE ?_
      refine tkN ?_
      refine hK3 _ _ ?_
      clear hK3
      refine WC.seq (fun K15 hK15 => ?_)
      refine WC.region ?_
      refine WL.val rfl rfl rfl (Run.assign rfl rfl) ?_
      refine WL.nil ?_
      refine tkN ?_
      refine hK15 _ _ ?_
      clear hK15
      refine WC.ret ?_
      refine retV1 rfl (resV.tmp rfl) ?_
      refine ⟨congrArg Ending.returned ?_, hs5.nil⟩
      rw [findI_none (F := encCell) (fun j hj => p1 j (by rw [f_s.len] at hj; omega))]
theorem c_slices_ContainsFunc_impl_Cell_impl_Cell (A_s : Option Addr) (n_s c_s : Nat) (s : List CellD) (w : World) (f_s : SlF encCell w A_s n_s s) (hn : n_s ≤ 1099511627776) :
    Calls Try.prog 97 #[.slice A_s n_s c_s, .func (.func 98) #[] #[]] w fun e w' => e = .returned (.bool (decide (0 ≤ findI (fun c => !cellOk c) s))) ∧ St w [] [] w' := by
  refine enter (vs := [.slice A_s n_s c_s, .func (.func 98) #[] #[]]) 9 Try.func97 rfl Try.ntmps97 rfl rfl ?_
  have hs1 := St.init w
  refine WC.seq (fun K2 hK2 => ?_)
  refine WC.region ?_
  refine WL.val rfl rfl rfl (Run.assign rfl rfl) ?_
  refine WL.nil ?_
  refine tkN ?_
  refine hK2 _ _ ?_
  clear hK2
  refine WC.seq (fun K3 hK3 => ?_)
  refine WC.region ?_
  refine WL.val rfl rfl rfl (Run.move rfl rfl) ?_
  refine WL.val rfl rfl rfl (Run.move rfl rfl) ?_
  refine WL.call rfl rfl rfl (Run.call Try.call127 rfl rfl rfl) (c_slices_IndexFunc_impl_Cell_impl_Cell _ _ _ _ _ (SlF.st0 f_s hs1) ?_) ?_
  · first | assumption | rfl | omega
  rintro _ whs4 ⟨rfl, hs4⟩
  replace hs4 := hs1.call0 hs4
  refine ⟨_, rfl, ?_⟩
  refine WL.val rfl rfl rfl (Run.geq rfl rfl rfl) ?_
  refine WL.val rfl rfl rfl (Run.assign rfl rfl) ?_
  refine WL.nil ?_
  refine tkN ?_
  refine hK3 _ _ ?_
  clear hK3
  refine WC.ret ?_
  refine retV1 rfl (resV.tmp rfl) ?_
  refine ⟨congrArg Ending.returned ?_, hs4.nil⟩
  rfl
theorem c_impl_areCells (A_l : Option Addr) (n_l c_l : Nat) (l : List CellD) (w : World) (f_l : SlF encCell w A_l n_l l) (hn : n_l ≤ 1099511627776) :
    Calls Try.prog 58 #[.slice A_l n_l c_l] w fun e w' => e = .returned (.bool (cellsOk l)) ∧ St w [] [] w' := by
  refine enter (vs := [.slice A_l n_l c_l]) 6 Try.func58 rfl Try.ntmps58 rfl rfl ?_
  have hs1 := St.init w
  refine WC.seq (fun K2 hK2 => ?_)
  refine WC.region ?_
  refine WL.val rfl rfl rfl (Run.assign rfl rfl) ?_
  refine WL.nil ?_
  refine tkN ?_
  refine hK2 _ _ ?_
  clear hK2
  refine WC.seq (fun K3 hK3 => ?_)
  refine WC.region ?_
  refine WL.val rfl rfl rfl (Run.move rfl rfl) ?_
  refine WL.call rfl rfl rfl (Run.call Try.call97 rfl rfl rfl) (c_slices_ContainsFunc_impl_Cell_impl_Cell _ _ _ _ _ (SlF.st0 f_l hs1) ?_) ?_
  · first | assumption | rfl | omega
  rintro _ whs4 ⟨rfl, hs4⟩
  replace hs4 := hs1.call0 hs4
  refine ⟨_, rfl, ?_⟩
  refine WL.val rfl rfl rfl (Run.not rfl rfl) ?_
  refine WL.val rfl rfl rfl (Run.assign rfl rfl) ?_
  refine WL.nil ?_
  refine tkN ?_
  refine hK3 _ _ ?_
  clear hK3
  refine WC.ret ?_
  refine retV1 rfl (resV.tmp rfl) ?_
  refine ⟨congrArg Ending.returned ?_, hs4.nil⟩
  rw [cellsOk_find]
end Go.Proofs.Ytpiimkfonlijdaa
