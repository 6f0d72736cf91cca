/- Walks of Go functions, printed by a program (wip/gen). -/
import Derived.Test.YtghcicggamkjgaaQ3
namespace Go.Proofs.Ytghcicggamkjgaa
open Go Go.RowKit
set_option linter.unusedVariables false
set_option linter.unusedSimpArgs false
set_option maxHeartbeats 4000000 in
theorem c_laws_FnExactGrow (A_t : Option Addr) (n_t c_t : Nat) (t : List NodeD) (p : Int) (down : Bool) (by_ : Int) (w_ : Int) (h_ : Int) (w : World) (f_t : SlF encNode w A_t n_t t) (h1 : n_t ≤ 9223372036854775807) :
    Calls Try.prog 14 #[.slice A_t n_t c_t, i64 p, .bool down, i64 by_, i64 w_, i64 h_] w fun e w' => e = .returned (.bool true) ∧ St w [] [] w' := by
  have hl := f_t.len
  have hol := growL_len t p down by_ w_ h_
  refine enter (vs := [.slice A_t n_t c_t, i64 p, .bool down, i64 by_, i64 w_, i64 h_]) 121 Try.func14 rfl Try.ntmps14 rfl rfl ?_
  have hs1 := St.init w
  refine WC.seq (fun K2 hK2 => ?_)
  refine WC.region ?_
  refine WL.val rfl rfl rfl (Run.assign rfl rfl) ?_
  refine WL.nil ?_
  refine tkN ?_
  refine hK2 _ _ ?_
  clear hK2
  refine WC.seq (fun K3 hK3 => ?_)
  refine WC.region ?_
  refine WL.val rfl rfl rfl (Run.assign rfl rfl) ?_
  refine WL.nil ?_
  refine tkN ?_
  refine hK3 _ _ ?_
  clear hK3
  refine WC.seq (fun K4 hK4 => ?_)
  refine WC.region ?_
  refine WL.val rfl rfl rfl (Run.move rfl rfl) ?_
  refine WL.val rfl rfl rfl (Run.move rfl rfl) ?_
  refine WL.call rfl rfl rfl (Run.call Try.call17 rfl rfl rfl) (c_laws_szNodeS _ _ _ _ _ _ (SlF.st0 f_t hs1) ?_ ?_ ?_) ?_
  · first | assumption | rfl | omega
  · first | assumption | rfl | omega
  · first | assumption | rfl | omega
  rintro _ whs5 ⟨rfl, hs5⟩
  replace hs5 := hs1.call0 hs5
  refine ⟨_, rfl, ?_⟩
  refine WL.val rfl rfl rfl (Run.assign rfl rfl) ?_
  refine WL.nil ?_
  refine tkN ?_
  refine hK4 _ _ ?_
  clear hK4
  refine WC.seq (fun K6 hK6 => ?_)
  refine WC.seq (fun K7 hK7 => ?_)
  refine WC.region ?_
  refine WL.val rfl rfl rfl (Run.move rfl rfl) ?_
  refine WL.val rfl rfl rfl (Run.lss rfl rfl rfl) ?_
  refine WL.nil ?_
  refine tkN ?_
  refine hK7 _ _ ?_
  clear hK7
  refine WC.cond rfl (fun h8 => ?_) (fun h8 => ?_)
  · have qh8 := h8
    try simp only [decide_eq_true_eq, decide_eq_false_iff_not, Bool.not_eq_true', Bool.not_eq_false', Bool.and_eq_true, Bool.or_eq_false_iff, within_iff, within_not] at qh8
    refine WC.seq (fun K9 hK9 => ?_)
    refine WC.region ?_
    refine WL.val rfl rfl rfl (Run.assign rfl rfl) ?_
    refine WL.nil ?_
    refine tkN ?_
    refine hK9 _ _ ?_
    clear hK9
    refine WC.ret ?_
    refine tkR ?_
    clear hK6
    refine retV1 rfl (resV.tmp rfl) ?_
    refine ⟨congrArg Ending.returned ?_, hs5.nil⟩
    rfl
  · have qh8 := h8
    try simp only [decide_eq_true_eq, decide_eq_false_iff_not, Bool.not_eq_true', Bool.not_eq_false', Bool.and_eq_true, Bool.or_eq_false_iff, within_iff, within_not] at qh8
    simp only [szR] at qh8
    have hb : n_t ≤ 1048576 := by split at qh8 <;> omega
    refine WC.skip ?_
    refine tkN ?_
    refine hK6 _ _ ?_
    clear hK6
    refine WC.seq (fun K10 hK10 => ?_)
    refine WC.region ?_
    refine WL.val rfl rfl rfl (Run.move rfl rfl) ?_
    refine WL.call rfl rfl rfl (Run.call Try.call19 rfl rfl rfl) (c_laws_toNodeS _ _ _ _ _ (SlF.st0 f_t hs5) ?_) ?_
    · first | assumption | rfl | omega
    rintro _ whs11 ⟨A12, c13, L114, rfl, hs11, ho15⟩
    replace hs11 := hs5.callF hs11
    refine ⟨_, rfl, ?_⟩
    refine WL.val rfl rfl rfl (Run.move rfl rfl) ?_
    refine WL.val rfl rfl rfl (Run.move rfl rfl) ?_
    refine WL.val rfl rfl rfl (Run.move rfl rfl) ?_
    refine WL.val rfl rfl rfl (Run.move rfl rfl) ?_
    refine WL.val rfl rfl rfl (Run.move rfl rfl) ?_
    refine WL.call rfl rfl rfl (Run.call Try.call48 rfl rfl rfl) (c_spec_Grow _ _ _ _ _ _ _ _ _ _ (SlF.ofOwn ho15 (fun p_ hp_ => (hs11.own p_ (List.mem_append_left _ hp_)).1)) ?_) ?_
    · first | assumption | rfl | omega
    rintro _ whs16 ⟨A17, c18, L119, rfl, hs16, ho20⟩
    replace hs16 := hs11.callF hs16
    refine ⟨_, rfl, ?_⟩
    refine WL.val rfl rfl rfl (Run.move rfl rfl) ?_
    refine WL.val rfl rfl rfl (Run.extract rfl rfl rfl) ?_
    refine WL.val rfl rfl rfl (Run.extract rfl rfl rfl) ?_
    refine WL.val rfl rfl rfl (Run.assign rfl rfl) ?_
    refine WL.val rfl rfl rfl (Run.assign rfl rfl) ?_
    refine WL.nil ?_
    refine tkN ?_
    refine hK10 _ _ ?_
    clear hK10
    refine WC.seq (fun K21 hK21 => ?_)
    refine WC.region ?_
    refine WL.val rfl rfl rfl (Run.move rfl rfl) ?_
    refine WL.call rfl rfl rfl (Run.call Try.call19 rfl rfl rfl) (c_laws_toNodeS _ _ _ _ _ (SlF.st0 f_t hs16) ?_) ?_
    · first | assumption | rfl | omega
    rintro _ whs22 ⟨A23, c24, L125, rfl, hs22, ho26⟩
    replace hs22 := hs16.callF hs22
    refine ⟨_, rfl, ?_⟩
    refine WL.val rfl rfl rfl (Run.assign rfl rfl) ?_
    refine WL.nil ?_
    refine tkN ?_
    refine hK21 _ _ ?_
    clear hK21
    refine WC.seq (fun K27 hK27 => ?_)
    refine WC.region ?_
    refine WL.val rfl rfl rfl (Run.move rfl rfl) ?_
    refine WL.val rfl rfl rfl (Run.move rfl rfl) ?_
    refine WL.val rfl rfl rfl (Run.move rfl rfl) ?_
    refine WL.val rfl rfl rfl (Run.move rfl rfl) ?_
    refine WL.val rfl rfl rfl (Run.move rfl rfl) ?_
    refine WL.val rfl rfl rfl (Run.move rfl rfl) ?_
    refine WL.call rfl rfl rfl (Run.call Try.call49 rfl rfl rfl) (c_impl_Grow _ _ _ _ _ _ _ _ _ _ (SlF.ofOwn ho26 (fun p_ hp_ => (hs22.own p_ (List.mem_append_left _ hp_)).1)) ?_) ?_
    · first | assumption | rfl | omega
    rintro _ whs28 ⟨A29, c30, L131, rfl, hs28, ho32⟩
    replace hs28 := hs22.callF hs28
    refine ⟨_, rfl, ?_⟩
    refine WL.val rfl rfl rfl (Run.move rfl rfl) ?_
    refine WL.val rfl rfl rfl (Run.extract rfl rfl rfl) ?_
    refine WL.val rfl rfl rfl (Run.extract rfl rfl rfl) ?_
    refine WL.val rfl rfl rfl (Run.assign rfl rfl) ?_
    refine WL.val rfl rfl rfl (Run.assign rfl rfl) ?_
    refine WL.nil ?_
    refine tkN ?_
    refine hK27 _ _ ?_
    clear hK27
    refine WC.seq (fun K33 hK33 => ?_)
    refine WC.seq (fun K34 hK34 => ?_)
    refine WC.region ?_
    refine WL.val rfl rfl rfl (Run.move rfl rfl) ?_
    refine WL.val rfl rfl rfl (Run.move rfl rfl) ?_
    refine WL.call rfl rfl rfl (Run.call Try.call21 rfl rfl rfl) (c_laws_eqNodeS _ _ _ _ _ _ _ _ _ (SlF.ofOwn ho32 (fun p_ hp_ => (hs28.own p_ (List.mem_append_left _ hp_)).1)) (SlF.ofOwn ho20 (fun p_ hp_ => (hs28.own p_ (List.mem_append_right _ (List.mem_append_right _ (List.mem_append_left _ hp_)))).1)) ?_ ?_) ?_
    · first | assumption | rfl | omega
    · first | assumption | rfl | omega
    rintro _ whs35 ⟨rfl, hs35⟩
    replace hs35 := hs28.call0 hs35
    refine ⟨_, rfl, ?_⟩
    refine WL.val rfl rfl rfl (Run.not rfl rfl) ?_
    refine WL.val rfl rfl rfl (Run.move rfl rfl) ?_
    apply WL.meetOr 4 56 60 [(0, _), (1, _), (2, _), (3, _), (4, _), (5, _), (12, _), (13, _), (14, _), (15, _), (16, _), (17, _), (18, _), (24, _), (25, _), (26, _), (27, _), (28, _), (29, _), (30, _), (31, _), (32, _), (33, _), (34, _), (35, _), (36, _), (37, _), (38, _), (39, _), (40, _), (41, _), (42, _), (43, _), (44, _), (45, _), (46, _), (47, _), (48, _), (49, _), (50, _), (51, _)] rfl hs35
    · intro g36 J37
      have qg36 := g36
      try simp only [decide_eq_true_eq, decide_eq_false_iff_not, Bool.not_eq_true', Bool.not_eq_false'] at qg36
      refine WL.val (wantF rfl g36) rfl rfl (Run.move rfl rfl) ?_
      refine WL.val (wantF rfl g36) rfl rfl (Run.move rfl rfl) ?_
      refine WL.val (wantF rfl g36) rfl rfl (Run.neqB Try.runUnderlying4 rfl rfl rfl) ?_
      refine WL.val rfl rfl rfl (Run.pickF rfl rfl g36 rfl) ?_
      exact WL.fin J37 hs35 rfl (orF g36) ⟨rfl, rfl, rfl, rfl, rfl, rfl, rfl, rfl, rfl, rfl, rfl, rfl, rfl, rfl, rfl, rfl, rfl, rfl, rfl, rfl, rfl, rfl, rfl, rfl, rfl, rfl, rfl, rfl, rfl, rfl, rfl, rfl, rfl, rfl, rfl, rfl, rfl, rfl, rfl, rfl, rfl, trivial⟩
    · intro g36 J37
      refine WL.skip (wantNF rfl g36) rfl rfl ?_
      refine WL.skip (wantNF rfl g36) rfl rfl ?_
      refine WL.skip (wantNF rfl g36) rfl rfl ?_
      refine WL.val rfl rfl rfl (Run.pickT rfl rfl g36 rfl) ?_
      exact WL.fin J37 hs35 rfl (orT g36) ⟨rfl, rfl, rfl, rfl, rfl, rfl, rfl, rfl, rfl, rfl, rfl, rfl, rfl, rfl, rfl, rfl, rfl, rfl, rfl, rfl, rfl, rfl, rfl, rfl, rfl, rfl, rfl, rfl, rfl, rfl, rfl, rfl, rfl, rfl, rfl, rfl, rfl, rfl, rfl, rfl, rfl, trivial⟩
    · intro whs38 hs38
      refine WL.nil ?_
      refine tkN ?_
      refine hK34 _ _ ?_
      clear hK34
      refine WC.condF rfl (by first | (simp; done) | (simp; omega)) ?_
      refine WC.skip ?_
      refine tkN ?_
      refine hK33 _ _ ?_
      clear hK33
      refine WC.seq (fun K40 hK40 => ?_)
      refine WC.seq (fun K41 hK41 => ?_)
      refine WC.region ?_
      refine WL.val rfl rfl rfl (Run.move rfl rfl) ?_
      refine WL.val rfl rfl rfl (Run.move rfl rfl) ?_
      refine WL.call rfl rfl rfl (Run.call Try.call19 rfl rfl rfl) (c_laws_toNodeS _ _ _ _ _ (SlF.st0 f_t hs38) ?_) ?_
      · first | assumption | rfl | omega
      rintro _ whs42 ⟨A43, c44, L145, rfl, hs42, ho46⟩
      replace hs42 := hs38.callF hs42
      refine ⟨_, rfl, ?_⟩
      refine WL.call rfl rfl rfl (Run.call Try.call21 rfl rfl rfl) (c_laws_eqNodeS _ _ _ _ _ _ _ _ _ (SlF.ofOwn ho26 (fun p_ hp_ => (hs42.own p_ (List.mem_append_right _ (List.mem_append_right _ (List.mem_append_left _ hp_)))).1)) (SlF.ofOwn ho46 (fun p_ hp_ => (hs42.own p_ (List.mem_append_left _ hp_)).1)) ?_ ?_) ?_
      · first | assumption | rfl | omega
      · first | assumption | rfl | omega
      rintro _ whs47 ⟨rfl, hs47⟩
      replace hs47 := hs42.call0 hs47
      refine ⟨_, rfl, ?_⟩
      refine WL.val rfl rfl rfl (Run.not rfl rfl) ?_
      refine WL.nil ?_
      refine tkN ?_
      refine hK41 _ _ ?_
      clear hK41
      refine WC.condF rfl (by first | (simp; done) | (simp; omega)) ?_
      refine WC.skip ?_
      refine tkN ?_
      refine hK40 _ _ ?_
      clear hK40
      refine WC.seq (fun K49 hK49 => ?_)
      refine WC.region ?_
      refine WL.val rfl rfl rfl (Run.assign rfl rfl) ?_
      refine WL.nil ?_
      refine tkN ?_
      refine hK49 _ _ ?_
      clear hK49
      refine WC.seq (fun K50 hK50 => ?_)
      refine WC.region ?_
      refine WL.val rfl rfl rfl (Run.move rfl rfl) ?_
      refine WL.val rfl rfl rfl (Run.move rfl rfl) ?_
      refine WL.call rfl rfl rfl (Run.call Try.call27 rfl rfl rfl) (c_laws_markNodeS _ _ _ _ _ ho26 (fun p_ hp_ => (hs47.own p_ (List.mem_append_right _ (List.mem_append_right _ (List.mem_append_left _ hp_)))).1) ?_ ?_ ?_) ?_
      · first | assumption | rfl | omega
      · first | assumption | rfl | omega
      · first | assumption | rfl | omega
      rintro _ whs51 ⟨L152, rfl, hs51, ho53⟩
      replace hs51 := St.lend (St.perm hs47 (L' := L125 ++ _) (perm_front (A := L145) (perm_front (A := L131) (List.Perm.refl _)))) hs51
      refine ⟨_, rfl, ?_⟩
      refine WL.val rfl rfl rfl (Run.assign rfl rfl) ?_
      refine WL.nil ?_
      refine tkN ?_
      refine hK50 _ _ ?_
      clear hK50
      refine WC.seq (fun K54 hK54 => ?_)
      refine WC.seq (fun K55 hK55 => ?_)
      refine WC.region ?_
      refine WL.val rfl rfl rfl (Run.move rfl rfl) ?_
      refine WL.val rfl rfl rfl (Run.lss rfl rfl rfl) ?_
      refine WL.val rfl rfl rfl (Run.move rfl rfl) ?_
      apply WL.meetOr 5 71 76 [(0, _), (1, _), (2, _), (3, _), (4, _), (5, _), (12, _), (13, _), (14, _), (15, _), (16, _), (17, _), (18, _), (19, _), (24, _), (25, _), (26, _), (27, _), (28, _), (29, _), (30, _), (31, _), (32, _), (33, _), (34, _), (35, _), (36, _), (37, _), (38, _), (39, _), (40, _), (41, _), (42, _), (43, _), (44, _), (45, _), (46, _), (47, _), (48, _), (49, _), (50, _), (51, _), (60, _), (61, _), (62, _), (63, _), (64, _), (65, _), (66, _), (67, _), (68, _)] rfl hs51
      · intro g56 J57
        have qg56 := g56
        try simp only [decide_eq_true_eq, decide_eq_false_iff_not, Bool.not_eq_true', Bool.not_eq_false'] at qg56
        refine WL.val (wantF rfl g56) rfl rfl (Run.move rfl rfl) ?_
        refine WL.val (wantF rfl g56) rfl rfl (Run.move rfl rfl) ?_
        refine WL.call (wantF rfl g56) rfl rfl (Run.call Try.call21 rfl rfl rfl) (c_laws_eqNodeS _ _ _ _ _ _ _ _ _ (SlF.ofOwn ho32 (fun p_ hp_ => (hs51.own p_ (List.mem_append_right _ (List.mem_append_right _ (List.mem_append_left _ hp_)))).1)) (SlF.ofOwn ho20 (fun p_ hp_ => (hs51.own p_ (List.mem_append_right _ (List.mem_append_right _ (List.mem_append_right _ (List.mem_append_left _ hp_))))).1)) ?_ ?_) ?_
        · first | assumption | rfl | omega
        · first | assumption | rfl | omega
        rintro _ whs58 ⟨rfl, hs58⟩
        replace hs58 := hs51.call0 hs58
        refine ⟨_, rfl, ?_⟩
        refine WL.val (wantF rfl g56) rfl rfl (Run.not rfl rfl) ?_
        refine WL.val rfl rfl rfl (Run.pickF rfl rfl g56 rfl) ?_
        exact WL.fin J57 hs58 rfl (orF g56) ⟨rfl, rfl, rfl, rfl, rfl, rfl, rfl, rfl, rfl, rfl, rfl, rfl, rfl, rfl, rfl, rfl, rfl, rfl, rfl, rfl, rfl, rfl, rfl, rfl, rfl, rfl, rfl, rfl, rfl, rfl, rfl, rfl, rfl, rfl, rfl, rfl, rfl, rfl, rfl, rfl, rfl, rfl, rfl, rfl, rfl, rfl, rfl, rfl, rfl, rfl, rfl, trivial⟩
      · intro g56 J57
        refine WL.skip (wantNF rfl g56) rfl rfl ?_
        refine WL.skip (wantNF rfl g56) rfl rfl ?_
        refine WL.skip (wantNF rfl g56) rfl rfl ?_
        refine WL.skip (wantNF rfl g56) rfl rfl ?_
        refine WL.val rfl rfl rfl (Run.pickT rfl rfl g56 rfl) ?_
        exact WL.fin J57 hs51 rfl (orT g56) ⟨rfl, rfl, rfl, rfl, rfl, rfl, rfl, rfl, rfl, rfl, rfl, rfl, rfl, rfl, rfl, rfl, rfl, rfl, rfl, rfl, rfl, rfl, rfl, rfl, rfl, rfl, rfl, rfl, rfl, rfl, rfl, rfl, rfl, rfl, rfl, rfl, rfl, rfl, rfl, rfl, rfl, rfl, rfl, rfl, rfl, rfl, rfl, rfl, rfl, rfl, rfl, trivial⟩
      · intro whs59 hs59
        refine WL.val rfl rfl rfl (Run.move rfl rfl) ?_
        apply WL.meetOr 4 77 81 [(0, _), (1, _), (2, _), (3, _), (4, _), (5, _), (12, _), (13, _), (14, _), (15, _), (16, _), (17, _), (18, _), (19, _), (24, _), (25, _), (26, _), (27, _), (28, _), (29, _), (30, _), (31, _), (32, _), (33, _), (34, _), (35, _), (36, _), (37, _), (38, _), (39, _), (40, _), (41, _), (42, _), (43, _), (44, _), (45, _), (46, _), (47, _), (48, _), (49, _), (50, _), (51, _), (60, _), (61, _), (62, _), (63, _), (64, _), (65, _), (66, _), (67, _), (68, _)] rfl hs59
        · intro g60 J61
          have qg60 := g60
          try simp only [decide_eq_true_eq, decide_eq_false_iff_not, Bool.not_eq_true', Bool.not_eq_false'] at qg60
          refine WL.val (wantF rfl g60) rfl rfl (Run.move rfl rfl) ?_
          refine WL.val (wantF rfl g60) rfl rfl (Run.move rfl rfl) ?_
          refine WL.val (wantF rfl g60) rfl rfl (Run.neqB Try.runUnderlying4 rfl rfl rfl) ?_
          refine WL.val rfl rfl rfl (Run.pickF rfl rfl g60 rfl) ?_
          exact WL.fin J61 hs59 rfl (orF g60) ⟨rfl, rfl, rfl, rfl, rfl, rfl, rfl, rfl, rfl, rfl, rfl, rfl, rfl, rfl, rfl, rfl, rfl, rfl, rfl, rfl, rfl, rfl, rfl, rfl, rfl, rfl, rfl, rfl, rfl, rfl, rfl, rfl, rfl, rfl, rfl, rfl, rfl, rfl, rfl, rfl, rfl, rfl, rfl, rfl, rfl, rfl, rfl, rfl, rfl, rfl, rfl, trivial⟩
        · intro g60 J61
          refine WL.skip (wantNF rfl g60) rfl rfl ?_
          refine WL.skip (wantNF rfl g60) rfl rfl ?_
          refine WL.skip (wantNF rfl g60) rfl rfl ?_
          refine WL.val rfl rfl rfl (Run.pickT rfl rfl g60 rfl) ?_
          exact WL.fin J61 hs59 rfl (orT g60) ⟨rfl, rfl, rfl, rfl, rfl, rfl, rfl, rfl, rfl, rfl, rfl, rfl, rfl, rfl, rfl, rfl, rfl, rfl, rfl, rfl, rfl, rfl, rfl, rfl, rfl, rfl, rfl, rfl, rfl, rfl, rfl, rfl, rfl, rfl, rfl, rfl, rfl, rfl, rfl, rfl, rfl, rfl, rfl, rfl, rfl, rfl, rfl, rfl, rfl, rfl, rfl, trivial⟩
        · intro whs62 hs62
          refine WL.nil ?_
          refine tkN ?_
          refine hK55 _ _ ?_
          clear hK55
          refine WC.condF rfl (by first | (simp; done) | (simp; omega)) ?_
          refine WC.skip ?_
          refine tkN ?_
          refine hK54 _ _ ?_
          clear hK54
          refine WC.seq (fun K64 hK64 => ?_)
          refine WC.region ?_
          refine WL.val rfl rfl rfl (Run.assign rfl rfl) ?_
          refine WL.nil ?_
          refine tkN ?_
          refine hK64 _ _ ?_
          clear hK64
          refine WC.seq (fun K65 hK65 => ?_)
          refine WC.region ?_
          refine WL.val rfl rfl rfl (Run.move rfl rfl) ?_
          refine WL.val rfl rfl rfl (Run.move rfl rfl) ?_
          refine WL.call rfl rfl rfl (Run.call Try.call27 rfl rfl rfl) (c_laws_markNodeS _ _ _ _ _ ho32 (fun p_ hp_ => (hs62.own p_ (List.mem_append_right _ (List.mem_append_right _ (List.mem_append_left _ hp_)))).1) ?_ ?_ ?_) ?_
          · first | assumption | rfl | omega
          · first | assumption | rfl | omega
          · first | assumption | rfl | omega
          rintro _ whs66 ⟨L167, rfl, hs66, ho68⟩
          replace hs66 := St.lend (St.perm hs62 (L' := L131 ++ _) (perm_front (A := L152) (perm_front (A := L145) (List.Perm.refl _)))) hs66
          refine ⟨_, rfl, ?_⟩
          refine WL.val rfl rfl rfl (Run.assign rfl rfl) ?_
          refine WL.nil ?_
          refine tkN ?_
          refine hK65 _ _ ?_
          clear hK65
          refine WC.seq (fun K69 hK69 => ?_)
          refine WC.region ?_
          refine WL.val rfl rfl rfl (Run.assign rfl rfl) ?_
          refine WL.nil ?_
          refine tkN ?_
          refine hK69 _ _ ?_
          clear hK69
          refine WC.seq (fun K70 hK70 => ?_)
          refine WC.region ?_
          refine WL.val rfl rfl rfl (Run.move rfl rfl) ?_
          refine WL.val rfl rfl rfl (Run.move rfl rfl) ?_
          refine WL.call rfl rfl rfl (Run.call Try.call32 rfl rfl rfl) (c_laws_heldNodeS _ _ _ _ _ _ (SlF.ofOwn ho68 (fun p_ hp_ => (hs66.own p_ (List.mem_append_left _ hp_)).1)) ?_ ?_ ?_ ?_) ?_
          · first | assumption | rfl | omega
          · first | assumption | rfl | omega
          · first | assumption | rfl | omega
          · first | assumption | rfl | omega
          rintro _ whs71 ⟨rfl, hs71⟩
          replace hs71 := hs66.call0 hs71
          refine ⟨_, rfl, ?_⟩
          refine WL.val rfl rfl rfl (Run.assign rfl rfl) ?_
          refine WL.nil ?_
          refine tkN ?_
          refine hK70 _ _ ?_
          clear hK70
          refine WC.seq (fun K72 hK72 => ?_)
          refine WC.seq (fun K73 hK73 => ?_)
          refine WC.region ?_
          refine WL.val rfl rfl rfl (Run.move rfl rfl) ?_
          refine WL.val rfl rfl rfl (Run.lss rfl rfl rfl) ?_
          refine WL.nil ?_
          refine tkN ?_
          refine hK73 _ _ ?_
          clear hK73
          refine WC.condF rfl (by first | (simp; done) | (simp; omega)) ?_
          refine WC.skip ?_
          refine tkN ?_
          refine hK72 _ _ ?_
          clear hK72
          refine WC.seq (fun K75 hK75 => ?_)
          refine WC.seq (fun K76 hK76 => ?_)
          refine WC.region ?_
          refine WL.val rfl rfl rfl (Run.move rfl rfl) ?_
          refine WL.val rfl rfl rfl (Run.move rfl rfl) ?_
          refine WL.val rfl rfl rfl (Run.neq rfl rfl rfl) ?_
          refine WL.nil ?_
          refine tkN ?_
          refine hK76 _ _ ?_
          clear hK76
          refine WC.condF rfl (by first | (simp; done) | (simp; omega)) ?_
          refine WC.skip ?_
          refine tkN ?_
          refine hK75 _ _ ?_
          clear hK75
          refine WC.seq (fun K78 hK78 => ?_)
          refine WC.region ?_
          refine WL.val rfl rfl rfl (Run.move rfl rfl) ?_
          refine WL.call rfl rfl rfl (Run.call Try.call19 rfl rfl rfl) (c_laws_toNodeS _ _ _ _ _ (SlF.st0 f_t hs71) ?_) ?_
          · first | assumption | rfl | omega
          rintro _ whs79 ⟨A80, c81, L182, rfl, hs79, ho83⟩
          replace hs79 := hs71.callF hs79
          refine ⟨_, rfl, ?_⟩
          refine WL.val rfl rfl rfl (Run.move rfl rfl) ?_
          refine WL.val rfl rfl rfl (Run.move rfl rfl) ?_
          refine WL.val rfl rfl rfl (Run.move rfl rfl) ?_
          refine WL.val rfl rfl rfl (Run.move rfl rfl) ?_
          refine WL.val rfl rfl rfl (Run.move rfl rfl) ?_
          refine WL.call rfl rfl rfl (Run.call Try.call49 rfl rfl rfl) (c_impl_Grow _ _ _ _ _ _ _ _ _ _ (SlF.ofOwn ho83 (fun p_ hp_ => (hs79.own p_ (List.mem_append_left _ hp_)).1)) ?_) ?_
          · first | assumption | rfl | omega
          rintro _ whs84 ⟨A85, c86, L187, rfl, hs84, ho88⟩
          replace hs84 := hs79.callF hs84
          refine ⟨_, rfl, ?_⟩
          refine WL.val rfl rfl rfl (Run.move rfl rfl) ?_
          refine WL.val rfl rfl rfl (Run.extract rfl rfl rfl) ?_
          refine WL.val rfl rfl rfl (Run.extract rfl rfl rfl) ?_
          refine WL.val rfl rfl rfl (Run.assign rfl rfl) ?_
          refine WL.val rfl rfl rfl (Run.assign rfl rfl) ?_
          refine WL.nil ?_
          refine tkN ?_
          refine hK78 _ _ ?_
          clear hK78
          refine WC.seq (fun K89 hK89 => ?_)
          refine WC.seq (fun K90 hK90 => ?_)
          refine WC.region ?_
          refine WL.val rfl rfl rfl (Run.move rfl rfl) ?_
          refine WL.val rfl rfl rfl (Run.move rfl rfl) ?_
          refine WL.call rfl rfl rfl (Run.call Try.call21 rfl rfl rfl) (c_laws_eqNodeS _ _ _ _ _ _ _ _ _ (SlF.ofOwn ho88 (fun p_ hp_ => (hs84.own p_ (List.mem_append_left _ hp_)).1)) (SlF.ofOwn ho20 (fun p_ hp_ => (hs84.own p_ (List.mem_append_right _ (List.mem_append_right _ (List.mem_append_right _ (List.mem_append_right _ (List.mem_append_right _ (List.mem_append_left _ hp_))))))).1)) ?_ ?_) ?_
          · first | assumption | rfl | omega
          · first | assumption | rfl | omega
          rintro _ whs91 ⟨rfl, hs91⟩
          replace hs91 := hs84.call0 hs91
          refine ⟨_, rfl, ?_⟩
          refine WL.val rfl rfl rfl (Run.not rfl rfl) ?_
          refine WL.val rfl rfl rfl (Run.move rfl rfl) ?_
          apply WL.meetOr 4 108 112 [(0, _), (1, _), (2, _), (3, _), (4, _), (5, _), (12, _), (13, _), (14, _), (15, _), (16, _), (17, _), (18, _), (19, _), (20, _), (21, _), (22, _), (23, _), (24, _), (25, _), (26, _), (27, _), (28, _), (29, _), (30, _), (31, _), (32, _), (33, _), (34, _), (35, _), (36, _), (37, _), (38, _), (39, _), (40, _), (41, _), (42, _), (43, _), (44, _), (45, _), (46, _), (47, _), (48, _), (49, _), (50, _), (51, _), (60, _), (61, _), (62, _), (63, _), (64, _), (65, _), (66, _), (67, _), (68, _), (81, _), (82, _), (83, _), (84, _), (85, _), (86, _), (87, _), (88, _), (89, _), (90, _), (91, _), (92, _), (93, _), (94, _), (95, _), (96, _), (97, _), (98, _), (99, _), (100, _), (101, _), (102, _), (103, _)] rfl hs91
          · intro g92 J93
            have qg92 := g92
            try simp only [decide_eq_true_eq, decide_eq_false_iff_not, Bool.not_eq_true', Bool.not_eq_false'] at qg92
            refine WL.val (wantF rfl g92) rfl rfl (Run.move rfl rfl) ?_
            refine WL.val (wantF rfl g92) rfl rfl (Run.move rfl rfl) ?_
            refine WL.val (wantF rfl g92) rfl rfl (Run.neqB Try.runUnderlying4 rfl rfl rfl) ?_
            refine WL.val rfl rfl rfl (Run.pickF rfl rfl g92 rfl) ?_
            exact WL.fin J93 hs91 rfl (orF g92) ⟨rfl, rfl, rfl, rfl, rfl, rfl, rfl, rfl, rfl, rfl, rfl, rfl, rfl, rfl, rfl, rfl, rfl, rfl, rfl, rfl, rfl, rfl, rfl, rfl, rfl, rfl, rfl, rfl, rfl, rfl, rfl, rfl, rfl, rfl, rfl, rfl, rfl, rfl, rfl, rfl, rfl, rfl, rfl, rfl, rfl, rfl, rfl, rfl, rfl, rfl, rfl, rfl, rfl, rfl, rfl, rfl, rfl, rfl, rfl, rfl, rfl, rfl, rfl, rfl, rfl, rfl, rfl, rfl, rfl, rfl, rfl, rfl, rfl, rfl, rfl, rfl, rfl, rfl, trivial⟩
          · intro g92 J93
            refine WL.skip (wantNF rfl g92) rfl rfl ?_
            refine WL.skip (wantNF rfl g92) rfl rfl ?_
            refine WL.skip (wantNF rfl g92) rfl rfl ?_
            refine WL.val rfl rfl rfl (Run.pickT rfl rfl g92 rfl) ?_
            exact WL.fin J93 hs91 rfl (orT g92) ⟨rfl, rfl, rfl, rfl, rfl, rfl, rfl, rfl, rfl, rfl, rfl, rfl, rfl, rfl, rfl, rfl, rfl, rfl, rfl, rfl, rfl, rfl, rfl, rfl, rfl, rfl, rfl, rfl, rfl, rfl, rfl, rfl, rfl, rfl, rfl, rfl, rfl, rfl, rfl, rfl, rfl, rfl, rfl, rfl, rfl, rfl, rfl, rfl, rfl, rfl, rfl, rfl, rfl, rfl, rfl, rfl, rfl, rfl, rfl, rfl, rfl, rfl, rfl, rfl, rfl, rfl, rfl, rfl, rfl, rfl, rfl, rfl, rfl, rfl, rfl, rfl, rfl, rfl, trivial⟩
          · intro whs94 hs94
            refine WL.nil ?_
            refine tkN ?_
            refine hK90 _ _ ?_
            clear hK90
            refine WC.condF rfl (by first | (simp; done) | (simp; omega)) ?_
            refine WC.skip ?_
            refine tkN ?_
            refine hK89 _ _ ?_
            clear hK89
            refine WC.seq (fun K96 hK96 => ?_)
            refine WC.region ?_
            refine WL.val rfl rfl rfl (Run.assign rfl rfl) ?_
            refine WL.nil ?_
            refine tkN ?_
            refine hK96 _ _ ?_
            clear hK96
            refine WC.seq (fun K97 hK97 => ?_)
            refine WC.region ?_
            refine WL.val rfl rfl rfl (Run.move rfl rfl) ?_
            refine WL.val rfl rfl rfl (Run.move rfl rfl) ?_
            refine WL.call rfl rfl rfl (Run.call Try.call32 rfl rfl rfl) (c_laws_heldNodeS _ _ _ _ _ _ (SlF.ofOwn ho68 (fun p_ hp_ => (hs94.own p_ (List.mem_append_right _ (List.mem_append_right _ (List.mem_append_left _ hp_)))).1)) ?_ ?_ ?_ ?_) ?_
            · first | assumption | rfl | omega
            · first | assumption | rfl | omega
            · first | assumption | rfl | omega
            · first | assumption | rfl | omega
            rintro _ whs98 ⟨rfl, hs98⟩
            replace hs98 := hs94.call0 hs98
            refine ⟨_, rfl, ?_⟩
            refine WL.val rfl rfl rfl (Run.assign rfl rfl) ?_
            refine WL.nil ?_
            refine tkN ?_
            refine hK97 _ _ ?_
            clear hK97
            refine WC.seq (fun K99 hK99 => ?_)
            refine WC.seq (fun K100 hK100 => ?_)
            refine WC.region ?_
            refine WL.val rfl rfl rfl (Run.move rfl rfl) ?_
            refine WL.val rfl rfl rfl (Run.lss rfl rfl rfl) ?_
            refine WL.nil ?_
            refine tkN ?_
            refine hK100 _ _ ?_
            clear hK100
            refine WC.condF rfl (by first | (simp; done) | (simp; omega)) ?_
            refine WC.skip ?_
            refine tkN ?_
            refine hK99 _ _ ?_
            clear hK99
            refine WC.seq (fun K102 hK102 => ?_)
            refine WC.seq (fun K103 hK103 => ?_)
            refine WC.region ?_
            refine WL.val rfl rfl rfl (Run.move rfl rfl) ?_
            refine WL.val rfl rfl rfl (Run.move rfl rfl) ?_
            refine WL.val rfl rfl rfl (Run.neq rfl rfl rfl) ?_
            refine WL.nil ?_
            refine tkN ?_
            refine hK103 _ _ ?_
            clear hK103
            refine WC.condF rfl (by first | (simp; done) | (simp; omega)) ?_
            refine WC.skip ?_
            refine tkN ?_
            refine hK102 _ _ ?_
            clear hK102
            refine WC.seq (fun K105 hK105 => ?_)
            refine WC.region ?_
            refine WL.val rfl rfl rfl (Run.assign rfl rfl) ?_
            refine WL.nil ?_
            refine tkN ?_
            refine hK105 _ _ ?_
            clear hK105
            refine WC.ret ?_
            refine retV1 rfl (resV.tmp rfl) ?_
            refine ⟨congrArg Ending.returned ?_, hs98.nil⟩
            rfl
end Go.Proofs.Ytghcicggamkjgaa
