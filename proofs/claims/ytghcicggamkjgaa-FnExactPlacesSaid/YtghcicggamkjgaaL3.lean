/- Walks of Go functions, printed by a program (wip/gen). -/
import Derived.Test.YtghcicggamkjgaaP6
namespace Go.Proofs.Ytghcicggamkjgaa
open Go Go.RowKit
set_option linter.unusedVariables false
set_option linter.unusedSimpArgs false
set_option maxHeartbeats 4000000 in
theorem c_laws_FnExactPlaces (A_t : Option Addr) (n_t c_t : Nat) (t : List NodeD) (w_ : Int) (h_ : Int) (w : World) (f_t : SlF encNode w A_t n_t t) (h1 : n_t ≤ 9223372036854775807) :
    Calls Try.prog 11 #[.slice A_t n_t c_t, i64 w_, i64 h_] w fun e w' => e = .returned (.bool true) ∧ St w [] [] w' := by
  have hl := f_t.len
  have hol := placesL_len t w_ h_
  refine enter (vs := [.slice A_t n_t c_t, i64 w_, i64 h_]) 106 Try.func11 rfl Try.ntmps11 rfl rfl ?_
  have hs1 := St.init w
  refine WC.seq (fun K2 hK2 => ?_)
  refine WC.region ?_
  refine WL.val rfl rfl rfl (Run.assign rfl rfl) ?_
  refine WL.nil ?_
  refine tkN ?_
  refine hK2 _ _ ?_
  clear hK2
  refine WC.seq (fun K3 hK3 => ?_)
  refine WC.region ?_
  refine WL.val rfl rfl rfl (Run.assign rfl rfl) ?_
  refine WL.nil ?_
  refine tkN ?_
  refine hK3 _ _ ?_
  clear hK3
  refine WC.seq (fun K4 hK4 => ?_)
  refine WC.region ?_
  refine WL.val rfl rfl rfl (Run.move rfl rfl) ?_
  refine WL.val rfl rfl rfl (Run.move rfl rfl) ?_
  refine WL.call rfl rfl rfl (Run.call Try.call17 rfl rfl rfl) (c_laws_szNodeS _ _ _ _ _ _ (SlF.st0 f_t hs1) ?_ ?_ ?_) ?_
  · first | assumption | rfl | omega
  · first | assumption | rfl | omega
  · first | assumption | rfl | omega
  rintro _ whs5 ⟨rfl, hs5⟩
  replace hs5 := hs1.call0 hs5
  refine ⟨_, rfl, ?_⟩
  refine WL.val rfl rfl rfl (Run.assign rfl rfl) ?_
  refine WL.nil ?_
  refine tkN ?_
  refine hK4 _ _ ?_
  clear hK4
  refine WC.seq (fun K6 hK6 => ?_)
  refine WC.seq (fun K7 hK7 => ?_)
  refine WC.region ?_
  refine WL.val rfl rfl rfl (Run.move rfl rfl) ?_
  refine WL.val rfl rfl rfl (Run.lss rfl rfl rfl) ?_
  refine WL.nil ?_
  refine tkN ?_
  refine hK7 _ _ ?_
  clear hK7
  refine WC.cond rfl (fun h8 => ?_) (fun h8 => ?_)
  · have qh8 := h8
    try simp only [decide_eq_true_eq, decide_eq_false_iff_not, Bool.not_eq_true', Bool.not_eq_false', Bool.and_eq_true, Bool.or_eq_false_iff, within_iff, within_not] at qh8
    refine WC.seq (fun K9 hK9 => ?_)
    refine WC.region ?_
    refine WL.val rfl rfl rfl (Run.assign rfl rfl) ?_
    refine WL.nil ?_
    refine tkN ?_
    refine hK9 _ _ ?_
    clear hK9
    refine WC.ret ?_
    refine tkR ?_
    clear hK6
    refine retV1 rfl (resV.tmp rfl) ?_
    refine ⟨congrArg Ending.returned ?_, hs5.nil⟩
    rfl
  · have qh8 := h8
    try simp only [decide_eq_true_eq, decide_eq_false_iff_not, Bool.not_eq_true', Bool.not_eq_false', Bool.and_eq_true, Bool.or_eq_false_iff, within_iff, within_not] at qh8
    simp only [szR] at qh8
    have hb : n_t ≤ 1048576 := by split at qh8 <;> omega
    refine WC.skip ?_
    refine tkN ?_
    refine hK6 _ _ ?_
    clear hK6
    refine WC.seq (fun K10 hK10 => ?_)
    refine WC.region ?_
    refine WL.val rfl rfl rfl (Run.move rfl rfl) ?_
    refine WL.call rfl rfl rfl (Run.call Try.call19 rfl rfl rfl) (c_laws_toNodeS _ _ _ _ _ (SlF.st0 f_t hs5) ?_) ?_
    · first | assumption | rfl | omega
    rintro _ whs11 ⟨A12, c13, L114, rfl, hs11, ho15⟩
    replace hs11 := hs5.callF hs11
    refine ⟨_, rfl, ?_⟩
    refine WL.val rfl rfl rfl (Run.move rfl rfl) ?_
    refine WL.val rfl rfl rfl (Run.move rfl rfl) ?_
    refine WL.call rfl rfl rfl (Run.call Try.call42 rfl rfl rfl) (c_spec_Places _ _ _ _ _ _ _ (SlF.ofOwn ho15 (fun p_ hp_ => (hs11.own p_ (List.mem_append_left _ hp_)).1)) ?_) ?_
    · first | assumption | rfl | omega
    rintro _ whs16 ⟨A17, c18, L119, rfl, hs16, ho20⟩
    replace hs16 := hs11.callF hs16
    refine ⟨_, rfl, ?_⟩
    refine WL.val rfl rfl rfl (Run.move rfl rfl) ?_
    refine WL.val rfl rfl rfl (Run.extract rfl rfl rfl) ?_
    refine WL.val rfl rfl rfl (Run.extract rfl rfl rfl) ?_
    refine WL.val rfl rfl rfl (Run.assign rfl rfl) ?_
    refine WL.val rfl rfl rfl (Run.assign rfl rfl) ?_
    refine WL.nil ?_
    refine tkN ?_
    refine hK10 _ _ ?_
    clear hK10
    refine WC.seq (fun K21 hK21 => ?_)
    refine WC.region ?_
    refine WL.val rfl rfl rfl (Run.move rfl rfl) ?_
    refine WL.call rfl rfl rfl (Run.call Try.call19 rfl rfl rfl) (c_laws_toNodeS _ _ _ _ _ (SlF.st0 f_t hs16) ?_) ?_
    · first | assumption | rfl | omega
    rintro _ whs22 ⟨A23, c24, L125, rfl, hs22, ho26⟩
    replace hs22 := hs16.callF hs22
    refine ⟨_, rfl, ?_⟩
    refine WL.val rfl rfl rfl (Run.assign rfl rfl) ?_
    refine WL.nil ?_
    refine tkN ?_
    refine hK21 _ _ ?_
    clear hK21
    refine WC.seq (fun K27 hK27 => ?_)
    refine WC.region ?_
    refine WL.val rfl rfl rfl (Run.move rfl rfl) ?_
    refine WL.val rfl rfl rfl (Run.move rfl rfl) ?_
    refine WL.val rfl rfl rfl (Run.move rfl rfl) ?_
    refine WL.call rfl rfl rfl (Run.call Try.call39 rfl rfl rfl) (c_impl_Places _ _ _ _ _ _ _ (SlF.ofOwn ho26 (fun p_ hp_ => (hs22.own p_ (List.mem_append_left _ hp_)).1)) ?_) ?_
    · first | assumption | rfl | omega
    rintro _ whs28 ⟨A29, c30, L131, rfl, hs28, ho32⟩
    replace hs28 := hs22.callF hs28
    refine ⟨_, rfl, ?_⟩
    refine WL.val rfl rfl rfl (Run.move rfl rfl) ?_
    refine WL.val rfl rfl rfl (Run.extract rfl rfl rfl) ?_
    refine WL.val rfl rfl rfl (Run.extract rfl rfl rfl) ?_
    refine WL.val rfl rfl rfl (Run.assign rfl rfl) ?_
    refine WL.val rfl rfl rfl (Run.assign rfl rfl) ?_
    refine WL.nil ?_
    refine tkN ?_
    refine hK27 _ _ ?_
    clear hK27
    refine WC.seq (fun K33 hK33 => ?_)
    refine WC.seq (fun K34 hK34 => ?_)
    refine WC.region ?_
    refine WL.val rfl rfl rfl (Run.move rfl rfl) ?_
    refine WL.val rfl rfl rfl (Run.move rfl rfl) ?_
    refine WL.call rfl rfl rfl (Run.call Try.call43 rfl rfl rfl) (c_laws_eqRectS _ _ _ _ _ _ _ _ _ (SlF.ofOwn ho32 (fun p_ hp_ => (hs28.own p_ (List.mem_append_left _ hp_)).1)) (SlF.ofOwn ho20 (fun p_ hp_ => (hs28.own p_ (List.mem_append_right _ (List.mem_append_right _ (List.mem_append_left _ hp_)))).1)) ?_ ?_) ?_
    · first | assumption | rfl | omega
    · first | assumption | rfl | omega
    rintro _ whs35 ⟨rfl, hs35⟩
    replace hs35 := hs28.call0 hs35
    refine ⟨_, rfl, ?_⟩
    refine WL.val rfl rfl rfl (Run.not rfl rfl) ?_
    refine WL.val rfl rfl rfl (Run.move rfl rfl) ?_
    apply WL.meetOr 4 44 48 [(0, _), (1, _), (2, _), (6, _), (7, _), (8, _), (9, _), (10, _), (11, _), (12, _), (18, _), (19, _), (20, _), (21, _), (22, _), (23, _), (24, _), (25, _), (26, _), (27, _), (28, _), (29, _), (30, _), (31, _), (32, _), (33, _), (34, _), (35, _), (36, _), (37, _), (38, _), (39, _)] rfl hs35
    · intro g36 J37
      have qg36 := g36
      try simp only [decide_eq_true_eq, decide_eq_false_iff_not, Bool.not_eq_true', Bool.not_eq_false'] at qg36
      refine WL.val (wantF rfl g36) rfl rfl (Run.move rfl rfl) ?_
      refine WL.val (wantF rfl g36) rfl rfl (Run.move rfl rfl) ?_
      refine WL.val (wantF rfl g36) rfl rfl (Run.neqB Try.runUnderlying4 rfl rfl rfl) ?_
      refine WL.val rfl rfl rfl (Run.pickF rfl rfl g36 rfl) ?_
      exact WL.fin J37 hs35 rfl (orF g36) ⟨rfl, rfl, rfl, rfl, rfl, rfl, rfl, rfl, rfl, rfl, rfl, rfl, rfl, rfl, rfl, rfl, rfl, rfl, rfl, rfl, rfl, rfl, rfl, rfl, rfl, rfl, rfl, rfl, rfl, rfl, rfl, rfl, trivial⟩
    · intro g36 J37
      refine WL.skip (wantNF rfl g36) rfl rfl ?_
      refine WL.skip (wantNF rfl g36) rfl rfl ?_
      refine WL.skip (wantNF rfl g36) rfl rfl ?_
      refine WL.val rfl rfl rfl (Run.pickT rfl rfl g36 rfl) ?_
      exact WL.fin J37 hs35 rfl (orT g36) ⟨rfl, rfl, rfl, rfl, rfl, rfl, rfl, rfl, rfl, rfl, rfl, rfl, rfl, rfl, rfl, rfl, rfl, rfl, rfl, rfl, rfl, rfl, rfl, rfl, rfl, rfl, rfl, rfl, rfl, rfl, rfl, rfl, trivial⟩
    · intro whs38 hs38
      refine WL.nil ?_
      refine tkN ?_
      refine hK34 _ _ ?_
      clear hK34
      refine WC.condF rfl (by first | (simp; done) | (simp; omega)) ?_
      refine WC.skip ?_
      refine tkN ?_
      refine hK33 _ _ ?_
      clear hK33
      refine WC.seq (fun K40 hK40 => ?_)
      refine WC.seq (fun K41 hK41 => ?_)
      refine WC.region ?_
      refine WL.val rfl rfl rfl (Run.move rfl rfl) ?_
      refine WL.val rfl rfl rfl (Run.move rfl rfl) ?_
      refine WL.call rfl rfl rfl (Run.call Try.call19 rfl rfl rfl) (c_laws_toNodeS _ _ _ _ _ (SlF.st0 f_t hs38) ?_) ?_
      · first | assumption | rfl | omega
      rintro _ whs42 ⟨A43, c44, L145, rfl, hs42, ho46⟩
      replace hs42 := hs38.callF hs42
      refine ⟨_, rfl, ?_⟩
      refine WL.call rfl rfl rfl (Run.call Try.call21 rfl rfl rfl) (c_laws_eqNodeS _ _ _ _ _ _ _ _ _ (SlF.ofOwn ho26 (fun p_ hp_ => (hs42.own p_ (List.mem_append_right _ (List.mem_append_right _ (List.mem_append_left _ hp_)))).1)) (SlF.ofOwn ho46 (fun p_ hp_ => (hs42.own p_ (List.mem_append_left _ hp_)).1)) ?_ ?_) ?_
      · first | assumption | rfl | omega
      · first | assumption | rfl | omega
      rintro _ whs47 ⟨rfl, hs47⟩
      replace hs47 := hs42.call0 hs47
      refine ⟨_, rfl, ?_⟩
      refine WL.val rfl rfl rfl (Run.not rfl rfl) ?_
      refine WL.nil ?_
      refine tkN ?_
      refine hK41 _ _ ?_
      clear hK41
      refine WC.condF rfl (by first | (simp; done) | (simp; omega)) ?_
      refine WC.skip ?_
      refine tkN ?_
      refine hK40 _ _ ?_
      clear hK40
      refine WC.seq (fun K49 hK49 => ?_)
      refine WC.region ?_
      refine WL.val rfl rfl rfl (Run.assign rfl rfl) ?_
      refine WL.nil ?_
      refine tkN ?_
      refine hK49 _ _ ?_
      clear hK49
      refine WC.seq (fun K50 hK50 => ?_)
      refine WC.region ?_
      refine WL.val rfl rfl rfl (Run.move rfl rfl) ?_
      refine WL.val rfl rfl rfl (Run.move rfl rfl) ?_
      refine WL.call rfl rfl rfl (Run.call Try.call27 rfl rfl rfl) (c_laws_markNodeS _ _ _ _ _ ho26 (fun p_ hp_ => (hs47.own p_ (List.mem_append_right _ (List.mem_append_right _ (List.mem_append_left _ hp_)))).1) ?_ ?_ ?_) ?_
      · first | assumption | rfl | omega
      · first | assumption | rfl | omega
      · first | assumption | rfl | omega
      rintro _ whs51 ⟨L152, rfl, hs51, ho53⟩
      replace hs51 := St.lend (St.perm hs47 (L' := L125 ++ _) (perm_front (A := L145) (perm_front (A := L131) (List.Perm.refl _)))) hs51
      refine ⟨_, rfl, ?_⟩
      refine WL.val rfl rfl rfl (Run.assign rfl rfl) ?_
      refine WL.nil ?_
      refine tkN ?_
      refine hK50 _ _ ?_
      clear hK50
      refine WC.seq (fun K54 hK54 => ?_)
      refine WC.seq (fun K55 hK55 => ?_)
      refine WC.region ?_
      refine WL.val rfl rfl rfl (Run.move rfl rfl) ?_
      refine WL.val rfl rfl rfl (Run.lss rfl rfl rfl) ?_
      refine WL.val rfl rfl rfl (Run.move rfl rfl) ?_
      apply WL.meetOr 5 59 64 [(0, _), (1, _), (2, _), (6, _), (7, _), (8, _), (9, _), (10, _), (11, _), (12, _), (13, _), (18, _), (19, _), (20, _), (21, _), (22, _), (23, _), (24, _), (25, _), (26, _), (27, _), (28, _), (29, _), (30, _), (31, _), (32, _), (33, _), (34, _), (35, _), (36, _), (37, _), (38, _), (39, _), (48, _), (49, _), (50, _), (51, _), (52, _), (53, _), (54, _), (55, _), (56, _)] rfl hs51
      · intro g56 J57
        have qg56 := g56
        try simp only [decide_eq_true_eq, decide_eq_false_iff_not, Bool.not_eq_true', Bool.not_eq_false'] at qg56
        refine WL.val (wantF rfl g56) rfl rfl (Run.move rfl rfl) ?_
        refine WL.val (wantF rfl g56) rfl rfl (Run.move rfl rfl) ?_
        refine WL.call (wantF rfl g56) rfl rfl (Run.call Try.call43 rfl rfl rfl) (c_laws_eqRectS _ _ _ _ _ _ _ _ _ (SlF.ofOwn ho32 (fun p_ hp_ => (hs51.own p_ (List.mem_append_right _ (List.mem_append_right _ (List.mem_append_left _ hp_)))).1)) (SlF.ofOwn ho20 (fun p_ hp_ => (hs51.own p_ (List.mem_append_right _ (List.mem_append_right _ (List.mem_append_right _ (List.mem_append_left _ hp_))))).1)) ?_ ?_) ?_
        · first | assumption | rfl | omega
        · first | assumption | rfl | omega
        rintro _ whs58 ⟨rfl, hs58⟩
        replace hs58 := hs51.call0 hs58
        refine ⟨_, rfl, ?_⟩
        refine WL.val (wantF rfl g56) rfl rfl (Run.not rfl rfl) ?_
        refine WL.val rfl rfl rfl (Run.pickF rfl rfl g56 rfl) ?_
        exact WL.fin J57 hs58 rfl (orF g56) ⟨rfl, rfl, rfl, rfl, rfl, rfl, rfl, rfl, rfl, rfl, rfl, rfl, rfl, rfl, rfl, rfl, rfl, rfl, rfl, rfl, rfl, rfl, rfl, rfl, rfl, rfl, rfl, rfl, rfl, rfl, rfl, rfl, rfl, rfl, rfl, rfl, rfl, rfl, rfl, rfl, rfl, rfl, trivial⟩
      · intro g56 J57
        refine WL.skip (wantNF rfl g56) rfl rfl ?_
        refine WL.skip (wantNF rfl g56) rfl rfl ?_
        refine WL.skip (wantNF rfl g56) rfl rfl ?_
        refine WL.skip (wantNF rfl g56) rfl rfl ?_
        refine WL.val rfl rfl rfl (Run.pickT rfl rfl g56 rfl) ?_
        exact WL.fin J57 hs51 rfl (orT g56) ⟨rfl, rfl, rfl, rfl, rfl, rfl, rfl, rfl, rfl, rfl, rfl, rfl, rfl, rfl, rfl, rfl, rfl, rfl, rfl, rfl, rfl, rfl, rfl, rfl, rfl, rfl, rfl, rfl, rfl, rfl, rfl, rfl, rfl, rfl, rfl, rfl, rfl, rfl, rfl, rfl, rfl, rfl, trivial⟩
      · intro whs59 hs59
        refine WL.val rfl rfl rfl (Run.move rfl rfl) ?_
        apply WL.meetOr 4 65 69 [(0, _), (1, _), (2, _), (6, _), (7, _), (8, _), (9, _), (10, _), (11, _), (12, _), (13, _), (18, _), (19, _), (20, _), (21, _), (22, _), (23, _), (24, _), (25, _), (26, _), (27, _), (28, _), (29, _), (30, _), (31, _), (32, _), (33, _), (34, _), (35, _), (36, _), (37, _), (38, _), (39, _), (48, _), (49, _), (50, _), (51, _), (52, _), (53, _), (54, _), (55, _), (56, _)] rfl hs59
        · intro g60 J61
          have qg60 := g60
          try simp only [decide_eq_true_eq, decide_eq_false_iff_not, Bool.not_eq_true', Bool.not_eq_false'] at qg60
          refine WL.val (wantF rfl g60) rfl rfl (Run.move rfl rfl) ?_
          refine WL.val (wantF rfl g60) rfl rfl (Run.move rfl rfl) ?_
          refine WL.val (wantF rfl g60) rfl rfl (Run.neqB Try.runUnderlying4 rfl rfl rfl) ?_
          refine WL.val rfl rfl rfl (Run.pickF rfl rfl g60 rfl) ?_
          exact WL.fin J61 hs59 rfl (orF g60) ⟨rfl, rfl, rfl, rfl, rfl, rfl, rfl, rfl, rfl, rfl, rfl, rfl, rfl, rfl, rfl, rfl, rfl, rfl, rfl, rfl, rfl, rfl, rfl, rfl, rfl, rfl, rfl, rfl, rfl, rfl, rfl, rfl, rfl, rfl, rfl, rfl, rfl, rfl, rfl, rfl, rfl, rfl, trivial⟩
        · intro g60 J61
          refine WL.skip (wantNF rfl g60) rfl rfl ?_
          refine WL.skip (wantNF rfl g60) rfl rfl ?_
          refine WL.skip (wantNF rfl g60) rfl rfl ?_
          refine WL.val rfl rfl rfl (Run.pickT rfl rfl g60 rfl) ?_
          exact WL.fin J61 hs59 rfl (orT g60) ⟨rfl, rfl, rfl, rfl, rfl, rfl, rfl, rfl, rfl, rfl, rfl, rfl, rfl, rfl, rfl, rfl, rfl, rfl, rfl, rfl, rfl, rfl, rfl, rfl, rfl, rfl, rfl, rfl, rfl, rfl, rfl, rfl, rfl, rfl, rfl, rfl, rfl, rfl, rfl, rfl, rfl, rfl, trivial⟩
        · intro whs62 hs62
          refine WL.nil ?_
          refine tkN ?_
          refine hK55 _ _ ?_
          clear hK55
          refine WC.condF rfl (by first | (simp; done) | (simp; omega)) ?_
          refine WC.skip ?_
          refine tkN ?_
          refine hK54 _ _ ?_
          clear hK54
          refine WC.seq (fun K64 hK64 => ?_)
          refine WC.region ?_
          refine WL.val rfl rfl rfl (Run.assign rfl rfl) ?_
          refine WL.nil ?_
          refine tkN ?_
          refine hK64 _ _ ?_
          clear hK64
          refine WC.seq (fun K65 hK65 => ?_)
          refine WC.region ?_
          refine WL.val rfl rfl rfl (Run.move rfl rfl) ?_
          refine WL.val rfl rfl rfl (Run.move rfl rfl) ?_
          refine WL.call rfl rfl rfl (Run.call Try.call44 rfl rfl rfl) (c_laws_markRectS _ _ _ _ _ ho32 (fun p_ hp_ => (hs62.own p_ (List.mem_append_right _ (List.mem_append_right _ (List.mem_append_left _ hp_)))).1) ?_ ?_ ?_) ?_
          · first | assumption | rfl | omega
          · first | assumption | rfl | omega
          · first | assumption | rfl | omega
          rintro _ whs66 ⟨L167, rfl, hs66, ho68⟩
          replace hs66 := St.lend (St.perm hs62 (L' := L131 ++ _) (perm_front (A := L152) (perm_front (A := L145) (List.Perm.refl _)))) hs66
          refine ⟨_, rfl, ?_⟩
          refine WL.val rfl rfl rfl (Run.assign rfl rfl) ?_
          refine WL.nil ?_
          refine tkN ?_
          refine hK65 _ _ ?_
          clear hK65
          refine WC.seq (fun K69 hK69 => ?_)
          refine WC.region ?_
          refine WL.val rfl rfl rfl (Run.assign rfl rfl) ?_
          refine WL.nil ?_
          refine tkN ?_
          refine hK69 _ _ ?_
          clear hK69
          refine WC.seq (fun K70 hK70 => ?_)
          refine WC.region ?_
          refine WL.val rfl rfl rfl (Run.move rfl rfl) ?_
          refine WL.val rfl rfl rfl (Run.move rfl rfl) ?_
          refine WL.call rfl rfl rfl (Run.call Try.call45 rfl rfl rfl) (c_laws_heldRectS _ _ _ _ _ _ (SlF.ofOwn ho68 (fun p_ hp_ => (hs66.own p_ (List.mem_append_left _ hp_)).1)) ?_ ?_ ?_ ?_) ?_
          · first | assumption | rfl | omega
          · first | assumption | rfl | omega
          · first | assumption | rfl | omega
          · first | assumption | rfl | omega
          rintro _ whs71 ⟨rfl, hs71⟩
          replace hs71 := hs66.call0 hs71
          refine ⟨_, rfl, ?_⟩
          refine WL.val rfl rfl rfl (Run.assign rfl rfl) ?_
          refine WL.nil ?_
          refine tkN ?_
          refine hK70 _ _ ?_
          clear hK70
          refine WC.seq (fun K72 hK72 => ?_)
          refine WC.seq (fun K73 hK73 => ?_)
          refine WC.region ?_
          refine WL.val rfl rfl rfl (Run.move rfl rfl) ?_
          refine WL.val rfl rfl rfl (Run.lss rfl rfl rfl) ?_
          refine WL.nil ?_
          refine tkN ?_
          refine hK73 _ _ ?_
          clear hK73
          refine WC.condF rfl (by first | (simp; done) | (simp; omega)) ?_
          refine WC.skip ?_
          refine tkN ?_
          refine hK72 _ _ ?_
          clear hK72
          refine WC.seq (fun K75 hK75 => ?_)
          refine WC.seq (fun K76 hK76 => ?_)
          refine WC.region ?_
          refine WL.val rfl rfl rfl (Run.move rfl rfl) ?_
          refine WL.val rfl rfl rfl (Run.move rfl rfl) ?_
          refine WL.val rfl rfl rfl (Run.neq rfl rfl rfl) ?_
          refine WL.nil ?_
          refine tkN ?_
          refine hK76 _ _ ?_
          clear hK76
          refine WC.condF rfl (by first | (simp; done) | (simp; omega)) ?_
          refine WC.skip ?_
          refine tkN ?_
          refine hK75 _ _ ?_
          clear hK75
          refine WC.seq (fun K78 hK78 => ?_)
          refine WC.region ?_
          refine WL.val rfl rfl rfl (Run.move rfl rfl) ?_
          refine WL.call rfl rfl rfl (Run.call Try.call19 rfl rfl rfl) (c_laws_toNodeS _ _ _ _ _ (SlF.st0 f_t hs71) ?_) ?_
          · first | assumption | rfl | omega
          rintro _ whs79 ⟨A80, c81, L182, rfl, hs79, ho83⟩
          replace hs79 := hs71.callF hs79
          refine ⟨_, rfl, ?_⟩
          refine WL.val rfl rfl rfl (Run.move rfl rfl) ?_
          refine WL.val rfl rfl rfl (Run.move rfl rfl) ?_
          refine WL.call rfl rfl rfl (Run.call Try.call39 rfl rfl rfl) (c_impl_Places _ _ _ _ _ _ _ (SlF.ofOwn ho83 (fun p_ hp_ => (hs79.own p_ (List.mem_append_left _ hp_)).1)) ?_) ?_
          · first | assumption | rfl | omega
          rintro _ whs84 ⟨A85, c86, L187, rfl, hs84, ho88⟩
          replace hs84 := hs79.callF hs84
          refine ⟨_, rfl, ?_⟩
          refine WL.val rfl rfl rfl (Run.move rfl rfl) ?_
          refine WL.val rfl rfl rfl (Run.extract rfl rfl rfl) ?_
          refine WL.val rfl rfl rfl (Run.extract rfl rfl rfl) ?_
          refine WL.val rfl rfl rfl (Run.assign rfl rfl) ?_
          refine WL.val rfl rfl rfl (Run.assign rfl rfl) ?_
          refine WL.nil ?_
          refine tkN ?_
          refine hK78 _ _ ?_
          clear hK78
          refine WC.seq (fun K89 hK89 => ?_)
          refine WC.seq (fun K90 hK90 => ?_)
          refine WC.region ?_
          refine WL.val rfl rfl rfl (Run.move rfl rfl) ?_
          refine WL.val rfl rfl rfl (Run.move rfl rfl) ?_
          refine WL.call rfl rfl rfl (Run.call Try.call43 rfl rfl rfl) (c_laws_eqRectS _ _ _ _ _ _ _ _ _ (SlF.ofOwn ho88 (fun p_ hp_ => (hs84.own p_ (List.mem_append_left _ hp_)).1)) (SlF.ofOwn ho20 (fun p_ hp_ => (hs84.own p_ (List.mem_append_right _ (List.mem_append_right _ (List.mem_append_right _ (List.mem_append_right _ (List.mem_append_right _ (List.mem_append_left _ hp_))))))).1)) ?_ ?_) ?_
          · first | assumption | rfl | omega
          · first | assumption | rfl | omega
          rintro _ whs91 ⟨rfl, hs91⟩
          replace hs91 := hs84.call0 hs91
          refine ⟨_, rfl, ?_⟩
          refine WL.val rfl rfl rfl (Run.not rfl rfl) ?_
          refine WL.val rfl rfl rfl (Run.move rfl rfl) ?_
          apply WL.meetOr 4 93 97 [(0, _), (1, _), (2, _), (6, _), (7, _), (8, _), (9, _), (10, _), (11, _), (12, _), (13, _), (14, _), (15, _), (16, _), (17, _), (18, _), (19, _), (20, _), (21, _), (22, _), (23, _), (24, _), (25, _), (26, _), (27, _), (28, _), (29, _), (30, _), (31, _), (32, _), (33, _), (34, _), (35, _), (36, _), (37, _), (38, _), (39, _), (48, _), (49, _), (50, _), (51, _), (52, _), (53, _), (54, _), (55, _), (56, _), (69, _), (70, _), (71, _), (72, _), (73, _), (74, _), (75, _), (76, _), (77, _), (78, _), (79, _), (80, _), (81, _), (82, _), (83, _), (84, _), (85, _), (86, _), (87, _), (88, _)] rfl hs91
          · intro g92 J93
            have qg92 := g92
            try simp only [decide_eq_true_eq, decide_eq_false_iff_not, Bool.not_eq_true', Bool.not_eq_false'] at qg92
            refine WL.val (wantF rfl g92) rfl rfl (Run.move rfl rfl) ?_
            refine WL.val (wantF rfl g92) rfl rfl (Run.move rfl rfl) ?_
            refine WL.val (wantF rfl g92) rfl rfl (Run.neqB Try.runUnderlying4 rfl rfl rfl) ?_
            refine WL.val rfl rfl rfl (Run.pickF rfl rfl g92 rfl) ?_
            exact WL.fin J93 hs91 rfl (orF g92) ⟨rfl, rfl, rfl, rfl, rfl, rfl, rfl, rfl, rfl, rfl, rfl, rfl, rfl, rfl, rfl, rfl, rfl, rfl, rfl, rfl, rfl, rfl, rfl, rfl, rfl, rfl, rfl, rfl, rfl, rfl, rfl, rfl, rfl, rfl, rfl, rfl, rfl, rfl, rfl, rfl, rfl, rfl, rfl, rfl, rfl, rfl, rfl, rfl, rfl, rfl, rfl, rfl, rfl, rfl, rfl, rfl, rfl, rfl, rfl, rfl, rfl, rfl, rfl, rfl, rfl, rfl, trivial⟩
          · intro g92 J93
            refine WL.skip (wantNF rfl g92) rfl rfl ?_
            refine WL.skip (wantNF rfl g92) rfl rfl ?_
            refine WL.skip (wantNF rfl g92) rfl rfl ?_
            refine WL.val rfl rfl rfl (Run.pickT rfl rfl g92 rfl) ?_
            exact WL.fin J93 hs91 rfl (orT g92) ⟨rfl, rfl, rfl, rfl, rfl, rfl, rfl, rfl, rfl, rfl, rfl, rfl, rfl, rfl, rfl, rfl, rfl, rfl, rfl, rfl, rfl, rfl, rfl, rfl, rfl, rfl, rfl, rfl, rfl, rfl, rfl, rfl, rfl, rfl, rfl, rfl, rfl, rfl, rfl, rfl, rfl, rfl, rfl, rfl, rfl, rfl, rfl, rfl, rfl, rfl, rfl, rfl, rfl, rfl, rfl, rfl, rfl, rfl, rfl, rfl, rfl, rfl, rfl, rfl, rfl, rfl, trivial⟩
          · intro whs94 hs94
            refine WL.nil ?_
            refine tkN ?_
            refine hK90 _ _ ?_
            clear hK90
            refine WC.condF rfl (by first | (simp; done) | (simp; omega)) ?_
            refine WC.skip ?_
            refine tkN ?_
            refine hK89 _ _ ?_
            clear hK89
            refine WC.seq (fun K96 hK96 => ?_)
            refine WC.region ?_
            refine WL.val rfl rfl rfl (Run.assign rfl rfl) ?_
            refine WL.nil ?_
            refine tkN ?_
            refine hK96 _ _ ?_
            clear hK96
            refine WC.seq (fun K97 hK97 => ?_)
            refine WC.region ?_
            refine WL.val rfl rfl rfl (Run.move rfl rfl) ?_
            refine WL.val rfl rfl rfl (Run.move rfl rfl) ?_
            refine WL.call rfl rfl rfl (Run.call Try.call45 rfl rfl rfl) (c_laws_heldRectS _ _ _ _ _ _ (SlF.ofOwn ho68 (fun p_ hp_ => (hs94.own p_ (List.mem_append_right _ (List.mem_append_right _ (List.mem_append_left _ hp_)))).1)) ?_ ?_ ?_ ?_) ?_
            · first | assumption | rfl | omega
            · first | assumption | rfl | omega
            · first | assumption | rfl | omega
            · first | assumption | rfl | omega
            rintro _ whs98 ⟨rfl, hs98⟩
            replace hs98 := hs94.call0 hs98
            refine ⟨_, rfl, ?_⟩
            refine WL.val rfl rfl rfl (Run.assign rfl rfl) ?_
            refine WL.nil ?_
            refine tkN ?_
            refine hK97 _ _ ?_
            clear hK97
            refine WC.seq (fun K99 hK99 => ?_)
            refine WC.seq (fun K100 hK100 => ?_)
            refine WC.region ?_
            refine WL.val rfl rfl rfl (Run.move rfl rfl) ?_
            refine WL.val rfl rfl rfl (Run.lss rfl rfl rfl) ?_
            refine WL.nil ?_
            refine tkN ?_
            refine hK100 _ _ ?_
            clear hK100
            refine WC.condF rfl (by first | (simp; done) | (simp; omega)) ?_
            refine WC.skip ?_
            refine tkN ?_
            refine hK99 _ _ ?_
            clear hK99
            refine WC.seq (fun K102 hK102 => ?_)
            refine WC.seq (fun K103 hK103 => ?_)
            refine WC.region ?_
            refine WL.val rfl rfl rfl (Run.move rfl rfl) ?_
            refine WL.val rfl rfl rfl (Run.move rfl rfl) ?_
            refine WL.val rfl rfl rfl (Run.neq rfl rfl rfl) ?_
            refine WL.nil ?_
            refine tkN ?_
            refine hK103 _ _ ?_
            clear hK103
            refine WC.condF rfl (by first | (simp; done) | (simp; omega)) ?_
            refine WC.skip ?_
            refine tkN ?_
            refine hK102 _ _ ?_
            clear hK102
            refine WC.seq (fun K105 hK105 => ?_)
            refine WC.region ?_
            refine WL.val rfl rfl rfl (Run.assign rfl rfl) ?_
            refine WL.nil ?_
            refine tkN ?_
            refine hK105 _ _ ?_
            clear hK105
            refine WC.ret ?_
            refine retV1 rfl (resV.tmp rfl) ?_
            refine ⟨congrArg Ending.returned ?_, hs98.nil⟩
            rfl
set_option maxHeartbeats 4000000 in
theorem c_laws_FnExactPlaceOf (A_t : Option Addr) (n_t c_t : Nat) (t : List NodeD) (w_ : Int) (h_ : Int) (p : Int) (w : World) (f_t : SlF encNode w A_t n_t t) (h1 : n_t ≤ 9223372036854775807) :
    Calls Try.prog 8 #[.slice A_t n_t c_t, i64 w_, i64 h_, i64 p] w fun e w' => e = .returned (.bool true) ∧ St w [] [] w' := by
  have hl := f_t.len
  have hol := placesL_len t w_ h_
  refine enter (vs := [.slice A_t n_t c_t, i64 w_, i64 h_, i64 p]) 53 Try.func8 rfl Try.ntmps8 rfl rfl ?_
  have hs1 := St.init w
  refine WC.seq (fun K2 hK2 => ?_)
  refine WC.region ?_
  refine WL.val rfl rfl rfl (Run.assign rfl rfl) ?_
  refine WL.nil ?_
  refine tkN ?_
  refine hK2 _ _ ?_
  clear hK2
  refine WC.seq (fun K3 hK3 => ?_)
  refine WC.region ?_
  refine WL.val rfl rfl rfl (Run.assign rfl rfl) ?_
  refine WL.nil ?_
  refine tkN ?_
  refine hK3 _ _ ?_
  clear hK3
  refine WC.seq (fun K4 hK4 => ?_)
  refine WC.region ?_
  refine WL.val rfl rfl rfl (Run.move rfl rfl) ?_
  refine WL.val rfl rfl rfl (Run.move rfl rfl) ?_
  refine WL.call rfl rfl rfl (Run.call Try.call17 rfl rfl rfl) (c_laws_szNodeS _ _ _ _ _ _ (SlF.st0 f_t hs1) ?_ ?_ ?_) ?_
  · first | assumption | rfl | omega
  · first | assumption | rfl | omega
  · first | assumption | rfl | omega
  rintro _ whs5 ⟨rfl, hs5⟩
  replace hs5 := hs1.call0 hs5
  refine ⟨_, rfl, ?_⟩
  refine WL.val rfl rfl rfl (Run.assign rfl rfl) ?_
  refine WL.nil ?_
  refine tkN ?_
  refine hK4 _ _ ?_
  clear hK4
  refine WC.seq (fun K6 hK6 => ?_)
  refine WC.seq (fun K7 hK7 => ?_)
  refine WC.region ?_
  refine WL.val rfl rfl rfl (Run.move rfl rfl) ?_
  refine WL.val rfl rfl rfl (Run.lss rfl rfl rfl) ?_
  refine WL.nil ?_
  refine tkN ?_
  refine hK7 _ _ ?_
  clear hK7
  refine WC.cond rfl (fun h8 => ?_) (fun h8 => ?_)
  · have qh8 := h8
    try simp only [decide_eq_true_eq, decide_eq_false_iff_not, Bool.not_eq_true', Bool.not_eq_false', Bool.and_eq_true, Bool.or_eq_false_iff, within_iff, within_not] at qh8
    refine WC.seq (fun K9 hK9 => ?_)
    refine WC.region ?_
    refine WL.val rfl rfl rfl (Run.assign rfl rfl) ?_
    refine WL.nil ?_
    refine tkN ?_
    refine hK9 _ _ ?_
    clear hK9
    refine WC.ret ?_
    refine tkR ?_
    clear hK6
    refine retV1 rfl (resV.tmp rfl) ?_
    refine ⟨congrArg Ending.returned ?_, hs5.nil⟩
    rfl
  · have qh8 := h8
    try simp only [decide_eq_true_eq, decide_eq_false_iff_not, Bool.not_eq_true', Bool.not_eq_false', Bool.and_eq_true, Bool.or_eq_false_iff, within_iff, within_not] at qh8
    simp only [szR] at qh8
    have hb : n_t ≤ 1048576 := by split at qh8 <;> omega
    refine WC.skip ?_
    refine tkN ?_
    refine hK6 _ _ ?_
    clear hK6
    refine WC.seq (fun K10 hK10 => ?_)
    refine WC.region ?_
    refine WL.val rfl rfl rfl (Run.move rfl rfl) ?_
    refine WL.call rfl rfl rfl (Run.call Try.call19 rfl rfl rfl) (c_laws_toNodeS _ _ _ _ _ (SlF.st0 f_t hs5) ?_) ?_
    · first | assumption | rfl | omega
    rintro _ whs11 ⟨A12, c13, L114, rfl, hs11, ho15⟩
    replace hs11 := hs5.callF hs11
    refine ⟨_, rfl, ?_⟩
    refine WL.val rfl rfl rfl (Run.move rfl rfl) ?_
    refine WL.val rfl rfl rfl (Run.move rfl rfl) ?_
    refine WL.val rfl rfl rfl (Run.move rfl rfl) ?_
    refine WL.call rfl rfl rfl (Run.call Try.call35 rfl rfl rfl) (c_spec_PlaceOf _ _ _ _ _ _ _ _ (SlF.ofOwn ho15 (fun p_ hp_ => (hs11.own p_ (List.mem_append_left _ hp_)).1)) ?_) ?_
    · first | assumption | rfl | omega
    rintro _ whs16 ⟨rfl, hs16⟩
    replace hs16 := hs11.call0 hs16
    refine ⟨_, rfl, ?_⟩
    refine WL.val rfl rfl rfl (Run.move rfl rfl) ?_
    refine WL.val rfl rfl rfl (Run.extract rfl rfl rfl) ?_
    refine WL.val rfl rfl rfl (Run.extract rfl rfl rfl) ?_
    refine WL.alloc hs16 Try.zeroValue40 rfl rfl rfl rfl rfl (fun b17 whs18 hs18 => ?_)
    refine WL.storeA hs18 0 Try.sizeOf40 rfl rfl rfl rfl rfl rfl rfl rfl rfl (Nat.le_of_ble_eq_true rfl) (.inl (Nat.le_of_ble_eq_true rfl)) (fun whs19 hs19 => ?_)
    refine WL.val rfl rfl rfl (Run.assign rfl rfl) ?_
    refine WL.nil ?_
    refine tkN ?_
    refine hK10 _ _ ?_
    clear hK10
    refine WC.seq (fun K20 hK20 => ?_)
    refine WC.region ?_
    refine WL.val rfl rfl rfl (Run.move rfl rfl) ?_
    refine WL.call rfl rfl rfl (Run.call Try.call19 rfl rfl rfl) (c_laws_toNodeS _ _ _ _ _ (SlF.st0 f_t hs19) ?_) ?_
    · first | assumption | rfl | omega
    rintro _ whs21 ⟨A22, c23, L124, rfl, hs21, ho25⟩
    replace hs21 := hs19.callF hs21
    refine ⟨_, rfl, ?_⟩
    replace hs21 := St.back [_] hs21
    refine WL.val rfl rfl rfl (Run.assign rfl rfl) ?_
    refine WL.nil ?_
    refine tkN ?_
    refine hK20 _ _ ?_
    clear hK20
    refine WC.seq (fun K26 hK26 => ?_)
    refine WC.region ?_
    refine WL.val rfl rfl rfl (Run.move rfl rfl) ?_
    refine WL.val rfl rfl rfl (Run.move rfl rfl) ?_
    refine WL.val rfl rfl rfl (Run.move rfl rfl) ?_
    refine WL.val rfl rfl rfl (Run.move rfl rfl) ?_
    refine WL.call rfl rfl rfl (Run.call Try.call36 rfl rfl rfl) (c_impl_PlaceOf _ _ _ _ _ _ _ _ (SlF.ofOwn ho25 (fun p_ hp_ => (hs21.own p_ (List.mem_append_right [_] (List.mem_append_left _ hp_))).1)) ?_) ?_
    · first | assumption | rfl | omega
    rintro _ whs27 ⟨rfl, hs27⟩
    replace hs27 := hs21.call0 hs27
    refine ⟨_, rfl, ?_⟩
    refine WL.val rfl rfl rfl (Run.move rfl rfl) ?_
    refine WL.val rfl rfl rfl (Run.extract rfl rfl rfl) ?_
    refine WL.val rfl rfl rfl (Run.extract rfl rfl rfl) ?_
    refine WL.alloc hs27 Try.zeroValue40 rfl rfl rfl rfl rfl (fun b28 whs29 hs29 => ?_)
    refine WL.storeA hs29 0 Try.sizeOf40 rfl rfl rfl rfl rfl rfl rfl rfl rfl (Nat.le_of_ble_eq_true rfl) (.inl (Nat.le_of_ble_eq_true rfl)) (fun whs30 hs30 => ?_)
    refine WL.val rfl rfl rfl (Run.assign rfl rfl) ?_
    refine WL.nil ?_
    refine tkN ?_
    refine hK26 _ _ ?_
    clear hK26
    refine WC.seq (fun K31 hK31 => ?_)
    refine WC.seq (fun K32 hK32 => ?_)
    refine WC.region ?_
    refine WL.val rfl rfl rfl (Run.loadLA hs30 0 Try.isAgg40 Try.sizeOf40 rfl rfl rfl rfl rfl) ?_
    refine WL.val rfl rfl rfl (Run.loadLA hs30 1 Try.isAgg40 Try.sizeOf40 rfl rfl rfl rfl rfl) ?_
    refine WL.call rfl rfl rfl (Run.call Try.call37 rfl rfl rfl) (c_laws_eqRect _ _ _ _ _ _ _ _ _ _ _ ?_) ?_
    · first | assumption | rfl | omega
    rintro _ whs33 ⟨rfl, hs33⟩
    replace hs33 := hs30.call0 hs33
    refine ⟨_, rfl, ?_⟩
    refine WL.val rfl rfl rfl (Run.not rfl rfl) ?_
    refine WL.val rfl rfl rfl (Run.move rfl rfl) ?_
    apply WL.meetOr 4 43 47 [(0, _), (1, _), (2, _), (3, _), (8, _), (9, _), (10, _), (11, _), (12, _), (13, _), (14, _), (15, _), (16, _), (17, _), (18, _), (19, _), (20, _), (21, _), (22, _), (23, _), (24, _), (25, _), (26, _), (27, _), (28, _), (29, _), (30, _), (31, _), (32, _), (33, _), (34, _), (35, _), (36, _), (37, _), (38, _)] rfl hs33
    · intro g34 J35
      have qg34 := g34
      try simp only [decide_eq_true_eq, decide_eq_false_iff_not, Bool.not_eq_true', Bool.not_eq_false'] at qg34
      refine WL.val (wantF rfl g34) rfl rfl (Run.move rfl rfl) ?_
      refine WL.val (wantF rfl g34) rfl rfl (Run.move rfl rfl) ?_
      refine WL.val (wantF rfl g34) rfl rfl (Run.neqB Try.runUnderlying4 rfl rfl rfl) ?_
      refine WL.val rfl rfl rfl (Run.pickF rfl rfl g34 rfl) ?_
      exact WL.fin J35 hs33 rfl (orF g34) ⟨rfl, rfl, rfl, rfl, rfl, rfl, rfl, rfl, rfl, rfl, rfl, rfl, rfl, rfl, rfl, rfl, rfl, rfl, rfl, rfl, rfl, rfl, rfl, rfl, rfl, rfl, rfl, rfl, rfl, rfl, rfl, rfl, rfl, rfl, rfl, trivial⟩
    · intro g34 J35
      refine WL.skip (wantNF rfl g34) rfl rfl ?_
      refine WL.skip (wantNF rfl g34) rfl rfl ?_
      refine WL.skip (wantNF rfl g34) rfl rfl ?_
      refine WL.val rfl rfl rfl (Run.pickT rfl rfl g34 rfl) ?_
      exact WL.fin J35 hs33 rfl (orT g34) ⟨rfl, rfl, rfl, rfl, rfl, rfl, rfl, rfl, rfl, rfl, rfl, rfl, rfl, rfl, rfl, rfl, rfl, rfl, rfl, rfl, rfl, rfl, rfl, rfl, rfl, rfl, rfl, rfl, rfl, rfl, rfl, rfl, rfl, rfl, rfl, trivial⟩
    · intro whs36 hs36
      refine WL.nil ?_
      refine tkN ?_
      refine hK32 _ _ ?_
      clear hK32
      refine WC.condF rfl (by first | (simp; done) | (simp; omega)) ?_
      refine WC.skip ?_
      refine tkN ?_
      refine hK31 _ _ ?_
      clear hK31
      refine WC.seq (fun K38 hK38 => ?_)
      refine WC.seq (fun K39 hK39 => ?_)
      refine WC.region ?_
      refine WL.val rfl rfl rfl (Run.move rfl rfl) ?_
      refine WL.val rfl rfl rfl (Run.move rfl rfl) ?_
      refine WL.call rfl rfl rfl (Run.call Try.call19 rfl rfl rfl) (c_laws_toNodeS _ _ _ _ _ (SlF.st0 f_t hs36) ?_) ?_
      · first | assumption | rfl | omega
      rintro _ whs40 ⟨A41, c42, L143, rfl, hs40, ho44⟩
      replace hs40 := hs36.callF hs40
      refine ⟨_, rfl, ?_⟩
      replace hs40 := St.back [_, _] hs40
      refine WL.call rfl rfl rfl (Run.call Try.call21 rfl rfl rfl) (c_laws_eqNodeS _ _ _ _ _ _ _ _ _ (SlF.ofOwn ho25 (fun p_ hp_ => (hs40.own p_ (List.mem_append_right [_, _] (List.mem_append_right _ (List.mem_append_left _ hp_)))).1)) (SlF.ofOwn ho44 (fun p_ hp_ => (hs40.own p_ (List.mem_append_right [_, _] (List.mem_append_left _ hp_))).1)) ?_ ?_) ?_
      · first | assumption | rfl | omega
      · first | assumption | rfl | omega
      rintro _ whs45 ⟨rfl, hs45⟩
      replace hs45 := hs40.call0 hs45
      refine ⟨_, rfl, ?_⟩
      refine WL.val rfl rfl rfl (Run.not rfl rfl) ?_
      refine WL.nil ?_
      refine tkN ?_
      refine hK39 _ _ ?_
      clear hK39
      refine WC.condF rfl (by first | (simp; done) | (simp; omega)) ?_
      refine WC.skip ?_
      refine tkN ?_
      refine hK38 _ _ ?_
      clear hK38
      refine WC.seq (fun K47 hK47 => ?_)
      refine WC.region ?_
      refine WL.val rfl rfl rfl (Run.assign rfl rfl) ?_
      refine WL.nil ?_
      refine tkN ?_
      refine hK47 _ _ ?_
      clear hK47
      refine WC.ret ?_
      refine retV1 rfl (resV.tmp rfl) ?_
      refine ⟨congrArg Ending.returned ?_, hs45.nil⟩
      rfl
set_option maxHeartbeats 4000000 in
theorem c_laws_FnExactBeside (A_t : Option Addr) (n_t c_t : Nat) (t : List NodeD) (p : Int) (side : Int) (w_ : Int) (h_ : Int) (w : World) (f_t : SlF encNode w A_t n_t t) (h1 : n_t ≤ 9223372036854775807) :
    Calls Try.prog 10 #[.slice A_t n_t c_t, i64 p, i64 side, i64 w_, i64 h_] w fun e w' => e = .returned (.bool true) ∧ St w [] [] w' := by
  have hl := f_t.len
  refine enter (vs := [.slice A_t n_t c_t, i64 p, i64 side, i64 w_, i64 h_]) 43 Try.func10 rfl Try.ntmps10 rfl rfl ?_
  have hs1 := St.init w
  refine WC.seq (fun K2 hK2 => ?_)
  refine WC.region ?_
  refine WL.val rfl rfl rfl (Run.assign rfl rfl) ?_
  refine WL.nil ?_
  refine tkN ?_
  refine hK2 _ _ ?_
  clear hK2
  refine WC.seq (fun K3 hK3 => ?_)
  refine WC.region ?_
  refine WL.val rfl rfl rfl (Run.assign rfl rfl) ?_
  refine WL.nil ?_
  refine tkN ?_
  refine hK3 _ _ ?_
  clear hK3
  refine WC.seq (fun K4 hK4 => ?_)
  refine WC.region ?_
  refine WL.val rfl rfl rfl (Run.move rfl rfl) ?_
  refine WL.val rfl rfl rfl (Run.move rfl rfl) ?_
  refine WL.call rfl rfl rfl (Run.call Try.call17 rfl rfl rfl) (c_laws_szNodeS _ _ _ _ _ _ (SlF.st0 f_t hs1) ?_ ?_ ?_) ?_
  · first | assumption | rfl | omega
  · first | assumption | rfl | omega
  · first | assumption | rfl | omega
  rintro _ whs5 ⟨rfl, hs5⟩
  replace hs5 := hs1.call0 hs5
  refine ⟨_, rfl, ?_⟩
  refine WL.val rfl rfl rfl (Run.assign rfl rfl) ?_
  refine WL.nil ?_
  refine tkN ?_
  refine hK4 _ _ ?_
  clear hK4
  refine WC.seq (fun K6 hK6 => ?_)
  refine WC.seq (fun K7 hK7 => ?_)
  refine WC.region ?_
  refine WL.val rfl rfl rfl (Run.move rfl rfl) ?_
  refine WL.val rfl rfl rfl (Run.lss rfl rfl rfl) ?_
  refine WL.nil ?_
  refine tkN ?_
  refine hK7 _ _ ?_
  clear hK7
  refine WC.cond rfl (fun h8 => ?_) (fun h8 => ?_)
  · have qh8 := h8
    try simp only [decide_eq_true_eq, decide_eq_false_iff_not, Bool.not_eq_true', Bool.not_eq_false', Bool.and_eq_true, Bool.or_eq_false_iff, within_iff, within_not] at qh8
    refine WC.seq (fun K9 hK9 => ?_)
    refine WC.region ?_
    refine WL.val rfl rfl rfl (Run.assign rfl rfl) ?_
    refine WL.nil ?_
    refine tkN ?_
    refine hK9 _ _ ?_
    clear hK9
    refine WC.ret ?_
    refine tkR ?_
    clear hK6
    refine retV1 rfl (resV.tmp rfl) ?_
    refine ⟨congrArg Ending.returned ?_, hs5.nil⟩
    rfl
  · have qh8 := h8
    try simp only [decide_eq_true_eq, decide_eq_false_iff_not, Bool.not_eq_true', Bool.not_eq_false', Bool.and_eq_true, Bool.or_eq_false_iff, within_iff, within_not] at qh8
    simp only [szR] at qh8
    have hb : n_t ≤ 1048576 := by split at qh8 <;> omega
    refine WC.skip ?_
    refine tkN ?_
    refine hK6 _ _ ?_
    clear hK6
    refine WC.seq (fun K10 hK10 => ?_)
    refine WC.region ?_
    refine WL.val rfl rfl rfl (Run.move rfl rfl) ?_
    refine WL.call rfl rfl rfl (Run.call Try.call19 rfl rfl rfl) (c_laws_toNodeS _ _ _ _ _ (SlF.st0 f_t hs5) ?_) ?_
    · first | assumption | rfl | omega
    rintro _ whs11 ⟨A12, c13, L114, rfl, hs11, ho15⟩
    replace hs11 := hs5.callF hs11
    refine ⟨_, rfl, ?_⟩
    refine WL.val rfl rfl rfl (Run.move rfl rfl) ?_
    refine WL.val rfl rfl rfl (Run.move rfl rfl) ?_
    refine WL.val rfl rfl rfl (Run.move rfl rfl) ?_
    refine WL.val rfl rfl rfl (Run.move rfl rfl) ?_
    refine WL.call rfl rfl rfl (Run.call Try.call40 rfl rfl rfl) (c_spec_Beside _ _ _ _ _ _ _ _ _ (SlF.ofOwn ho15 (fun p_ hp_ => (hs11.own p_ (List.mem_append_left _ hp_)).1)) ?_) ?_
    · first | assumption | rfl | omega
    rintro _ whs16 ⟨rfl, hs16⟩
    replace hs16 := hs11.call0 hs16
    refine ⟨_, rfl, ?_⟩
    refine WL.val rfl rfl rfl (Run.assign rfl rfl) ?_
    refine WL.nil ?_
    refine tkN ?_
    refine hK10 _ _ ?_
    clear hK10
    refine WC.seq (fun K17 hK17 => ?_)
    refine WC.region ?_
    refine WL.val rfl rfl rfl (Run.move rfl rfl) ?_
    refine WL.call rfl rfl rfl (Run.call Try.call19 rfl rfl rfl) (c_laws_toNodeS _ _ _ _ _ (SlF.st0 f_t hs16) ?_) ?_
    · first | assumption | rfl | omega
    rintro _ whs18 ⟨A19, c20, L121, rfl, hs18, ho22⟩
    replace hs18 := hs16.callF hs18
    refine ⟨_, rfl, ?_⟩
    refine WL.val rfl rfl rfl (Run.assign rfl rfl) ?_
    refine WL.nil ?_
    refine tkN ?_
    refine hK17 _ _ ?_
    clear hK17
    refine WC.seq (fun K23 hK23 => ?_)
    refine WC.region ?_
    refine WL.val rfl rfl rfl (Run.move rfl rfl) ?_
    refine WL.val rfl rfl rfl (Run.move rfl rfl) ?_
    refine WL.val rfl rfl rfl (Run.move rfl rfl) ?_
    refine WL.val rfl rfl rfl (Run.move rfl rfl) ?_
    refine WL.val rfl rfl rfl (Run.move rfl rfl) ?_
    refine WL.call rfl rfl rfl (Run.call Try.call41 rfl rfl rfl) (c_impl_Beside _ _ _ _ _ _ _ _ _ (SlF.ofOwn ho22 (fun p_ hp_ => (hs18.own p_ (List.mem_append_left _ hp_)).1)) ?_) ?_
    · first | assumption | rfl | omega
    rintro _ whs24 ⟨rfl, hs24⟩
    replace hs24 := hs18.call0 hs24
    refine ⟨_, rfl, ?_⟩
    refine WL.val rfl rfl rfl (Run.assign rfl rfl) ?_
    refine WL.nil ?_
    refine tkN ?_
    refine hK23 _ _ ?_
    clear hK23
    refine WC.seq (fun K25 hK25 => ?_)
    refine WC.seq (fun K26 hK26 => ?_)
    refine WC.region ?_
    refine WL.val rfl rfl rfl (Run.move rfl rfl) ?_
    refine WL.val rfl rfl rfl (Run.move rfl rfl) ?_
    refine WL.val rfl rfl rfl (Run.neq rfl rfl rfl) ?_
    refine WL.nil ?_
    refine tkN ?_
    refine hK26 _ _ ?_
    clear hK26
    refine WC.condF rfl (by first | (simp; done) | (simp; omega)) ?_
    refine WC.skip ?_
    refine tkN ?_
    refine hK25 _ _ ?_
    clear hK25
    refine WC.seq (fun K28 hK28 => ?_)
    refine WC.seq (fun K29 hK29 => ?_)
    refine WC.region ?_
    refine WL.val rfl rfl rfl (Run.move rfl rfl) ?_
    refine WL.val rfl rfl rfl (Run.move rfl rfl) ?_
    refine WL.call rfl rfl rfl (Run.call Try.call19 rfl rfl rfl) (c_laws_toNodeS _ _ _ _ _ (SlF.st0 f_t hs24) ?_) ?_
    · first | assumption | rfl | omega
    rintro _ whs30 ⟨A31, c32, L133, rfl, hs30, ho34⟩
    replace hs30 := hs24.callF hs30
    refine ⟨_, rfl, ?_⟩
    refine WL.call rfl rfl rfl (Run.call Try.call21 rfl rfl rfl) (c_laws_eqNodeS _ _ _ _ _ _ _ _ _ (SlF.ofOwn ho22 (fun p_ hp_ => (hs30.own p_ (List.mem_append_right _ (List.mem_append_left _ hp_))).1)) (SlF.ofOwn ho34 (fun p_ hp_ => (hs30.own p_ (List.mem_append_left _ hp_)).1)) ?_ ?_) ?_
    · first | assumption | rfl | omega
    · first | assumption | rfl | omega
    rintro _ whs35 ⟨rfl, hs35⟩
    replace hs35 := hs30.call0 hs35
    refine ⟨_, rfl, ?_⟩
    refine WL.val rfl rfl rfl (Run.not rfl rfl) ?_
    refine WL.nil ?_
    refine tkN ?_
    refine hK29 _ _ ?_
    clear hK29
    refine WC.condF rfl (by first | (simp; done) | (simp; omega)) ?_
    refine WC.skip ?_
    refine tkN ?_
    refine hK28 _ _ ?_
    clear hK28
    refine WC.seq (fun K37 hK37 => ?_)
    refine WC.region ?_
    refine WL.val rfl rfl rfl (Run.assign rfl rfl) ?_
    refine WL.nil ?_
    refine tkN ?_
    refine hK37 _ _ ?_
    clear hK37
    refine WC.ret ?_
    refine retV1 rfl (resV.tmp rfl) ?_
    refine ⟨congrArg Ending.returned ?_, hs35.nil⟩
    rfl
end Go.Proofs.Ytghcicggamkjgaa
