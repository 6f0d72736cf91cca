/- Walks of Go functions, printed by a program (wip/gen). -/
import Derived.Test.YtpiimkfonlijdaaR3
namespace Go.Proofs.Ytpiimkfonlijdaa
open Go Go.RowKit
set_option linter.unusedVariables false
set_option linter.unusedSimpArgs false
set_option maxHeartbeats 4000000 in
theorem c_laws_FnExactCellsRead (A_b : Option Addr) (n_b c_b : Nat) (b : List UInt8) (p : Int) (n : Int) (w : World) (f_b : SlF encB w A_b n_b b) (h1 : n_b ≤ 9223372036854775807) :
    Calls Try.prog 6 #[.slice A_b n_b c_b, i64 p, i64 n] w fun e w' => e = .returned (.bool true) ∧ St w [] [] w' := by
  have hl := f_b.len
  have hol := cellsRd_len (b := b) (p := p) (n := n)
  refine enter (vs := [.slice A_b n_b c_b, i64 p, i64 n]) 124 Try.func6 rfl Try.ntmps6 rfl rfl ?_
  have hs1 := St.init w
  refine WC.seq (fun K2 hK2 => ?_)
  refine WC.region ?_
  refine WL.val rfl rfl rfl (Run.assign rfl rfl) ?_
  refine WL.nil ?_
  refine tkN ?_
  refine hK2 _ _ ?_
  clear hK2
  refine WC.seq (fun K3 hK3 => ?_)
  refine WC.seq (fun K4 hK4 => ?_)
  refine WC.region ?_
  refine WL.val rfl rfl rfl (Run.move rfl rfl) ?_
  refine WL.val rfl rfl rfl (Run.lenSl Try.runUnderlying22 rfl rfl) ?_
  refine WL.val rfl rfl rfl (Run.gtr rfl rfl rfl) ?_
  refine WL.nil ?_
  refine tkN ?_
  refine hK4 _ _ ?_
  clear hK4
  refine WC.cond rfl (fun h5 => ?_) (fun h5 => ?_)
  · have qh5 := h5
    try simp only [decide_eq_true_eq, decide_eq_false_iff_not, Bool.not_eq_true', Bool.not_eq_false', Bool.and_eq_true, Bool.or_eq_false_iff, within_iff, within_not] at qh5
    refine WC.seq (fun K6 hK6 => ?_)
    refine WC.region ?_
    refine WL.val rfl rfl rfl (Run.assign rfl rfl) ?_
    refine WL.nil ?_
    refine tkN ?_
    refine hK6 _ _ ?_
    clear hK6
    refine WC.ret ?_
    refine tkR ?_
    clear hK3
    refine retV1 rfl (resV.tmp rfl) ?_
    refine ⟨congrArg Ending.returned ?_, hs1.nil⟩
    rfl
  · have qh5 := h5
    try simp only [decide_eq_true_eq, decide_eq_false_iff_not, Bool.not_eq_true', Bool.not_eq_false', Bool.and_eq_true, Bool.or_eq_false_iff, within_iff, within_not] at qh5
    refine WC.skip ?_
    refine tkN ?_
    refine hK3 _ _ ?_
    clear hK3
    refine WC.seq (fun K7 hK7 => ?_)
    refine WC.region ?_
    refine WL.val rfl rfl rfl (Run.move rfl rfl) ?_
    refine WL.call rfl rfl rfl (Run.call Try.call28 rfl rfl rfl) (c_laws_toByteS _ _ _ _ _ (SlF.st0 f_b hs1) ?_) ?_
    · first | assumption | rfl | omega
    rintro _ whs8 ⟨A9, c10, L111, rfl, hs8, ho12⟩
    replace hs8 := hs1.callF hs8
    refine ⟨_, rfl, ?_⟩
    refine WL.val rfl rfl rfl (Run.move rfl rfl) ?_
    refine WL.val rfl rfl rfl (Run.move rfl rfl) ?_
    refine WL.call rfl rfl rfl (Run.call Try.call27 rfl rfl rfl) (c_spec_CellsRead _ _ _ _ _ _ _ (SlF.ofOwn ho12 (fun p_ hp_ => (hs8.own p_ (List.mem_append_left _ hp_)).1)) (OwnF.cap ho12) ?_) ?_
    · first | assumption | rfl | omega
    rintro _ whs13 ⟨A14, c15, L116, rfl, hs13, ho17⟩
    replace hs13 := hs8.callF hs13
    refine ⟨_, rfl, ?_⟩
    refine WL.val rfl rfl rfl (Run.move rfl rfl) ?_
    refine WL.val rfl rfl rfl (Run.extract rfl rfl rfl) ?_
    refine WL.val rfl rfl rfl (Run.extract rfl rfl rfl) ?_
    refine WL.val rfl rfl rfl (Run.extract rfl rfl rfl) ?_
    refine WL.val rfl rfl rfl (Run.assign rfl rfl) ?_
    refine WL.val rfl rfl rfl (Run.assign rfl rfl) ?_
    refine WL.val rfl rfl rfl (Run.assign rfl rfl) ?_
    refine WL.nil ?_
    refine tkN ?_
    refine hK7 _ _ ?_
    clear hK7
    refine WC.seq (fun K18 hK18 => ?_)
    refine WC.region ?_
    refine WL.val rfl rfl rfl (Run.move rfl rfl) ?_
    refine WL.call rfl rfl rfl (Run.call Try.call28 rfl rfl rfl) (c_laws_toByteS _ _ _ _ _ (SlF.st0 f_b hs13) ?_) ?_
    · first | assumption | rfl | omega
    rintro _ whs19 ⟨A20, c21, L122, rfl, hs19, ho23⟩
    replace hs19 := hs13.callF hs19
    refine ⟨_, rfl, ?_⟩
    refine WL.val rfl rfl rfl (Run.assign rfl rfl) ?_
    refine WL.nil ?_
    refine tkN ?_
    refine hK18 _ _ ?_
    clear hK18
    refine WC.seq (fun K24 hK24 => ?_)
    refine WC.region ?_
    refine WL.val rfl rfl rfl (Run.move rfl rfl) ?_
    refine WL.val rfl rfl rfl (Run.move rfl rfl) ?_
    refine WL.val rfl rfl rfl (Run.move rfl rfl) ?_
    refine WL.call rfl rfl rfl (Run.call Try.call29 rfl rfl rfl) (c_impl_CellsRead _ _ _ _ _ _ _ (SlF.ofOwn ho23 (fun p_ hp_ => (hs19.own p_ (List.mem_append_left _ hp_)).1)) (OwnF.cap ho23) ?_) ?_
    · first | assumption | rfl | omega
    rintro _ whs25 ⟨A26, c27, L128, rfl, hs25, ho29⟩
    replace hs25 := hs19.callF hs25
    refine ⟨_, rfl, ?_⟩
    refine WL.val rfl rfl rfl (Run.move rfl rfl) ?_
    refine WL.val rfl rfl rfl (Run.extract rfl rfl rfl) ?_
    refine WL.val rfl rfl rfl (Run.extract rfl rfl rfl) ?_
    refine WL.val rfl rfl rfl (Run.extract rfl rfl rfl) ?_
    refine WL.val rfl rfl rfl (Run.assign rfl rfl) ?_
    refine WL.val rfl rfl rfl (Run.assign rfl rfl) ?_
    refine WL.val rfl rfl rfl (Run.assign rfl rfl) ?_
    refine WL.nil ?_
    refine tkN ?_
    refine hK24 _ _ ?_
    clear hK24
    refine WC.seq (fun K30 hK30 => ?_)
    refine WC.seq (fun K31 hK31 => ?_)
    refine WC.region ?_
    refine WL.val rfl rfl rfl (Run.move rfl rfl) ?_
    refine WL.val rfl rfl rfl (Run.move rfl rfl) ?_
    refine WL.call rfl rfl rfl (Run.call Try.call20 rfl rfl rfl) (c_laws_eqCellS _ _ _ _ _ _ _ _ _ (SlF.ofOwn ho29 (fun p_ hp_ => (hs25.own p_ (List.mem_append_left _ hp_)).1)) (SlF.ofOwn ho17 (fun p_ hp_ => (hs25.own p_ (List.mem_append_right _ (List.mem_append_right _ (List.mem_append_left _ hp_)))).1)) ?_ ?_) ?_
    · first | assumption | rfl | omega
    · first | assumption | rfl | omega
    rintro _ whs32 ⟨rfl, hs32⟩
    replace hs32 := hs25.call0 hs32
    refine ⟨_, rfl, ?_⟩
    refine WL.val rfl rfl rfl (Run.not rfl rfl) ?_
    refine WL.val rfl rfl rfl (Run.move rfl rfl) ?_
    apply WL.meetOr 4 46 50 [(0, _), (1, _), (2, _), (6, _), (7, _), (8, _), (9, _), (10, _), (11, _), (12, _), (13, _), (20, _), (21, _), (22, _), (23, _), (24, _), (25, _), (26, _), (27, _), (28, _), (29, _), (30, _), (31, _), (32, _), (33, _), (34, _), (35, _), (36, _), (37, _), (38, _), (39, _), (40, _), (41, _)] rfl hs32
    · intro g33 J34
      have qg33 := g33
      try simp only [decide_eq_true_eq, decide_eq_false_iff_not, Bool.not_eq_true', Bool.not_eq_false'] at qg33
      refine WL.val (wantF rfl g33) rfl rfl (Run.move rfl rfl) ?_
      refine WL.val (wantF rfl g33) rfl rfl (Run.move rfl rfl) ?_
      refine WL.val (wantF rfl g33) rfl rfl (Run.neq rfl rfl rfl) ?_
      refine WL.val rfl rfl rfl (Run.pickF rfl rfl g33 rfl) ?_
      exact WL.fin J34 hs32 rfl (orF g33) ⟨rfl, rfl, rfl, rfl, rfl, rfl, rfl, rfl, rfl, rfl, rfl, rfl, rfl, rfl, rfl, rfl, rfl, rfl, rfl, rfl, rfl, rfl, rfl, rfl, rfl, rfl, rfl, rfl, rfl, rfl, rfl, rfl, rfl, trivial⟩
    · intro g33 J34
      refine WL.skip (wantNF rfl g33) rfl rfl ?_
      refine WL.skip (wantNF rfl g33) rfl rfl ?_
      refine WL.skip (wantNF rfl g33) rfl rfl ?_
      refine WL.val rfl rfl rfl (Run.pickT rfl rfl g33 rfl) ?_
      exact WL.fin J34 hs32 rfl (orT g33) ⟨rfl, rfl, rfl, rfl, rfl, rfl, rfl, rfl, rfl, rfl, rfl, rfl, rfl, rfl, rfl, rfl, rfl, rfl, rfl, rfl, rfl, rfl, rfl, rfl, rfl, rfl, rfl, rfl, rfl, rfl, rfl, rfl, rfl, trivial⟩
    · intro whs35 hs35
      refine WL.val rfl rfl rfl (Run.move rfl rfl) ?_
      apply WL.meetOr 4 51 55 [(0, _), (1, _), (2, _), (6, _), (7, _), (8, _), (9, _), (10, _), (11, _), (12, _), (13, _), (20, _), (21, _), (22, _), (23, _), (24, _), (25, _), (26, _), (27, _), (28, _), (29, _), (30, _), (31, _), (32, _), (33, _), (34, _), (35, _), (36, _), (37, _), (38, _), (39, _), (40, _), (41, _)] rfl hs35
      · intro g36 J37
        have qg36 := g36
        try simp only [decide_eq_true_eq, decide_eq_false_iff_not, Bool.not_eq_true', Bool.not_eq_false'] at qg36
        refine WL.val (wantF rfl g36) rfl rfl (Run.move rfl rfl) ?_
        refine WL.val (wantF rfl g36) rfl rfl (Run.move rfl rfl) ?_
        refine WL.val (wantF rfl g36) rfl rfl (Run.neqB Try.runUnderlying4 rfl rfl rfl) ?_
        refine WL.val rfl rfl rfl (Run.pickF rfl rfl g36 rfl) ?_
        exact WL.fin J37 hs35 rfl (orF g36) ⟨rfl, rfl, rfl, rfl, rfl, rfl, rfl, rfl, rfl, rfl, rfl, rfl, rfl, rfl, rfl, rfl, rfl, rfl, rfl, rfl, rfl, rfl, rfl, rfl, rfl, rfl, rfl, rfl, rfl, rfl, rfl, rfl, rfl, trivial⟩
      · intro g36 J37
        refine WL.skip (wantNF rfl g36) rfl rfl ?_
        refine WL.skip (wantNF rfl g36) rfl rfl ?_
        refine WL.skip (wantNF rfl g36) rfl rfl ?_
        refine WL.val rfl rfl rfl (Run.pickT rfl rfl g36 rfl) ?_
        exact WL.fin J37 hs35 rfl (orT g36) ⟨rfl, rfl, rfl, rfl, rfl, rfl, rfl, rfl, rfl, rfl, rfl, rfl, rfl, rfl, rfl, rfl, rfl, rfl, rfl, rfl, rfl, rfl, rfl, rfl, rfl, rfl, rfl, rfl, rfl, rfl, rfl, rfl, rfl, trivial⟩
      · intro whs38 hs38
        refine WL.nil ?_
        refine tkN ?_
        refine hK31 _ _ ?_
        clear hK31
        refine WC.condF rfl (by first | (simp; done) | (simp; omega)) ?_
        refine WC.skip ?_
        refine tkN ?_
        refine hK30 _ _ ?_
        clear hK30
        refine WC.seq (fun K40 hK40 => ?_)
        refine WC.seq (fun K41 hK41 => ?_)
        refine WC.region ?_
        refine WL.val rfl rfl rfl (Run.move rfl rfl) ?_
        refine WL.val rfl rfl rfl (Run.move rfl rfl) ?_
        refine WL.call rfl rfl rfl (Run.call Try.call28 rfl rfl rfl) (c_laws_toByteS _ _ _ _ _ (SlF.st0 f_b hs38) ?_) ?_
        · first | assumption | rfl | omega
        rintro _ whs42 ⟨A43, c44, L145, rfl, hs42, ho46⟩
        replace hs42 := hs38.callF hs42
        refine ⟨_, rfl, ?_⟩
        refine WL.call rfl rfl rfl (Run.call Try.call19 rfl rfl rfl) (c_laws_eqByteS _ _ _ _ _ _ _ _ _ (SlF.ofOwn ho23 (fun p_ hp_ => (hs42.own p_ (List.mem_append_right _ (List.mem_append_right _ (List.mem_append_left _ hp_)))).1)) (SlF.ofOwn ho46 (fun p_ hp_ => (hs42.own p_ (List.mem_append_left _ hp_)).1)) ?_ ?_) ?_
        · first | assumption | rfl | omega
        · first | assumption | rfl | omega
        rintro _ whs47 ⟨rfl, hs47⟩
        replace hs47 := hs42.call0 hs47
        refine ⟨_, rfl, ?_⟩
        refine WL.val rfl rfl rfl (Run.not rfl rfl) ?_
        refine WL.nil ?_
        refine tkN ?_
        refine hK41 _ _ ?_
        clear hK41
        refine WC.condF rfl (by first | (simp; done) | (simp; omega)) ?_
        refine WC.skip ?_
        refine tkN ?_
        refine hK40 _ _ ?_
        clear hK40
        refine WC.seq (fun K49 hK49 => ?_)
        refine WC.region ?_
        refine WL.val rfl rfl rfl (Run.assign rfl rfl) ?_
        refine WL.nil ?_
        refine tkN ?_
        refine hK49 _ _ ?_
        clear hK49
        refine WC.seq (fun K50 hK50 => ?_)
        refine WC.region ?_
        refine WL.val rfl rfl rfl (Run.move rfl rfl) ?_
        refine WL.val rfl rfl rfl (Run.move rfl rfl) ?_
        refine WL.call rfl rfl rfl (Run.call Try.call22 rfl rfl rfl) (c_laws_markByteS _ _ _ _ _ ho23 (fun p_ hp_ => (hs47.own p_ (List.mem_append_right _ (List.mem_append_right _ (List.mem_append_left _ hp_)))).1) ?_ ?_ ?_) ?_
        · first | assumption | rfl | omega
        · first | assumption | rfl | omega
        · first | assumption | rfl | omega
        rintro _ whs51 ⟨L152, rfl, hs51, ho53⟩
        replace hs51 := St.lend (St.perm hs47 (L' := L122 ++ _) (perm_front (A := L145) (perm_front (A := L128) (List.Perm.refl _)))) hs51
        refine ⟨_, rfl, ?_⟩
        refine WL.val rfl rfl rfl (Run.assign rfl rfl) ?_
        refine WL.nil ?_
        refine tkN ?_
        refine hK50 _ _ ?_
        clear hK50
        refine WC.seq (fun K54 hK54 => ?_)
        refine WC.seq (fun K55 hK55 => ?_)
        refine WC.region ?_
        refine WL.val rfl rfl rfl (Run.move rfl rfl) ?_
        refine WL.val rfl rfl rfl (Run.lss rfl rfl rfl) ?_
        refine WL.val rfl rfl rfl (Run.move rfl rfl) ?_
        apply WL.meetOr 5 66 71 [(0, _), (1, _), (2, _), (6, _), (7, _), (8, _), (9, _), (10, _), (11, _), (12, _), (13, _), (14, _), (20, _), (21, _), (22, _), (23, _), (24, _), (25, _), (26, _), (27, _), (28, _), (29, _), (30, _), (31, _), (32, _), (33, _), (34, _), (35, _), (36, _), (37, _), (38, _), (39, _), (40, _), (41, _), (55, _), (56, _), (57, _), (58, _), (59, _), (60, _), (61, _), (62, _), (63, _)] rfl hs51
        · intro g56 J57
          have qg56 := g56
          try simp only [decide_eq_true_eq, decide_eq_false_iff_not, Bool.not_eq_true', Bool.not_eq_false'] at qg56
          refine WL.val (wantF rfl g56) rfl rfl (Run.move rfl rfl) ?_
          refine WL.val (wantF rfl g56) rfl rfl (Run.move rfl rfl) ?_
          refine WL.call (wantF rfl g56) rfl rfl (Run.call Try.call20 rfl rfl rfl) (c_laws_eqCellS _ _ _ _ _ _ _ _ _ (SlF.ofOwn ho29 (fun p_ hp_ => (hs51.own p_ (List.mem_append_right _ (List.mem_append_right _ (List.mem_append_left _ hp_)))).1)) (SlF.ofOwn ho17 (fun p_ hp_ => (hs51.own p_ (List.mem_append_right _ (List.mem_append_right _ (List.mem_append_right _ (List.mem_append_left _ hp_))))).1)) ?_ ?_) ?_
          · first | assumption | rfl | omega
          · first | assumption | rfl | omega
          rintro _ whs58 ⟨rfl, hs58⟩
          replace hs58 := hs51.call0 hs58
          refine ⟨_, rfl, ?_⟩
          refine WL.val (wantF rfl g56) rfl rfl (Run.not rfl rfl) ?_
          refine WL.val rfl rfl rfl (Run.pickF rfl rfl g56 rfl) ?_
          exact WL.fin J57 hs58 rfl (orF g56) ⟨rfl, rfl, rfl, rfl, rfl, rfl, rfl, rfl, rfl, rfl, rfl, rfl, rfl, rfl, rfl, rfl, rfl, rfl, rfl, rfl, rfl, rfl, rfl, rfl, rfl, rfl, rfl, rfl, rfl, rfl, rfl, rfl, rfl, rfl, rfl, rfl, rfl, rfl, rfl, rfl, rfl, rfl, rfl, trivial⟩
        · intro g56 J57
          refine WL.skip (wantNF rfl g56) rfl rfl ?_
          refine WL.skip (wantNF rfl g56) rfl rfl ?_
          refine WL.skip (wantNF rfl g56) rfl rfl ?_
          refine WL.skip (wantNF rfl g56) rfl rfl ?_
          refine WL.val rfl rfl rfl (Run.pickT rfl rfl g56 rfl) ?_
          exact WL.fin J57 hs51 rfl (orT g56) ⟨rfl, rfl, rfl, rfl, rfl, rfl, rfl, rfl, rfl, rfl, rfl, rfl, rfl, rfl, rfl, rfl, rfl, rfl, rfl, rfl, rfl, rfl, rfl, rfl, rfl, rfl, rfl, rfl, rfl, rfl, rfl, rfl, rfl, rfl, rfl, rfl, rfl, rfl, rfl, rfl, rfl, rfl, rfl, trivial⟩
        · intro whs59 hs59
          refine WL.val rfl rfl rfl (Run.move rfl rfl) ?_
          apply WL.meetOr 4 72 76 [(0, _), (1, _), (2, _), (6, _), (7, _), (8, _), (9, _), (10, _), (11, _), (12, _), (13, _), (14, _), (20, _), (21, _), (22, _), (23, _), (24, _), (25, _), (26, _), (27, _), (28, _), (29, _), (30, _), (31, _), (32, _), (33, _), (34, _), (35, _), (36, _), (37, _), (38, _), (39, _), (40, _), (41, _), (55, _), (56, _), (57, _), (58, _), (59, _), (60, _), (61, _), (62, _), (63, _)] rfl hs59
          · intro g60 J61
            have qg60 := g60
            try simp only [decide_eq_true_eq, decide_eq_false_iff_not, Bool.not_eq_true', Bool.not_eq_false'] at qg60
            refine WL.val (wantF rfl g60) rfl rfl (Run.move rfl rfl) ?_
            refine WL.val (wantF rfl g60) rfl rfl (Run.move rfl rfl) ?_
            refine WL.val (wantF rfl g60) rfl rfl (Run.neq rfl rfl rfl) ?_
            refine WL.val rfl rfl rfl (Run.pickF rfl rfl g60 rfl) ?_
            exact WL.fin J61 hs59 rfl (orF g60) ⟨rfl, rfl, rfl, rfl, rfl, rfl, rfl, rfl, rfl, rfl, rfl, rfl, rfl, rfl, rfl, rfl, rfl, rfl, rfl, rfl, rfl, rfl, rfl, rfl, rfl, rfl, rfl, rfl, rfl, rfl, rfl, rfl, rfl, rfl, rfl, rfl, rfl, rfl, rfl, rfl, rfl, rfl, rfl, trivial⟩
          · intro g60 J61
            refine WL.skip (wantNF rfl g60) rfl rfl ?_
            refine WL.skip (wantNF rfl g60) rfl rfl ?_
            refine WL.skip (wantNF rfl g60) rfl rfl ?_
            refine WL.val rfl rfl rfl (Run.pickT rfl rfl g60 rfl) ?_
            exact WL.fin J61 hs59 rfl (orT g60) ⟨rfl, rfl, rfl, rfl, rfl, rfl, rfl, rfl, rfl, rfl, rfl, rfl, rfl, rfl, rfl, rfl, rfl, rfl, rfl, rfl, rfl, rfl, rfl, rfl, rfl, rfl, rfl, rfl, rfl, rfl, rfl, rfl, rfl, rfl, rfl, rfl, rfl, rfl, rfl, rfl, rfl, rfl, rfl, trivial⟩
          · intro whs62 hs62
            refine WL.val rfl rfl rfl (Run.move rfl rfl) ?_
            apply WL.meetOr 4 77 81 [(0, _), (1, _), (2, _), (6, _), (7, _), (8, _), (9, _), (10, _), (11, _), (12, _), (13, _), (14, _), (20, _), (21, _), (22, _), (23, _), (24, _), (25, _), (26, _), (27, _), (28, _), (29, _), (30, _), (31, _), (32, _), (33, _), (34, _), (35, _), (36, _), (37, _), (38, _), (39, _), (40, _), (41, _), (55, _), (56, _), (57, _), (58, _), (59, _), (60, _), (61, _), (62, _), (63, _)] rfl hs62
            · intro g63 J64
              have qg63 := g63
              try simp only [decide_eq_true_eq, decide_eq_false_iff_not, Bool.not_eq_true', Bool.not_eq_false'] at qg63
              refine WL.val (wantF rfl g63) rfl rfl (Run.move rfl rfl) ?_
              refine WL.val (wantF rfl g63) rfl rfl (Run.move rfl rfl) ?_
              refine WL.val (wantF rfl g63) rfl rfl (Run.neqB Try.runUnderlying4 rfl rfl rfl) ?_
              refine WL.val rfl rfl rfl (Run.pickF rfl rfl g63 rfl) ?_
              exact WL.fin J64 hs62 rfl (orF g63) ⟨rfl, rfl, rfl, rfl, rfl, rfl, rfl, rfl, rfl, rfl, rfl, rfl, rfl, rfl, rfl, rfl, rfl, rfl, rfl, rfl, rfl, rfl, rfl, rfl, rfl, rfl, rfl, rfl, rfl, rfl, rfl, rfl, rfl, rfl, rfl, rfl, rfl, rfl, rfl, rfl, rfl, rfl, rfl, trivial⟩
            · intro g63 J64
              refine WL.skip (wantNF rfl g63) rfl rfl ?_
              refine WL.skip (wantNF rfl g63) rfl rfl ?_
              refine WL.skip (wantNF rfl g63) rfl rfl ?_
              refine WL.val rfl rfl rfl (Run.pickT rfl rfl g63 rfl) ?_
              exact WL.fin J64 hs62 rfl (orT g63) ⟨rfl, rfl, rfl, rfl, rfl, rfl, rfl, rfl, rfl, rfl, rfl, rfl, rfl, rfl, rfl, rfl, rfl, rfl, rfl, rfl, rfl, rfl, rfl, rfl, rfl, rfl, rfl, rfl, rfl, rfl, rfl, rfl, rfl, rfl, rfl, rfl, rfl, rfl, rfl, rfl, rfl, rfl, rfl, trivial⟩
            · intro whs65 hs65
              refine WL.nil ?_
              refine tkN ?_
              refine hK55 _ _ ?_
              clear hK55
              refine WC.condF rfl (by first | (simp; done) | (simp; omega)) ?_
              refine WC.skip ?_
              refine tkN ?_
              refine hK54 _ _ ?_
              clear hK54
              refine WC.seq (fun K67 hK67 => ?_)
              refine WC.region ?_
              refine WL.val rfl rfl rfl (Run.assign rfl rfl) ?_
              refine WL.nil ?_
              refine tkN ?_
              refine hK67 _ _ ?_
              clear hK67
              refine WC.seq (fun K68 hK68 => ?_)
              refine WC.region ?_
              refine WL.val rfl rfl rfl (Run.move rfl rfl) ?_
              refine WL.val rfl rfl rfl (Run.move rfl rfl) ?_
              refine WL.call rfl rfl rfl (Run.call Try.call21 rfl rfl rfl) (c_laws_markCellS _ _ _ _ _ ho29 (fun p_ hp_ => (hs65.own p_ (List.mem_append_right _ (List.mem_append_right _ (List.mem_append_left _ hp_)))).1) ?_ ?_ ?_) ?_
              · first | assumption | rfl | omega
              · first | assumption | rfl | omega
              · first | assumption | rfl | omega
              rintro _ whs69 ⟨L170, rfl, hs69, ho71⟩
              replace hs69 := St.lend (St.perm hs65 (L' := L128 ++ _) (perm_front (A := L152) (perm_front (A := L145) (List.Perm.refl _)))) hs69
              refine ⟨_, rfl, ?_⟩
              refine WL.val rfl rfl rfl (Run.assign rfl rfl) ?_
              refine WL.nil ?_
              refine tkN ?_
              refine hK68 _ _ ?_
              clear hK68
              refine WC.seq (fun K72 hK72 => ?_)
              refine WC.region ?_
              refine WL.val rfl rfl rfl (Run.assign rfl rfl) ?_
              refine WL.nil ?_
              refine tkN ?_
              refine hK72 _ _ ?_
              clear hK72
              refine WC.seq (fun K73 hK73 => ?_)
              refine WC.region ?_
              refine WL.val rfl rfl rfl (Run.move rfl rfl) ?_
              refine WL.val rfl rfl rfl (Run.move rfl rfl) ?_
              refine WL.call rfl rfl rfl (Run.call Try.call30 rfl rfl rfl) (c_laws_heldCellS _ _ _ _ _ _ (SlF.ofOwn ho71 (fun p_ hp_ => (hs69.own p_ (List.mem_append_left _ hp_)).1)) ?_ ?_ ?_ ?_) ?_
              · first | assumption | rfl | omega
              · first | assumption | rfl | omega
              · first | assumption | rfl | omega
              · first | assumption | rfl | omega
              rintro _ whs74 ⟨rfl, hs74⟩
              replace hs74 := hs69.call0 hs74
              refine ⟨_, rfl, ?_⟩
              refine WL.val rfl rfl rfl (Run.assign rfl rfl) ?_
              refine WL.nil ?_
              refine tkN ?_
              refine hK73 _ _ ?_
              clear hK73
              refine WC.seq (fun K75 hK75 => ?_)
              refine WC.seq (fun K76 hK76 => ?_)
              refine WC.region ?_
              refine WL.val rfl rfl rfl (Run.move rfl rfl) ?_
              refine WL.val rfl rfl rfl (Run.lss rfl rfl rfl) ?_
              refine WL.nil ?_
              refine tkN ?_
              refine hK76 _ _ ?_
              clear hK76
              refine WC.condF rfl (by first | (simp; done) | (simp; omega)) ?_
              refine WC.skip ?_
              refine tkN ?_
              refine hK75 _ _ ?_
              clear hK75
              refine WC.seq (fun K78 hK78 => ?_)
              refine WC.seq (fun K79 hK79 => ?_)
              refine WC.region ?_
              refine WL.val rfl rfl rfl (Run.move rfl rfl) ?_
              refine WL.val rfl rfl rfl (Run.move rfl rfl) ?_
              refine WL.val rfl rfl rfl (Run.neq rfl rfl rfl) ?_
              refine WL.nil ?_
              refine tkN ?_
              refine hK79 _ _ ?_
              clear hK79
              refine WC.condF rfl (by first | (simp; done) | (simp; omega)) ?_
              refine WC.skip ?_
              refine tkN ?_
              refine hK78 _ _ ?_
              clear hK78
              refine WC.seq (fun K81 hK81 => ?_)
              refine WC.region ?_
              refine WL.val rfl rfl rfl (Run.move rfl rfl) ?_
              refine WL.call rfl rfl rfl (Run.call Try.call28 rfl rfl rfl) (c_laws_toByteS _ _ _ _ _ (SlF.st0 f_b hs74) ?_) ?_
              · first | assumption | rfl | omega
              rintro _ whs82 ⟨A83, c84, L185, rfl, hs82, ho86⟩
              replace hs82 := hs74.callF hs82
              refine ⟨_, rfl, ?_⟩
              refine WL.val rfl rfl rfl (Run.move rfl rfl) ?_
              refine WL.val rfl rfl rfl (Run.move rfl rfl) ?_
              refine WL.call rfl rfl rfl (Run.call Try.call29 rfl rfl rfl) (c_impl_CellsRead _ _ _ _ _ _ _ (SlF.ofOwn ho86 (fun p_ hp_ => (hs82.own p_ (List.mem_append_left _ hp_)).1)) (OwnF.cap ho86) ?_) ?_
              · first | assumption | rfl | omega
              rintro _ whs87 ⟨A88, c89, L190, rfl, hs87, ho91⟩
              replace hs87 := hs82.callF hs87
              refine ⟨_, rfl, ?_⟩
              refine WL.val rfl rfl rfl (Run.move rfl rfl) ?_
              refine WL.val rfl rfl rfl (Run.extract rfl rfl rfl) ?_
              refine WL.val rfl rfl rfl (Run.extract rfl rfl rfl) ?_
              refine WL.val rfl rfl rfl (Run.extract rfl rfl rfl) ?_
              refine WL.val rfl rfl rfl (Run.assign rfl rfl) ?_
              refine WL.val rfl rfl rfl (Run.assign rfl rfl) ?_
              refine WL.val rfl rfl rfl (Run.assign rfl rfl) ?_
              refine WL.nil ?_
              refine tkN ?_
              refine hK81 _ _ ?_
              clear hK81
              refine WC.seq (fun K92 hK92 => ?_)
              refine WC.seq (fun K93 hK93 => ?_)
              refine WC.region ?_
              refine WL.val rfl rfl rfl (Run.move rfl rfl) ?_
              refine WL.val rfl rfl rfl (Run.move rfl rfl) ?_
              refine WL.call rfl rfl rfl (Run.call Try.call20 rfl rfl rfl) (c_laws_eqCellS _ _ _ _ _ _ _ _ _ (SlF.ofOwn ho91 (fun p_ hp_ => (hs87.own p_ (List.mem_append_left _ hp_)).1)) (SlF.ofOwn ho17 (fun p_ hp_ => (hs87.own p_ (List.mem_append_right _ (List.mem_append_right _ (List.mem_append_right _ (List.mem_append_right _ (List.mem_append_right _ (List.mem_append_left _ hp_))))))).1)) ?_ ?_) ?_
              · first | assumption | rfl | omega
              · first | assumption | rfl | omega
              rintro _ whs94 ⟨rfl, hs94⟩
              replace hs94 := hs87.call0 hs94
              refine ⟨_, rfl, ?_⟩
              refine WL.val rfl rfl rfl (Run.not rfl rfl) ?_
              refine WL.val rfl rfl rfl (Run.move rfl rfl) ?_
              apply WL.meetOr 4 106 110 [(0, _), (1, _), (2, _), (6, _), (7, _), (8, _), (9, _), (10, _), (11, _), (12, _), (13, _), (14, _), (15, _), (16, _), (17, _), (18, _), (19, _), (20, _), (21, _), (22, _), (23, _), (24, _), (25, _), (26, _), (27, _), (28, _), (29, _), (30, _), (31, _), (32, _), (33, _), (34, _), (35, _), (36, _), (37, _), (38, _), (39, _), (40, _), (41, _), (55, _), (56, _), (57, _), (58, _), (59, _), (60, _), (61, _), (62, _), (63, _), (81, _), (82, _), (83, _), (84, _), (85, _), (86, _), (87, _), (88, _), (89, _), (90, _), (91, _), (92, _), (93, _), (94, _), (95, _), (96, _), (97, _), (98, _), (99, _), (100, _), (101, _)] rfl hs94
              · intro g95 J96
                have qg95 := g95
                try simp only [decide_eq_true_eq, decide_eq_false_iff_not, Bool.not_eq_true', Bool.not_eq_false'] at qg95
                refine WL.val (wantF rfl g95) rfl rfl (Run.move rfl rfl) ?_
                refine WL.val (wantF rfl g95) rfl rfl (Run.move rfl rfl) ?_
                refine WL.val (wantF rfl g95) rfl rfl (Run.neq rfl rfl rfl) ?_
                refine WL.val rfl rfl rfl (Run.pickF rfl rfl g95 rfl) ?_
                exact WL.fin J96 hs94 rfl (orF g95) ⟨rfl, rfl, rfl, rfl, rfl, rfl, rfl, rfl, rfl, rfl, rfl, rfl, rfl, rfl, rfl, rfl, rfl, rfl, rfl, rfl, rfl, rfl, rfl, rfl, rfl, rfl, rfl, rfl, rfl, rfl, rfl, rfl, rfl, rfl, rfl, rfl, rfl, rfl, rfl, rfl, rfl, rfl, rfl, rfl, rfl, rfl, rfl, rfl, rfl, rfl, rfl, rfl, rfl, rfl, rfl, rfl, rfl, rfl, rfl, rfl, rfl, rfl, rfl, rfl, rfl, rfl, rfl, rfl, rfl, trivial⟩
              · intro g95 J96
                refine WL.skip (wantNF rfl g95) rfl rfl ?_
                refine WL.skip (wantNF rfl g95) rfl rfl ?_
                refine WL.skip (wantNF rfl g95) rfl rfl ?_
                refine WL.val rfl rfl rfl (Run.pickT rfl rfl g95 rfl) ?_
                exact WL.fin J96 hs94 rfl (orT g95) ⟨rfl, rfl, rfl, rfl, rfl, rfl, rfl, rfl, rfl, rfl, rfl, rfl, rfl, rfl, rfl, rfl, rfl, rfl, rfl, rfl, rfl, rfl, rfl, rfl, rfl, rfl, rfl, rfl, rfl, rfl, rfl, rfl, rfl, rfl, rfl, rfl, rfl, rfl, rfl, rfl, rfl, rfl, rfl, rfl, rfl, rfl, rfl, rfl, rfl, rfl, rfl, rfl, rfl, rfl, rfl, rfl, rfl, rfl, rfl, rfl, rfl, rfl, rfl, rfl, rfl, rfl, rfl, rfl, rfl, trivial⟩
              · intro whs97 hs97
                refine WL.val rfl rfl rfl (Run.move rfl rfl) ?_
                apply WL.meetOr 4 111 115 [(0, _), (1, _), (2, _), (6, _), (7, _), (8, _), (9, _), (10, _), (11, _), (12, _), (13, _), (14, _), (15, _), (16, _), (17, _), (18, _), (19, _), (20, _), (21, _), (22, _), (23, _), (24, _), (25, _), (26, _), (27, _), (28, _), (29, _), (30, _), (31, _), (32, _), (33, _), (34, _), (35, _), (36, _), (37, _), (38, _), (39, _), (40, _), (41, _), (55, _), (56, _), (57, _), (58, _), (59, _), (60, _), (61, _), (62, _), (63, _), (81, _), (82, _), (83, _), (84, _), (85, _), (86, _), (87, _), (88, _), (89, _), (90, _), (91, _), (92, _), (93, _), (94, _), (95, _), (96, _), (97, _), (98, _), (99, _), (100, _), (101, _)] rfl hs97
                · intro g98 J99
                  have qg98 := g98
                  try simp only [decide_eq_true_eq, decide_eq_false_iff_not, Bool.not_eq_true', Bool.not_eq_false'] at qg98
                  refine WL.val (wantF rfl g98) rfl rfl (Run.move rfl rfl) ?_
                  refine WL.val (wantF rfl g98) rfl rfl (Run.move rfl rfl) ?_
                  refine WL.val (wantF rfl g98) rfl rfl (Run.neqB Try.runUnderlying4 rfl rfl rfl) ?_
                  refine WL.val rfl rfl rfl (Run.pickF rfl rfl g98 rfl) ?_
                  exact WL.fin J99 hs97 rfl (orF g98) ⟨rfl, rfl, rfl, rfl, rfl, rfl, rfl, rfl, rfl, rfl, rfl, rfl, rfl, rfl, rfl, rfl, rfl, rfl, rfl, rfl, rfl, rfl, rfl, rfl, rfl, rfl, rfl, rfl, rfl, rfl, rfl, rfl, rfl, rfl, rfl, rfl, rfl, rfl, rfl, rfl, rfl, rfl, rfl, rfl, rfl, rfl, rfl, rfl, rfl, rfl, rfl, rfl, rfl, rfl, rfl, rfl, rfl, rfl, rfl, rfl, rfl, rfl, rfl, rfl, rfl, rfl, rfl, rfl, rfl, trivial⟩
                · intro g98 J99
                  refine WL.skip (wantNF rfl g98) rfl rfl ?_
                  refine WL.skip (wantNF rfl g98) rfl rfl ?_
                  refine WL.skip (wantNF rfl g98) rfl rfl ?_
                  refine WL.val rfl rfl rfl (Run.pickT rfl rfl g98 rfl) ?_
                  exact WL.fin J99 hs97 rfl (orT g98) ⟨rfl, rfl, rfl, rfl, rfl, rfl, rfl, rfl, rfl, rfl, rfl, rfl, rfl, rfl, rfl, rfl, rfl, rfl, rfl, rfl, rfl, rfl, rfl, rfl, rfl, rfl, rfl, rfl, rfl, rfl, rfl, rfl, rfl, rfl, rfl, rfl, rfl, rfl, rfl, rfl, rfl, rfl, rfl, rfl, rfl, rfl, rfl, rfl, rfl, rfl, rfl, rfl, rfl, rfl, rfl, rfl, rfl, rfl, rfl, rfl, rfl, rfl, rfl, rfl, rfl, rfl, rfl, rfl, rfl, trivial⟩
                · intro whs100 hs100
                  refine WL.nil ?_
                  refine tkN ?_
                  refine hK93 _ _ ?_
                  clear hK93
                  refine WC.condF rfl (by first | (simp; done) | (simp; omega)) ?_
                  refine WC.skip ?_
                  refine tkN ?_
                  refine hK92 _ _ ?_
                  clear hK92
                  refine WC.seq (fun K102 hK102 => ?_)
                  refine WC.region ?_
                  refine WL.val rfl rfl rfl (Run.assign rfl rfl) ?_
                  refine WL.nil ?_
                  refine tkN ?_
                  refine hK102 _ _ ?_
                  clear hK102
                  refine WC.seq (fun K103 hK103 => ?_)
                  refine WC.region ?_
                  refine WL.val rfl rfl rfl (Run.move rfl rfl) ?_
                  refine WL.val rfl rfl rfl (Run.move rfl rfl) ?_
                  refine WL.call rfl rfl rfl (Run.call Try.call30 rfl rfl rfl) (c_laws_heldCellS _ _ _ _ _ _ (SlF.ofOwn ho71 (fun p_ hp_ => (hs100.own p_ (List.mem_append_right _ (List.mem_append_right _ (List.mem_append_left _ hp_)))).1)) ?_ ?_ ?_ ?_) ?_
                  · first | assumption | rfl | omega
                  · first | assumption | rfl | omega
                  · first | assumption | rfl | omega
                  · first | assumption | rfl | omega
                  rintro _ whs104 ⟨rfl, hs104⟩
                  replace hs104 := hs100.call0 hs104
                  refine ⟨_, rfl, ?_⟩
                  refine WL.val rfl rfl rfl (Run.assign rfl rfl) ?_
                  refine WL.nil ?_
                  refine tkN ?_
                  refine hK103 _ _ ?_
                  clear hK103
                  refine WC.seq (fun K105 hK105 => ?_)
                  refine WC.seq (fun K106 hK106 => ?_)
                  refine WC.region ?_
                  refine WL.val rfl rfl rfl (Run.move rfl rfl) ?_
                  refine WL.val rfl rfl rfl (Run.lss rfl rfl rfl) ?_
                  refine WL.nil ?_
                  refine tkN ?_
                  refine hK106 _ _ ?_
                  clear hK106
                  refine WC.condF rfl (by first | (simp; done) | (simp; omega)) ?_
                  refine WC.skip ?_
                  refine tkN ?_
                  refine hK105 _ _ ?_
                  clear hK105
                  refine WC.seq (fun K108 hK108 => ?_)
                  refine WC.seq (fun K109 hK109 => ?_)
                  refine WC.region ?_
                  refine WL.val rfl rfl rfl (Run.move rfl rfl) ?_
                  refine WL.val rfl rfl rfl (Run.move rfl rfl) ?_
                  refine WL.val rfl rfl rfl (Run.neq rfl rfl rfl) ?_
                  refine WL.nil ?_
                  refine tkN ?_
                  refine hK109 _ _ ?_
                  clear hK109
                  refine WC.condF rfl (by first | (simp; done) | (simp; omega)) ?_
                  refine WC.skip ?_
                  refine tkN ?_
                  refine hK108 _ _ ?_
                  clear hK108
                  refine WC.seq (fun K111 hK111 => ?_)
                  refine WC.region ?_
                  refine WL.val rfl rfl rfl (Run.assign rfl rfl) ?_
                  refine WL.nil ?_
                  refine tkN ?_
                  refine hK111 _ _ ?_
                  clear hK111
                  refine WC.ret ?_
                  refine retV1 rfl (resV.tmp rfl) ?_
                  refine ⟨congrArg Ending.returned ?_, hs104.nil⟩
                  rfl
end Go.Proofs.Ytpiimkfonlijdaa
