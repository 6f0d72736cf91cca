/- Walks of Go functions, printed by a program (wip/gen). -/
import Derived.Test.YtpiimkfonlijdaaR7
namespace Go.Proofs.Ytpiimkfonlijdaa
open Go Go.RowKit
set_option linter.unusedVariables false
set_option linter.unusedSimpArgs false
set_option maxHeartbeats 4000000 in
theorem c_laws_FnExactOpRead (A_s : Option Addr) (n_s c_s : Nat) (s : List UInt8) (w : World) (f_s : SlF encB w A_s n_s s) (h1 : n_s ≤ 9223372036854775807) :
    Calls Try.prog 7 #[.slice A_s n_s c_s] w fun e w' => e = .returned (.bool true) ∧ St w [] [] w' := by
  have hl := f_s.len
  have hol := opRes_sizes s
  refine enter (vs := [.slice A_s n_s c_s]) 93 Try.func7 rfl Try.ntmps7 rfl rfl ?_
  have hs1 := St.init w
  refine WC.seq (fun K2 hK2 => ?_)
  refine WC.region ?_
  refine WL.val rfl rfl rfl (Run.assign rfl rfl) ?_
  refine WL.nil ?_
  refine tkN ?_
  refine hK2 _ _ ?_
  clear hK2
  refine WC.seq (fun K3 hK3 => ?_)
  refine WC.seq (fun K4 hK4 => ?_)
  refine WC.region ?_
  refine WL.val rfl rfl rfl (Run.move rfl rfl) ?_
  refine WL.val rfl rfl rfl (Run.lenSl Try.runUnderlying22 rfl rfl) ?_
  refine WL.val rfl rfl rfl (Run.gtr rfl rfl rfl) ?_
  refine WL.nil ?_
  refine tkN ?_
  refine hK4 _ _ ?_
  clear hK4
  refine WC.cond rfl (fun h5 => ?_) (fun h5 => ?_)
  · have qh5 := h5
    try simp only [decide_eq_true_eq, decide_eq_false_iff_not, Bool.not_eq_true', Bool.not_eq_false', Bool.and_eq_true, Bool.or_eq_false_iff, within_iff, within_not] at qh5
    refine WC.seq (fun K6 hK6 => ?_)
    refine WC.region ?_
    refine WL.val rfl rfl rfl (Run.assign rfl rfl) ?_
    refine WL.nil ?_
    refine tkN ?_
    refine hK6 _ _ ?_
    clear hK6
    refine WC.ret ?_
    refine tkR ?_
    clear hK3
    refine retV1 rfl (resV.tmp rfl) ?_
    refine ⟨congrArg Ending.returned ?_, hs1.nil⟩
    rfl
  · have qh5 := h5
    try simp only [decide_eq_true_eq, decide_eq_false_iff_not, Bool.not_eq_true', Bool.not_eq_false', Bool.and_eq_true, Bool.or_eq_false_iff, within_iff, within_not] at qh5
    refine WC.skip ?_
    refine tkN ?_
    refine hK3 _ _ ?_
    clear hK3
    refine WC.seq (fun K7 hK7 => ?_)
    refine WC.region ?_
    refine WL.val rfl rfl rfl (Run.move rfl rfl) ?_
    refine WL.call rfl rfl rfl (Run.call Try.call28 rfl rfl rfl) (c_laws_toByteS _ _ _ _ _ (SlF.st0 f_s hs1) ?_) ?_
    · first | assumption | rfl | omega
    rintro _ whs8 ⟨A9, c10, L111, rfl, hs8, ho12⟩
    replace hs8 := hs1.callF hs8
    refine ⟨_, rfl, ?_⟩
    refine WL.call rfl rfl rfl (Run.call Try.call31 rfl rfl rfl) (c_spec_OpRead _ _ _ _ _ (SlF.ofOwn ho12 (fun p_ hp_ => (hs8.own p_ (List.mem_append_left _ hp_)).1)) (OwnF.cap ho12) ?_) ?_
    · first | assumption | rfl | omega
    rintro _ whs13 ⟨A14, c15, L116, rfl, hs13, ho17⟩
    replace hs13 := hs8.callF hs13
    refine ⟨_, rfl, ?_⟩
    refine WL.val rfl rfl rfl (Run.move rfl rfl) ?_
    refine WL.val rfl rfl rfl (Run.extract rfl rfl rfl) ?_
    refine WL.val rfl rfl rfl (Run.extract rfl rfl rfl) ?_
    refine WL.alloc hs13 Try.zeroValue27 rfl rfl rfl rfl rfl (fun b18 whs19 hs19 => ?_)
    refine WL.storeA hs19 0 Try.sizeOf27 rfl rfl rfl rfl rfl rfl rfl rfl rfl (Nat.le_of_ble_eq_true rfl) (.inl (Nat.le_of_ble_eq_true rfl)) (fun whs20 hs20 => ?_)
    refine WL.val rfl rfl rfl (Run.assign rfl rfl) ?_
    refine WL.nil ?_
    refine tkN ?_
    refine hK7 _ _ ?_
    clear hK7
    refine WC.seq (fun K21 hK21 => ?_)
    refine WC.region ?_
    refine WL.val rfl rfl rfl (Run.move rfl rfl) ?_
    refine WL.call rfl rfl rfl (Run.call Try.call28 rfl rfl rfl) (c_laws_toByteS _ _ _ _ _ (SlF.st0 f_s hs20) ?_) ?_
    · first | assumption | rfl | omega
    rintro _ whs22 ⟨A23, c24, L125, rfl, hs22, ho26⟩
    replace hs22 := hs20.callF hs22
    refine ⟨_, rfl, ?_⟩
    replace hs22 := St.back [_] hs22
    refine WL.val rfl rfl rfl (Run.assign rfl rfl) ?_
    refine WL.nil ?_
    refine tkN ?_
    refine hK21 _ _ ?_
    clear hK21
    refine WC.seq (fun K27 hK27 => ?_)
    refine WC.region ?_
    refine WL.val rfl rfl rfl (Run.move rfl rfl) ?_
    refine WL.call rfl rfl rfl (Run.call Try.call32 rfl rfl rfl) (c_impl_OpRead _ _ _ _ _ (SlF.ofOwn ho26 (fun p_ hp_ => (hs22.own p_ (List.mem_append_right [_] (List.mem_append_left _ hp_))).1)) (OwnF.cap ho26) ?_) ?_
    · first | assumption | rfl | omega
    rintro _ whs28 ⟨A29, c30, L131, rfl, hs28, ho32⟩
    replace hs28 := hs22.callF hs28
    refine ⟨_, rfl, ?_⟩
    replace hs28 := St.back [_] hs28
    refine WL.val rfl rfl rfl (Run.move rfl rfl) ?_
    refine WL.val rfl rfl rfl (Run.extract rfl rfl rfl) ?_
    refine WL.val rfl rfl rfl (Run.extract rfl rfl rfl) ?_
    refine WL.alloc hs28 Try.zeroValue27 rfl rfl rfl rfl rfl (fun b33 whs34 hs34 => ?_)
    refine WL.storeA hs34 0 Try.sizeOf27 rfl rfl rfl rfl rfl rfl rfl rfl rfl (Nat.le_of_ble_eq_true rfl) (.inl (Nat.le_of_ble_eq_true rfl)) (fun whs35 hs35 => ?_)
    refine WL.val rfl rfl rfl (Run.assign rfl rfl) ?_
    refine WL.nil ?_
    refine tkN ?_
    refine hK27 _ _ ?_
    clear hK27
    refine WC.seq (fun K36 hK36 => ?_)
    refine WC.seq (fun K37 hK37 => ?_)
    refine WC.region ?_
    refine WL.val rfl rfl rfl (Run.loadLA hs35 0 Try.isAgg27 Try.sizeOf27 rfl rfl rfl rfl rfl) ?_
    refine WL.val rfl rfl rfl (Run.loadLA hs35 1 Try.isAgg27 Try.sizeOf27 rfl rfl rfl rfl rfl) ?_
    refine WL.call rfl rfl rfl (Run.call Try.call14 rfl rfl rfl) (c_laws_eqOp _ _ _ _ _ _ _ _ _ _ _ _ _ _ _ _ _ _ _ _ _ _ _ (SlF.ofOwn ho32 (fun p_ hp_ => (hs35.own p_ (List.mem_append_right [_, _] (List.mem_append_left _ hp_))).1)) (SlF.ofOwn ho17 (fun p_ hp_ => (hs35.own p_ (List.mem_append_right [_, _] (List.mem_append_right _ (List.mem_append_right _ (List.mem_append_left _ hp_))))).1)) ?_ ?_) ?_
    · first | assumption | rfl | omega
    · first | assumption | rfl | omega
    rintro _ whs38 ⟨rfl, hs38⟩
    replace hs38 := hs35.call0 hs38
    refine ⟨_, rfl, ?_⟩
    refine WL.val rfl rfl rfl (Run.not rfl rfl) ?_
    refine WL.val rfl rfl rfl (Run.move rfl rfl) ?_
    apply WL.meetOr 4 33 37 [(0, _), (2, _), (3, _), (4, _), (5, _), (6, _), (7, _), (13, _), (14, _), (15, _), (16, _), (17, _), (18, _), (19, _), (20, _), (21, _), (22, _), (23, _), (24, _), (25, _), (26, _), (27, _), (28, _)] rfl hs38
    · intro g39 J40
      have qg39 := g39
      try simp only [decide_eq_true_eq, decide_eq_false_iff_not, Bool.not_eq_true', Bool.not_eq_false'] at qg39
      refine WL.val (wantF rfl g39) rfl rfl (Run.move rfl rfl) ?_
      refine WL.val (wantF rfl g39) rfl rfl (Run.move rfl rfl) ?_
      refine WL.val (wantF rfl g39) rfl rfl (Run.neqB Try.runUnderlying4 rfl rfl rfl) ?_
      refine WL.val rfl rfl rfl (Run.pickF rfl rfl g39 rfl) ?_
      exact WL.fin J40 hs38 rfl (orF g39) ⟨rfl, rfl, rfl, rfl, rfl, rfl, rfl, rfl, rfl, rfl, rfl, rfl, rfl, rfl, rfl, rfl, rfl, rfl, rfl, rfl, rfl, rfl, rfl, trivial⟩
    · intro g39 J40
      refine WL.skip (wantNF rfl g39) rfl rfl ?_
      refine WL.skip (wantNF rfl g39) rfl rfl ?_
      refine WL.skip (wantNF rfl g39) rfl rfl ?_
      refine WL.val rfl rfl rfl (Run.pickT rfl rfl g39 rfl) ?_
      exact WL.fin J40 hs38 rfl (orT g39) ⟨rfl, rfl, rfl, rfl, rfl, rfl, rfl, rfl, rfl, rfl, rfl, rfl, rfl, rfl, rfl, rfl, rfl, rfl, rfl, rfl, rfl, rfl, rfl, trivial⟩
    · intro whs41 hs41
      refine WL.nil ?_
      refine tkN ?_
      refine hK37 _ _ ?_
      clear hK37
      refine WC.condF rfl (by first | (simp; done) | (simp; omega)) ?_
      refine WC.skip ?_
      refine tkN ?_
      refine hK36 _ _ ?_
      clear hK36
      refine WC.seq (fun K43 hK43 => ?_)
      refine WC.seq (fun K44 hK44 => ?_)
      refine WC.region ?_
      refine WL.val rfl rfl rfl (Run.move rfl rfl) ?_
      refine WL.val rfl rfl rfl (Run.move rfl rfl) ?_
      refine WL.call rfl rfl rfl (Run.call Try.call28 rfl rfl rfl) (c_laws_toByteS _ _ _ _ _ (SlF.st0 f_s hs41) ?_) ?_
      · first | assumption | rfl | omega
      rintro _ whs45 ⟨A46, c47, L148, rfl, hs45, ho49⟩
      replace hs45 := hs41.callF hs45
      refine ⟨_, rfl, ?_⟩
      replace hs45 := St.back [_, _] hs45
      refine WL.call rfl rfl rfl (Run.call Try.call19 rfl rfl rfl) (c_laws_eqByteS _ _ _ _ _ _ _ _ _ (SlF.ofOwn ho26 (fun p_ hp_ => (hs45.own p_ (List.mem_append_right [_, _] (List.mem_append_right _ (List.mem_append_right _ (List.mem_append_left _ hp_))))).1)) (SlF.ofOwn ho49 (fun p_ hp_ => (hs45.own p_ (List.mem_append_right [_, _] (List.mem_append_left _ hp_))).1)) ?_ ?_) ?_
      · first | assumption | rfl | omega
      · first | assumption | rfl | omega
      rintro _ whs50 ⟨rfl, hs50⟩
      replace hs50 := hs45.call0 hs50
      refine ⟨_, rfl, ?_⟩
      refine WL.val rfl rfl rfl (Run.not rfl rfl) ?_
      refine WL.nil ?_
      refine tkN ?_
      refine hK44 _ _ ?_
      clear hK44
      refine WC.condF rfl (by first | (simp; done) | (simp; omega)) ?_
      refine WC.skip ?_
      refine tkN ?_
      refine hK43 _ _ ?_
      clear hK43
      refine WC.seq (fun K52 hK52 => ?_)
      refine WC.region ?_
      refine WL.val rfl rfl rfl (Run.assign rfl rfl) ?_
      refine WL.nil ?_
      refine tkN ?_
      refine hK52 _ _ ?_
      clear hK52
      refine WC.seq (fun K53 hK53 => ?_)
      refine WC.region ?_
      refine WL.val rfl rfl rfl (Run.move rfl rfl) ?_
      refine WL.val rfl rfl rfl (Run.move rfl rfl) ?_
      refine WL.call rfl rfl rfl (Run.call Try.call22 rfl rfl rfl) (c_laws_markByteS _ _ _ _ _ ho26 (fun p_ hp_ => (hs50.own p_ (List.mem_append_right [_, _] (List.mem_append_right _ (List.mem_append_right _ (List.mem_append_left _ hp_))))).1) ?_ ?_ ?_) ?_
      · first | assumption | rfl | omega
      · first | assumption | rfl | omega
      · first | assumption | rfl | omega
      rintro _ whs54 ⟨L155, rfl, hs54, ho56⟩
      replace hs54 := St.lend (St.perm hs50 (L' := L125 ++ _) (perm_front (A := [_, _]) (perm_front (A := L148) (perm_front (A := L131) (List.Perm.refl _))))) hs54
      refine ⟨_, rfl, ?_⟩
      replace hs54 := St.back [_, _] hs54
      refine WL.val rfl rfl rfl (Run.assign rfl rfl) ?_
      refine WL.nil ?_
      refine tkN ?_
      refine hK53 _ _ ?_
      clear hK53
      refine WC.seq (fun K57 hK57 => ?_)
      refine WC.seq (fun K58 hK58 => ?_)
      refine WC.region ?_
      refine WL.val rfl rfl rfl (Run.move rfl rfl) ?_
      refine WL.val rfl rfl rfl (Run.lss rfl rfl rfl) ?_
      refine WL.val rfl rfl rfl (Run.move rfl rfl) ?_
      apply WL.meetOr 5 48 53 [(0, _), (2, _), (3, _), (4, _), (5, _), (6, _), (7, _), (8, _), (13, _), (14, _), (15, _), (16, _), (17, _), (18, _), (19, _), (20, _), (21, _), (22, _), (23, _), (24, _), (25, _), (26, _), (27, _), (28, _), (37, _), (38, _), (39, _), (40, _), (41, _), (42, _), (43, _), (44, _), (45, _)] rfl hs54
      · intro g59 J60
        have qg59 := g59
        try simp only [decide_eq_true_eq, decide_eq_false_iff_not, Bool.not_eq_true', Bool.not_eq_false'] at qg59
        refine WL.val (wantF rfl g59) rfl rfl (Run.loadLA hs54 0 Try.isAgg27 Try.sizeOf27 rfl rfl rfl rfl rfl) ?_
        refine WL.val (wantF rfl g59) rfl rfl (Run.loadLA hs54 1 Try.isAgg27 Try.sizeOf27 rfl rfl rfl rfl rfl) ?_
        refine WL.call (wantF rfl g59) rfl rfl (Run.call Try.call14 rfl rfl rfl) (c_laws_eqOp _ _ _ _ _ _ _ _ _ _ _ _ _ _ _ _ _ _ _ _ _ _ _ (SlF.ofOwn ho32 (fun p_ hp_ => (hs54.own p_ (List.mem_append_right [_, _] (List.mem_append_right _ (List.mem_append_right _ (List.mem_append_left _ hp_))))).1)) (SlF.ofOwn ho17 (fun p_ hp_ => (hs54.own p_ (List.mem_append_right [_, _] (List.mem_append_right _ (List.mem_append_right _ (List.mem_append_right _ (List.mem_append_left _ hp_)))))).1)) ?_ ?_) ?_
        · first | assumption | rfl | omega
        · first | assumption | rfl | omega
        rintro _ whs61 ⟨rfl, hs61⟩
        replace hs61 := hs54.call0 hs61
        refine ⟨_, rfl, ?_⟩
        refine WL.val (wantF rfl g59) rfl rfl (Run.not rfl rfl) ?_
        refine WL.val rfl rfl rfl (Run.pickF rfl rfl g59 rfl) ?_
        exact WL.fin J60 hs61 rfl (orF g59) ⟨rfl, rfl, rfl, rfl, rfl, rfl, rfl, rfl, rfl, rfl, rfl, rfl, rfl, rfl, rfl, rfl, rfl, rfl, rfl, rfl, rfl, rfl, rfl, rfl, rfl, rfl, rfl, rfl, rfl, rfl, rfl, rfl, rfl, trivial⟩
      · intro g59 J60
        refine WL.skip (wantNF rfl g59) rfl rfl ?_
        refine WL.skip (wantNF rfl g59) rfl rfl ?_
        refine WL.skip (wantNF rfl g59) rfl rfl ?_
        refine WL.skip (wantNF rfl g59) rfl rfl ?_
        refine WL.val rfl rfl rfl (Run.pickT rfl rfl g59 rfl) ?_
        exact WL.fin J60 hs54 rfl (orT g59) ⟨rfl, rfl, rfl, rfl, rfl, rfl, rfl, rfl, rfl, rfl, rfl, rfl, rfl, rfl, rfl, rfl, rfl, rfl, rfl, rfl, rfl, rfl, rfl, rfl, rfl, rfl, rfl, rfl, rfl, rfl, rfl, rfl, rfl, trivial⟩
      · intro whs62 hs62
        refine WL.val rfl rfl rfl (Run.move rfl rfl) ?_
        apply WL.meetOr 4 54 58 [(0, _), (2, _), (3, _), (4, _), (5, _), (6, _), (7, _), (8, _), (13, _), (14, _), (15, _), (16, _), (17, _), (18, _), (19, _), (20, _), (21, _), (22, _), (23, _), (24, _), (25, _), (26, _), (27, _), (28, _), (37, _), (38, _), (39, _), (40, _), (41, _), (42, _), (43, _), (44, _), (45, _)] rfl hs62
        · intro g63 J64
          have qg63 := g63
          try simp only [decide_eq_true_eq, decide_eq_false_iff_not, Bool.not_eq_true', Bool.not_eq_false'] at qg63
          refine WL.val (wantF rfl g63) rfl rfl (Run.move rfl rfl) ?_
          refine WL.val (wantF rfl g63) rfl rfl (Run.move rfl rfl) ?_
          refine WL.val (wantF rfl g63) rfl rfl (Run.neqB Try.runUnderlying4 rfl rfl rfl) ?_
          refine WL.val rfl rfl rfl (Run.pickF rfl rfl g63 rfl) ?_
          exact WL.fin J64 hs62 rfl (orF g63) ⟨rfl, rfl, rfl, rfl, rfl, rfl, rfl, rfl, rfl, rfl, rfl, rfl, rfl, rfl, rfl, rfl, rfl, rfl, rfl, rfl, rfl, rfl, rfl, rfl, rfl, rfl, rfl, rfl, rfl, rfl, rfl, rfl, rfl, trivial⟩
        · intro g63 J64
          refine WL.skip (wantNF rfl g63) rfl rfl ?_
          refine WL.skip (wantNF rfl g63) rfl rfl ?_
          refine WL.skip (wantNF rfl g63) rfl rfl ?_
          refine WL.val rfl rfl rfl (Run.pickT rfl rfl g63 rfl) ?_
          exact WL.fin J64 hs62 rfl (orT g63) ⟨rfl, rfl, rfl, rfl, rfl, rfl, rfl, rfl, rfl, rfl, rfl, rfl, rfl, rfl, rfl, rfl, rfl, rfl, rfl, rfl, rfl, rfl, rfl, rfl, rfl, rfl, rfl, rfl, rfl, rfl, rfl, rfl, rfl, trivial⟩
        · intro whs65 hs65
          refine WL.nil ?_
          refine tkN ?_
          refine hK58 _ _ ?_
          clear hK58
          refine WC.condF rfl (by first | (simp; done) | (simp; omega)) ?_
          refine WC.skip ?_
          refine tkN ?_
          refine hK57 _ _ ?_
          clear hK57
          refine WC.seq (fun K67 hK67 => ?_)
          refine WC.region ?_
          refine WL.val rfl rfl rfl (Run.assign rfl rfl) ?_
          refine WL.nil ?_
          refine tkN ?_
          refine hK67 _ _ ?_
          clear hK67
          refine WC.seq (fun K68 hK68 => ?_)
          refine WC.region ?_
          refine WL.val rfl rfl rfl (Run.loadLA hs65 0 Try.isAgg27 Try.sizeOf27 rfl rfl rfl rfl rfl) ?_
          refine WL.val rfl rfl rfl (Run.move rfl rfl) ?_
          refine WL.call rfl rfl rfl (Run.call Try.call26 rfl rfl rfl) (c_laws_markOp _ _ _ _ _ _ _ _ _ _ _ _ ho32 (fun p_ hp_ => (hs65.own p_ (List.mem_append_right [_, _] (List.mem_append_right _ (List.mem_append_right _ (List.mem_append_left _ hp_))))).1) ?_ ?_ ?_) ?_
          · first | assumption | rfl | omega
          · first | assumption | rfl | omega
          · first | assumption | rfl | omega
          rintro _ whs69 ⟨L170, rfl, hs69, ho71⟩
          replace hs69 := St.lend (St.perm hs65 (L' := L131 ++ _) (perm_front (A := [_, _]) (perm_front (A := L155) (perm_front (A := L148) (List.Perm.refl _))))) hs69
          refine ⟨_, rfl, ?_⟩
          replace hs69 := St.back [_, _] hs69
          refine WL.val rfl rfl rfl (Run.assign rfl rfl) ?_
          refine WL.nil ?_
          refine tkN ?_
          refine hK68 _ _ ?_
          clear hK68
          refine WC.seq (fun K72 hK72 => ?_)
          refine WC.region ?_
          refine WL.val rfl rfl rfl (Run.assign rfl rfl) ?_
          refine WL.nil ?_
          refine tkN ?_
          refine hK72 _ _ ?_
          clear hK72
          refine WC.seq (fun K73 hK73 => ?_)
          refine WC.region ?_
          refine WL.val rfl rfl rfl (Run.loadLA hs69 0 Try.isAgg27 Try.sizeOf27 rfl rfl rfl rfl rfl) ?_
          refine WL.val rfl rfl rfl (Run.move rfl rfl) ?_
          refine WL.call rfl rfl rfl (Run.call Try.call33 rfl rfl rfl) (c_laws_heldOp _ _ _ _ _ _ _ _ _ _ _ _ _ (SlF.ofOwn ho71 (fun p_ hp_ => (hs69.own p_ (List.mem_append_right [_, _] (List.mem_append_left _ hp_))).1)) ?_ ?_ ?_ ?_) ?_
          · first | assumption | rfl | omega
          · first | assumption | rfl | omega
          · first | assumption | rfl | omega
          · first | assumption | rfl | omega
          rintro _ whs74 ⟨rfl, hs74⟩
          replace hs74 := hs69.call0 hs74
          refine ⟨_, rfl, ?_⟩
          refine WL.val rfl rfl rfl (Run.assign rfl rfl) ?_
          refine WL.nil ?_
          refine tkN ?_
          refine hK73 _ _ ?_
          clear hK73
          refine WC.seq (fun K75 hK75 => ?_)
          refine WC.seq (fun K76 hK76 => ?_)
          refine WC.region ?_
          refine WL.val rfl rfl rfl (Run.move rfl rfl) ?_
          refine WL.val rfl rfl rfl (Run.lss rfl rfl rfl) ?_
          refine WL.nil ?_
          refine tkN ?_
          refine hK76 _ _ ?_
          clear hK76
          refine WC.condF rfl (by first | (simp; done) | (simp; omega)) ?_
          refine WC.skip ?_
          refine tkN ?_
          refine hK75 _ _ ?_
          clear hK75
          refine WC.seq (fun K78 hK78 => ?_)
          refine WC.seq (fun K79 hK79 => ?_)
          refine WC.region ?_
          refine WL.val rfl rfl rfl (Run.move rfl rfl) ?_
          refine WL.val rfl rfl rfl (Run.move rfl rfl) ?_
          refine WL.val rfl rfl rfl (Run.neq rfl rfl rfl) ?_
          refine WL.nil ?_
          refine tkN ?_
          refine hK79 _ _ ?_
          clear hK79
          refine WC.condF rfl (by first | (simp; done) | (simp; omega)) ?_
          refine WC.skip ?_
          refine tkN ?_
          refine hK78 _ _ ?_
          clear hK78
          refine WC.seq (fun K81 hK81 => ?_)
          refine WC.region ?_
          refine WL.val rfl rfl rfl (Run.move rfl rfl) ?_
          refine WL.call rfl rfl rfl (Run.call Try.call28 rfl rfl rfl) (c_laws_toByteS _ _ _ _ _ (SlF.st0 f_s hs74) ?_) ?_
          · first | assumption | rfl | omega
          rintro _ whs82 ⟨A83, c84, L185, rfl, hs82, ho86⟩
          replace hs82 := hs74.callF hs82
          refine ⟨_, rfl, ?_⟩
          replace hs82 := St.back [_, _] hs82
          refine WL.call rfl rfl rfl (Run.call Try.call32 rfl rfl rfl) (c_impl_OpRead _ _ _ _ _ (SlF.ofOwn ho86 (fun p_ hp_ => (hs82.own p_ (List.mem_append_right [_, _] (List.mem_append_left _ hp_))).1)) (OwnF.cap ho86) ?_) ?_
          · first | assumption | rfl | omega
          rintro _ whs87 ⟨A88, c89, L190, rfl, hs87, ho91⟩
          replace hs87 := hs82.callF hs87
          refine ⟨_, rfl, ?_⟩
          replace hs87 := St.back [_, _] hs87
          refine WL.val rfl rfl rfl (Run.move rfl rfl) ?_
          refine WL.val rfl rfl rfl (Run.extract rfl rfl rfl) ?_
          refine WL.val rfl rfl rfl (Run.extract rfl rfl rfl) ?_
          refine WL.alloc hs87 Try.zeroValue27 rfl rfl rfl rfl rfl (fun b92 whs93 hs93 => ?_)
          refine WL.storeA hs93 0 Try.sizeOf27 rfl rfl rfl rfl rfl rfl rfl rfl rfl (Nat.le_of_ble_eq_true rfl) (.inl (Nat.le_of_ble_eq_true rfl)) (fun whs94 hs94 => ?_)
          refine WL.val rfl rfl rfl (Run.assign rfl rfl) ?_
          refine WL.nil ?_
          refine tkN ?_
          refine hK81 _ _ ?_
          clear hK81
          refine WC.seq (fun K95 hK95 => ?_)
          refine WC.seq (fun K96 hK96 => ?_)
          refine WC.region ?_
          refine WL.val rfl rfl rfl (Run.loadLA hs94 0 Try.isAgg27 Try.sizeOf27 rfl rfl rfl rfl rfl) ?_
          refine WL.val rfl rfl rfl (Run.loadLA hs94 2 Try.isAgg27 Try.sizeOf27 rfl rfl rfl rfl rfl) ?_
          refine WL.call rfl rfl rfl (Run.call Try.call14 rfl rfl rfl) (c_laws_eqOp _ _ _ _ _ _ _ _ _ _ _ _ _ _ _ _ _ _ _ _ _ _ _ (SlF.ofOwn ho91 (fun p_ hp_ => (hs94.own p_ (List.mem_append_right [_, _, _] (List.mem_append_left _ hp_))).1)) (SlF.ofOwn ho17 (fun p_ hp_ => (hs94.own p_ (List.mem_append_right [_, _, _] (List.mem_append_right _ (List.mem_append_right _ (List.mem_append_right _ (List.mem_append_right _ (List.mem_append_right _ (List.mem_append_left _ hp_)))))))).1)) ?_ ?_) ?_
          · first | assumption | rfl | omega
          · first | assumption | rfl | omega
          rintro _ whs97 ⟨rfl, hs97⟩
          replace hs97 := hs94.call0 hs97
          refine ⟨_, rfl, ?_⟩
          refine WL.val rfl rfl rfl (Run.not rfl rfl) ?_
          refine WL.val rfl rfl rfl (Run.move rfl rfl) ?_
          apply WL.meetOr 4 80 84 [(0, _), (2, _), (3, _), (4, _), (5, _), (6, _), (7, _), (8, _), (9, _), (10, _), (11, _), (12, _), (13, _), (14, _), (15, _), (16, _), (17, _), (18, _), (19, _), (20, _), (21, _), (22, _), (23, _), (24, _), (25, _), (26, _), (27, _), (28, _), (37, _), (38, _), (39, _), (40, _), (41, _), (42, _), (43, _), (44, _), (45, _), (58, _), (59, _), (60, _), (61, _), (62, _), (63, _), (64, _), (65, _), (66, _), (67, _), (68, _), (69, _), (70, _), (71, _), (72, _), (73, _), (74, _), (75, _)] rfl hs97
          · intro g98 J99
            have qg98 := g98
            try simp only [decide_eq_true_eq, decide_eq_false_iff_not, Bool.not_eq_true', Bool.not_eq_false'] at qg98
            refine WL.val (wantF rfl g98) rfl rfl (Run.move rfl rfl) ?_
            refine WL.val (wantF rfl g98) rfl rfl (Run.move rfl rfl) ?_
            refine WL.val (wantF rfl g98) rfl rfl (Run.neqB Try.runUnderlying4 rfl rfl rfl) ?_
            refine WL.val rfl rfl rfl (Run.pickF rfl rfl g98 rfl) ?_
            exact WL.fin J99 hs97 rfl (orF g98) ⟨rfl, rfl, rfl, rfl, rfl, rfl, rfl, rfl, rfl, rfl, rfl, rfl, rfl, rfl, rfl, rfl, rfl, rfl, rfl, rfl, rfl, rfl, rfl, rfl, rfl, rfl, rfl, rfl, rfl, rfl, rfl, rfl, rfl, rfl, rfl, rfl, rfl, rfl, rfl, rfl, rfl, rfl, rfl, rfl, rfl, rfl, rfl, rfl, rfl, rfl, rfl, rfl, rfl, rfl, rfl, trivial⟩
          · intro g98 J99
            refine WL.skip (wantNF rfl g98) rfl rfl ?_
            refine WL.skip (wantNF rfl g98) rfl rfl ?_
            refine WL.skip (wantNF rfl g98) rfl rfl ?_
            refine WL.val rfl rfl rfl (Run.pickT rfl rfl g98 rfl) ?_
            exact WL.fin J99 hs97 rfl (orT g98) ⟨rfl, rfl, rfl, rfl, rfl, rfl, rfl, rfl, rfl, rfl, rfl, rfl, rfl, rfl, rfl, rfl, rfl, rfl, rfl, rfl, rfl, rfl, rfl, rfl, rfl, rfl, rfl, rfl, rfl, rfl, rfl, rfl, rfl, rfl, rfl, rfl, rfl, rfl, rfl, rfl, rfl, rfl, rfl, rfl, rfl, rfl, rfl, rfl, rfl, rfl, rfl, rfl, rfl, rfl, rfl, trivial⟩
          · intro whs100 hs100
            refine WL.nil ?_
            refine tkN ?_
            refine hK96 _ _ ?_
            clear hK96
            refine WC.condF rfl (by first | (simp; done) | (simp; omega)) ?_
            refine WC.skip ?_
            refine tkN ?_
            refine hK95 _ _ ?_
            clear hK95
            refine WC.seq (fun K102 hK102 => ?_)
            refine WC.region ?_
            refine WL.val rfl rfl rfl (Run.assign rfl rfl) ?_
            refine WL.nil ?_
            refine tkN ?_
            refine hK102 _ _ ?_
            clear hK102
            refine WC.seq (fun K103 hK103 => ?_)
            refine WC.region ?_
            refine WL.val rfl rfl rfl (Run.loadLA hs100 1 Try.isAgg27 Try.sizeOf27 rfl rfl rfl rfl rfl) ?_
            refine WL.val rfl rfl rfl (Run.move rfl rfl) ?_
            refine WL.call rfl rfl rfl (Run.call Try.call33 rfl rfl rfl) (c_laws_heldOp _ _ _ _ _ _ _ _ _ _ _ _ _ (SlF.ofOwn ho71 (fun p_ hp_ => (hs100.own p_ (List.mem_append_right [_, _, _] (List.mem_append_right _ (List.mem_append_right _ (List.mem_append_left _ hp_))))).1)) ?_ ?_ ?_ ?_) ?_
            · first | assumption | rfl | omega
            · first | assumption | rfl | omega
            · first | assumption | rfl | omega
            · first | assumption | rfl | omega
            rintro _ whs104 ⟨rfl, hs104⟩
            replace hs104 := hs100.call0 hs104
            refine ⟨_, rfl, ?_⟩
            refine WL.val rfl rfl rfl (Run.assign rfl rfl) ?_
            refine WL.nil ?_
            refine tkN ?_
            refine hK103 _ _ ?_
            clear hK103
            refine WC.seq (fun K105 hK105 => ?_)
            refine WC.seq (fun K106 hK106 => ?_)
            refine WC.region ?_
            refine WL.val rfl rfl rfl (Run.move rfl rfl) ?_
            refine WL.val rfl rfl rfl (Run.lss rfl rfl rfl) ?_
            refine WL.nil ?_
            refine tkN ?_
            refine hK106 _ _ ?_
            clear hK106
            refine WC.condF rfl (by first | (simp; done) | (simp; omega)) ?_
            refine WC.skip ?_
            refine tkN ?_
            refine hK105 _ _ ?_
            clear hK105
            refine WC.seq (fun K108 hK108 => ?_)
            refine WC.seq (fun K109 hK109 => ?_)
            refine WC.region ?_
            refine WL.val rfl rfl rfl (Run.move rfl rfl) ?_
            refine WL.val rfl rfl rfl (Run.move rfl rfl) ?_
            refine WL.val rfl rfl rfl (Run.neq rfl rfl rfl) ?_
            refine WL.nil ?_
            refine tkN ?_
            refine hK109 _ _ ?_
            clear hK109
            refine WC.condF rfl (by first | (simp; done) | (simp; omega)) ?_
            refine WC.skip ?_
            refine tkN ?_
            refine hK108 _ _ ?_
            clear hK108
            refine WC.seq (fun K111 hK111 => ?_)
            refine WC.region ?_
            refine WL.val rfl rfl rfl (Run.assign rfl rfl) ?_
            refine WL.nil ?_
            refine tkN ?_
            refine hK111 _ _ ?_
            clear hK111
            refine WC.ret ?_
            refine retV1 rfl (resV.tmp rfl) ?_
            refine ⟨congrArg Ending.returned ?_, hs104.nil⟩
            rfl
end Go.Proofs.Ytpiimkfonlijdaa
