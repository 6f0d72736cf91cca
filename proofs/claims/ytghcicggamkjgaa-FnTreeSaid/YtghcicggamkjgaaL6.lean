/- Walks of Go functions, printed by a program (wip/gen). -/
import Derived.Test.YtghcicggamkjgaaN13
import Derived.Test.YtghcicggamkjgaaU2
namespace Go.Proofs.Ytghcicggamkjgaa
open Go Go.RowKit
set_option linter.unusedVariables false
set_option linter.unusedSimpArgs false
set_option maxHeartbeats 4000000 in
theorem c_laws_FnTree (A_code : Option Addr) (n_code c_code : Nat) (code : List UInt8) (w : World) (f_code : SlF encB w A_code n_code code) (h1 : n_code ≤ 9223372036854775807) :
    Calls Try.prog 9 #[.slice A_code n_code c_code] w fun e w' => e = .returned (.bool true) ∧ St w [] [] w' := by
  have hl := f_code.len
  refine enter (vs := [.slice A_code n_code c_code]) 171 Try.func9 rfl Try.ntmps9 rfl rfl ?_
  have hs1 := St.init w
  refine WC.seq (fun K2 hK2 => ?_)
  refine WC.region ?_
  refine WL.val rfl rfl rfl (Run.assign rfl rfl) ?_
  refine WL.nil ?_
  refine tkN ?_
  refine hK2 _ _ ?_
  clear hK2
  refine WC.seq (fun K3 hK3 => ?_)
  refine WC.seq (fun K4 hK4 => ?_)
  refine WC.region ?_
  refine WL.val rfl rfl rfl (Run.move rfl rfl) ?_
  refine WL.val rfl rfl rfl (Run.lenSl Try.runUnderlying45 rfl rfl) ?_
  refine WL.val rfl rfl rfl (Run.gtr rfl rfl rfl) ?_
  refine WL.nil ?_
  refine tkN ?_
  refine hK4 _ _ ?_
  clear hK4
  refine WC.cond rfl (fun h5 => ?_) (fun h5 => ?_)
  · have qh5 := h5
    try simp only [decide_eq_true_eq, decide_eq_false_iff_not, Bool.not_eq_true', Bool.not_eq_false', Bool.and_eq_true, Bool.or_eq_false_iff, within_iff, within_not] at qh5
    refine WC.seq (fun K6 hK6 => ?_)
    refine WC.region ?_
    refine WL.val rfl rfl rfl (Run.assign rfl rfl) ?_
    refine WL.nil ?_
    refine tkN ?_
    refine hK6 _ _ ?_
    clear hK6
    refine WC.ret ?_
    refine tkR ?_
    clear hK3
    refine retV1 rfl (resV.tmp rfl) ?_
    refine ⟨congrArg Ending.returned (congrArg Value.bool ?_), hs1.nil⟩
    rfl
  · have qh5 := h5
    try simp only [decide_eq_true_eq, decide_eq_false_iff_not, Bool.not_eq_true', Bool.not_eq_false', Bool.and_eq_true, Bool.or_eq_false_iff, within_iff, within_not] at qh5
    refine WC.skip ?_
    refine tkN ?_
    refine hK3 _ _ ?_
    clear hK3
    refine WC.seq (fun K7 hK7 => ?_)
    refine WC.region ?_
    refine WL.val rfl rfl rfl (Run.move rfl rfl) ?_
    refine WL.call rfl rfl rfl (Run.call Try.call38 rfl rfl rfl) (c_spec_MakeTree _ _ _ _ _ (SlF.st0 f_code hs1) ?_) ?_
    · first | assumption | rfl | omega
    rintro _ whs8 ⟨t9, p10, A11, c12, L113, rfl, hs8, ho14, hm15, hp16, hl17, hz18⟩
    replace hs8 := hs1.callF hs8
    refine ⟨_, rfl, ?_⟩
    have hfa := facts_of (hm15).1
    have hlv := congrArg List.length hfa.lv
    have hfl := hfa.len
    have hfn := hfa.nodes
    have hfp := hfa.pos
    refine WL.val rfl rfl rfl (Run.move rfl rfl) ?_
    refine WL.val rfl rfl rfl (Run.extract rfl rfl rfl) ?_
    refine WL.val rfl rfl rfl (Run.extract rfl rfl rfl) ?_
    refine WL.val rfl rfl rfl (Run.assign rfl rfl) ?_
    refine WL.val rfl rfl rfl (Run.assign rfl rfl) ?_
    refine WL.nil ?_
    refine tkN ?_
    refine hK7 _ _ ?_
    clear hK7
    refine WC.seq (fun K19 hK19 => ?_)
    refine WC.region ?_
    refine WL.val rfl rfl rfl (Run.move rfl rfl) ?_
    refine WL.call rfl rfl rfl (Run.call Try.call39 rfl rfl rfl) (c_impl_Places _ _ _ _ _ _ _ (SlF.ofOwn ho14 (fun p_ hp_ => (hs8.own p_ (List.mem_append_left _ hp_)).1)) ?_) ?_
    · first | assumption | rfl | omega
    rintro _ whs20 ⟨A21, c22, L123, rfl, hs20, ho24⟩
    replace hs20 := hs8.callF hs20
    refine ⟨_, rfl, ?_⟩
    refine WL.val rfl rfl rfl (Run.move rfl rfl) ?_
    refine WL.val rfl rfl rfl (Run.extract rfl rfl rfl) ?_
    refine WL.val rfl rfl rfl (Run.extract rfl rfl rfl) ?_
    refine WL.val rfl rfl rfl (Run.assign rfl rfl) ?_
    refine WL.val rfl rfl rfl (Run.assign rfl rfl) ?_
    refine WL.nil ?_
    refine tkN ?_
    refine hK19 _ _ ?_
    clear hK19
    refine WC.seq (fun K25 hK25 => ?_)
    refine WC.region ?_
    refine WL.val rfl rfl rfl (Run.move rfl rfl) ?_
    refine WL.call rfl rfl rfl (Run.call Try.call25 rfl rfl rfl) (c_impl_Leaves _ _ _ _ _ (SlF.ofOwn ho14 (fun p_ hp_ => (hs20.own p_ (List.mem_append_right _ (List.mem_append_left _ hp_))).1)) ?_) ?_
    · first | assumption | rfl | omega
    rintro _ whs26 ⟨A27, c28, L129, rfl, hs26, ho30⟩
    replace hs26 := hs20.callF hs26
    refine ⟨_, rfl, ?_⟩
    refine WL.val rfl rfl rfl (Run.assign rfl rfl) ?_
    refine WL.nil ?_
    refine tkN ?_
    refine hK25 _ _ ?_
    clear hK25
    refine WC.seq (fun K31 hK31 => ?_)
    refine WC.seq (fun K32 hK32 => ?_)
    refine WC.region ?_
    refine WL.val rfl rfl rfl (Run.move rfl rfl) ?_
    refine WL.val rfl rfl rfl (Run.not rfl rfl) ?_
    refine WL.val rfl rfl rfl (Run.move rfl rfl) ?_
    apply WL.meetOr 6 30 36 [(0, _), (2, _), (3, _), (5, _), (6, _), (7, _), (13, _), (14, _), (15, _), (16, _), (17, _), (18, _), (19, _), (20, _), (21, _), (22, _), (23, _), (24, _), (25, _), (26, _), (27, _)] rfl hs26
    · intro g33 J34
      have qg33 := g33
      try simp only [decide_eq_true_eq, decide_eq_false_iff_not, Bool.not_eq_true', Bool.not_eq_false'] at qg33
      refine WL.val (wantF rfl g33) rfl rfl (Run.move rfl rfl) ?_
      refine WL.val (wantF rfl g33) rfl rfl (Run.lenSl Try.runUnderlying48 rfl rfl) ?_
      refine WL.val (wantF rfl g33) rfl rfl (Run.move rfl rfl) ?_
      refine WL.val (wantF rfl g33) rfl rfl (Run.lenSl Try.runUnderlying31 rfl rfl) ?_
      refine WL.val (wantF rfl g33) rfl rfl (Run.neq rfl rfl rfl) ?_
      refine WL.val rfl rfl rfl (Run.pickF rfl rfl g33 rfl) ?_
      exact WL.fin J34 hs26 rfl (orF g33) ⟨rfl, rfl, rfl, rfl, rfl, rfl, rfl, rfl, rfl, rfl, rfl, rfl, rfl, rfl, rfl, rfl, rfl, rfl, rfl, rfl, rfl, trivial⟩
    · intro g33 J34
      refine WL.skip (wantNF rfl g33) rfl rfl ?_
      refine WL.skip (wantNF rfl g33) rfl rfl ?_
      refine WL.skip (wantNF rfl g33) rfl rfl ?_
      refine WL.skip (wantNF rfl g33) rfl rfl ?_
      refine WL.skip (wantNF rfl g33) rfl rfl ?_
      refine WL.val rfl rfl rfl (Run.pickT rfl rfl g33 rfl) ?_
      exact WL.fin J34 hs26 rfl (orT g33) ⟨rfl, rfl, rfl, rfl, rfl, rfl, rfl, rfl, rfl, rfl, rfl, rfl, rfl, rfl, rfl, rfl, rfl, rfl, rfl, rfl, rfl, trivial⟩
    · intro whs35 hs35
      refine WL.val rfl rfl rfl (Run.move rfl rfl) ?_
      apply WL.meetOr 8 37 45 [(0, _), (2, _), (3, _), (5, _), (6, _), (7, _), (13, _), (14, _), (15, _), (16, _), (17, _), (18, _), (19, _), (20, _), (21, _), (22, _), (23, _), (24, _), (25, _), (26, _), (27, _)] rfl hs35
      · intro g36 J37
        have qg36 := g36
        try simp only [decide_eq_true_eq, decide_eq_false_iff_not, Bool.not_eq_true', Bool.not_eq_false'] at qg36
        refine WL.val (wantF rfl g36) rfl rfl (Run.move rfl rfl) ?_
        refine WL.val (wantF rfl g36) rfl rfl (Run.lenSl Try.runUnderlying25 rfl rfl) ?_
        refine WL.val (wantF rfl g36) rfl rfl (Run.move rfl rfl) ?_
        refine WL.val (wantF rfl g36) rfl rfl (Run.lenSl Try.runUnderlying31 rfl rfl) ?_
        refine WL.val (wantF rfl g36) rfl rfl (Run.mul rfl rfl rfl ?_) ?_
        · constructor <;> omega
        refine WL.val (wantF rfl g36) rfl rfl (Run.sub rfl rfl rfl ?_) ?_
        · constructor <;> omega
        refine WL.val (wantF rfl g36) rfl rfl (Run.neq rfl rfl rfl) ?_
        refine WL.val rfl rfl rfl (Run.pickF rfl rfl g36 rfl) ?_
        exact WL.fin J37 hs35 rfl (orF g36) ⟨rfl, rfl, rfl, rfl, rfl, rfl, rfl, rfl, rfl, rfl, rfl, rfl, rfl, rfl, rfl, rfl, rfl, rfl, rfl, rfl, rfl, trivial⟩
      · intro g36 J37
        refine WL.skip (wantNF rfl g36) rfl rfl ?_
        refine WL.skip (wantNF rfl g36) rfl rfl ?_
        refine WL.skip (wantNF rfl g36) rfl rfl ?_
        refine WL.skip (wantNF rfl g36) rfl rfl ?_
        refine WL.skip (wantNF rfl g36) rfl rfl ?_
        refine WL.skip (wantNF rfl g36) rfl rfl ?_
        refine WL.skip (wantNF rfl g36) rfl rfl ?_
        refine WL.val rfl rfl rfl (Run.pickT rfl rfl g36 rfl) ?_
        exact WL.fin J37 hs35 rfl (orT g36) ⟨rfl, rfl, rfl, rfl, rfl, rfl, rfl, rfl, rfl, rfl, rfl, rfl, rfl, rfl, rfl, rfl, rfl, rfl, rfl, rfl, rfl, trivial⟩
      · intro whs38 hs38
        refine WL.nil ?_
        refine tkN ?_
        refine hK32 _ _ ?_
        clear hK32
        refine WC.condF rfl (by simp [hfa.ok]; omega) ?_
        refine WC.skip ?_
        refine tkN ?_
        refine hK31 _ _ ?_
        clear hK31
        refine WC.seq (fun K40 hK40 => ?_)
        refine WC.region ?_
        refine WL.val rfl rfl rfl (Run.assign rfl rfl) ?_
        refine WL.nil ?_
        refine tkN ?_
        refine hK40 _ _ ?_
        clear hK40
        refine WC.seq (fun K41 hK41 => ?_)
        refine WC.seq (fun K42 hK42 => ?_)
        refine WC.region ?_
        refine WL.val rfl rfl rfl (Run.move rfl rfl) ?_
        refine WL.val rfl rfl rfl (Run.lenSl Try.runUnderlying48 rfl rfl) ?_
        refine WL.val rfl rfl rfl (Run.move rfl rfl) ?_
        refine WL.nil ?_
        refine tkN ?_
        refine hK42 _ _ ?_
        clear hK42
        refine WC.block ?_
        refine WC.loopS [(0, _), (3, _), (5, _), (6, _), (7, _), (13, _), (14, _), (15, _), (16, _), (17, _), (18, _), (19, _), (20, _), (21, _), (22, _), (23, _), (24, _), (25, _), (26, _), (27, _), (45, _), (46, _), (47, _)] ⟨rfl, rfl, rfl, rfl, rfl, rfl, rfl, rfl, rfl, rfl, rfl, rfl, rfl, rfl, rfl, rfl, rfl, rfl, rfl, rfl, rfl, rfl, rfl, trivial⟩ hs38 (fun k_ f w' => ∃ (i : Nat) (sm : Int), k_ = (placesL t9 24 12).length - i ∧ (i ≤ (placesL t9 24 12).length) ∧ (sm = sumA ((placesL t9 24 12).take i)) ∧ Sub [(48, .int .i64 i), (8, .int .i64 sm)] f) ((fun (i : Nat) (sm : Int) => (placesL t9 24 12).length - i) (0) (0)) ?_ ?_
        · refine ⟨0, 0, rfl, ?_, ?_, ⟨rfl, rfl, trivial⟩⟩
          · exact Nat.zero_le _
          · simp [sumA]
        · clear hs38
          rintro _ f w ⟨i, sm, rfl, p0, p1, hG⟩ hF hs43
          refine WC.sub _ (hG.app hF) ?_
          clear hG hF
          refine WC.seq (fun K44 hK44 => ?_)
          refine WC.region ?_
          refine WL.val rfl rfl rfl (Run.lss rfl rfl rfl) ?_
          refine WL.nil ?_
          refine tkN ?_
          refine hK44 _ _ ?_
          clear hK44
          refine WC.seq (fun K45 hK45 => ?_)
          refine WC.cond rfl (fun h46 => ?_) (fun h46 => ?_)
          · have qh46 := h46
            try simp only [decide_eq_true_eq, decide_eq_false_iff_not, Bool.not_eq_true', Bool.not_eq_false', Bool.and_eq_true, Bool.or_eq_false_iff, within_iff, within_not] at qh46
            have hin := hfa.inn i (by omega)
            have hsi := hfa.sum i (by omega)
            have hsj := hfa.sum (i + 1) (by omega)
            rw [sumA_take (by omega)] at hsj
            refine WC.skip ?_
            refine tkN ?_
            refine hK45 _ _ ?_
            clear hK45
            refine WC.seq (fun K47 hK47 => ?_)
            refine WC.block ?_
            refine WC.seq (fun K48 hK48 => ?_)
            refine WC.region ?_
            refine WL.val rfl rfl rfl (Run.move rfl rfl) ?_
            refine WL.val rfl rfl rfl (Run.idxN Try.runUnderlying48 Try.sizeOf40 rfl rfl rfl ?_ ?_ ?_) ?_
            · exact SlF.some_ (SlF.ofOwn ho24 (fun p_ hp_ => (hs43.own p_ (List.mem_append_right _ (List.mem_append_left _ hp_))).1))
            · omega
            · omega
            refine WL.val rfl rfl rfl (Run.loadA Try.isAgg40 Try.sizeOf40 rfl rfl (SlF.whole (SlF.ofOwn ho24 (fun p_ hp_ => (hs43.own p_ (List.mem_append_right _ (List.mem_append_left _ hp_))).1)) ?_)) ?_
            · omega
            refine WL.alloc hs43 Try.zeroValue40 rfl rfl rfl rfl rfl (fun b49 whs50 hs50 => ?_)
            refine WL.val rfl rfl rfl (Run.assign rfl rfl) ?_
            refine WL.storeA hs50 0 Try.sizeOf40 rfl rfl rfl rfl rfl rfl rfl rfl rfl (Nat.le_of_ble_eq_true rfl) (.inl (Nat.le_of_ble_eq_true rfl)) (fun whs51 hs51 => ?_)
            refine WL.nil ?_
            refine tkN ?_
            refine hK48 _ _ ?_
            clear hK48
            refine WC.seq (fun K52 hK52 => ?_)
            refine WC.seq (fun K53 hK53 => ?_)
            refine WC.regionQ (fun w' => St _ _ _ w') mixed (by kernel_rfl) hs51.drew ?_
            refine WQ.val rfl rfl rfl (fun w_ hs_ => (Run.field Try.runUnderlying40 rfl rfl rfl Try.sizeOf3 rfl)) ?_
            refine WQ.val rfl rfl rfl (fun w_ hs_ => (Run.loadL (hs_ : St _ _ _ _) 0 Try.isAgg3 rfl rfl rfl rfl)) ?_
            refine WQ.val rfl rfl rfl (fun w_ hs_ => (Run.move rfl rfl)) ?_
            refine WQ.val rfl rfl rfl (fun w_ hs_ => (Run.move rfl rfl)) ?_
            refine WQ.val rfl rfl rfl (fun w_ hs_ => (Run.idxN Try.runUnderlying31 Try.sizeOf3 rfl rfl rfl ?_ ?_ ?_)) ?_
            · exact SlF.some_ (SlF.ofOwn ho30 (fun p_ hp_ => ((hs_ : St _ _ _ _).own p_ (List.mem_append_right [_] (List.mem_append_left _ hp_))).1))
            · omega
            · omega
            refine WQ.val rfl rfl rfl (fun w_ hs_ => (Run.load Try.isAgg3 rfl rfl (SlF.one1 (SlF.ofOwn ho30 (fun p_ hp_ => ((hs_ : St _ _ _ _).own p_ (List.mem_append_right [_] (List.mem_append_left _ hp_))).1)) ?_ rfl))) ?_
            · omega
            refine WQ.val rfl rfl rfl (fun w_ hs_ => (Run.neq rfl rfl rfl)) ?_
            refine WQ.val rfl rfl rfl (fun w_ hs_ => (Run.move rfl rfl)) ?_
            apply WQ.meetOr 4 60 64 [(0, _), (3, _), (5, _), (6, _), (7, _), (8, _), (9, _), (10, _), (13, _), (14, _), (15, _), (16, _), (17, _), (18, _), (19, _), (20, _), (21, _), (22, _), (23, _), (24, _), (25, _), (26, _), (27, _), (45, _), (46, _), (47, _), (48, _), (49, _), (50, _), (51, _), (52, _)] rfl
            · intro g54 J55
              have qg54 := g54
              try simp only [decide_eq_true_eq, decide_eq_false_iff_not, Bool.not_eq_true', Bool.not_eq_false'] at qg54
              refine WQ.val (wantF rfl g54) rfl rfl (fun w_ hs_ => (Run.field Try.runUnderlying40 rfl rfl rfl Try.sizeOf3 rfl)) ?_
              refine WQ.val (wantF rfl g54) rfl rfl (fun w_ hs_ => (Run.loadL (hs_ : St _ _ _ _) 0 Try.isAgg3 rfl rfl rfl rfl)) ?_
              refine WQ.val (wantF rfl g54) rfl rfl (fun w_ hs_ => (Run.lss rfl rfl rfl)) ?_
              refine WQ.val rfl rfl rfl (fun w_ hs_ => (Run.pickF rfl rfl g54 rfl)) ?_
              exact WQ.fin J55 rfl (orF g54) ⟨rfl, rfl, rfl, rfl, rfl, rfl, rfl, rfl, rfl, rfl, rfl, rfl, rfl, rfl, rfl, rfl, rfl, rfl, rfl, rfl, rfl, rfl, rfl, rfl, rfl, rfl, rfl, rfl, rfl, rfl, rfl, trivial⟩
            · intro g54 J55
              refine WQ.skip (wantNF rfl g54) rfl rfl ?_
              refine WQ.skip (wantNF rfl g54) rfl rfl ?_
              refine WQ.skip (wantNF rfl g54) rfl rfl ?_
              refine WQ.val rfl rfl rfl (fun w_ hs_ => (Run.pickT rfl rfl g54 rfl)) ?_
              exact WQ.fin J55 rfl (orT g54) ⟨rfl, rfl, rfl, rfl, rfl, rfl, rfl, rfl, rfl, rfl, rfl, rfl, rfl, rfl, rfl, rfl, rfl, rfl, rfl, rfl, rfl, rfl, rfl, rfl, rfl, rfl, rfl, rfl, rfl, rfl, rfl, trivial⟩
            · refine WQ.val rfl rfl rfl (fun w_ hs_ => (Run.move rfl rfl)) ?_
              apply WQ.meetOr 4 65 69 [(0, _), (3, _), (5, _), (6, _), (7, _), (8, _), (9, _), (10, _), (13, _), (14, _), (15, _), (16, _), (17, _), (18, _), (19, _), (20, _), (21, _), (22, _), (23, _), (24, _), (25, _), (26, _), (27, _), (45, _), (46, _), (47, _), (48, _), (49, _), (50, _), (51, _), (52, _)] rfl
              · intro g56 J57
                have qg56 := g56
                try simp only [decide_eq_true_eq, decide_eq_false_iff_not, Bool.not_eq_true', Bool.not_eq_false'] at qg56
                refine WQ.val (wantF rfl g56) rfl rfl (fun w_ hs_ => (Run.field Try.runUnderlying40 rfl rfl rfl Try.sizeOf3 rfl)) ?_
                refine WQ.val (wantF rfl g56) rfl rfl (fun w_ hs_ => (Run.loadL (hs_ : St _ _ _ _) 0 Try.isAgg3 rfl rfl rfl rfl)) ?_
                refine WQ.val (wantF rfl g56) rfl rfl (fun w_ hs_ => (Run.lss rfl rfl rfl)) ?_
                refine WQ.val rfl rfl rfl (fun w_ hs_ => (Run.pickF rfl rfl g56 rfl)) ?_
                exact WQ.fin J57 rfl (orF g56) ⟨rfl, rfl, rfl, rfl, rfl, rfl, rfl, rfl, rfl, rfl, rfl, rfl, rfl, rfl, rfl, rfl, rfl, rfl, rfl, rfl, rfl, rfl, rfl, rfl, rfl, rfl, rfl, rfl, rfl, rfl, rfl, trivial⟩
              · intro g56 J57
                refine WQ.skip (wantNF rfl g56) rfl rfl ?_
                refine WQ.skip (wantNF rfl g56) rfl rfl ?_
                refine WQ.skip (wantNF rfl g56) rfl rfl ?_
                refine WQ.val rfl rfl rfl (fun w_ hs_ => (Run.pickT rfl rfl g56 rfl)) ?_
                exact WQ.fin J57 rfl (orT g56) ⟨rfl, rfl, rfl, rfl, rfl, rfl, rfl, rfl, rfl, rfl, rfl, rfl, rfl, rfl, rfl, rfl, rfl, rfl, rfl, rfl, rfl, rfl, rfl, rfl, rfl, rfl, rfl, rfl, rfl, rfl, rfl, trivial⟩
              · refine WQ.val rfl rfl rfl (fun w_ hs_ => (Run.move rfl rfl)) ?_
                apply WQ.meetOr 4 70 74 [(0, _), (3, _), (5, _), (6, _), (7, _), (8, _), (9, _), (10, _), (13, _), (14, _), (15, _), (16, _), (17, _), (18, _), (19, _), (20, _), (21, _), (22, _), (23, _), (24, _), (25, _), (26, _), (27, _), (45, _), (46, _), (47, _), (48, _), (49, _), (50, _), (51, _), (52, _)] rfl
                · intro g58 J59
                  have qg58 := g58
                  try simp only [decide_eq_true_eq, decide_eq_false_iff_not, Bool.not_eq_true', Bool.not_eq_false'] at qg58
                  refine WQ.val (wantF rfl g58) rfl rfl (fun w_ hs_ => (Run.field Try.runUnderlying40 rfl rfl rfl Try.sizeOf3 rfl)) ?_
                  refine WQ.val (wantF rfl g58) rfl rfl (fun w_ hs_ => (Run.loadL (hs_ : St _ _ _ _) 0 Try.isAgg3 rfl rfl rfl rfl)) ?_
                  refine WQ.val (wantF rfl g58) rfl rfl (fun w_ hs_ => (Run.lss rfl rfl rfl)) ?_
                  refine WQ.val rfl rfl rfl (fun w_ hs_ => (Run.pickF rfl rfl g58 rfl)) ?_
                  exact WQ.fin J59 rfl (orF g58) ⟨rfl, rfl, rfl, rfl, rfl, rfl, rfl, rfl, rfl, rfl, rfl, rfl, rfl, rfl, rfl, rfl, rfl, rfl, rfl, rfl, rfl, rfl, rfl, rfl, rfl, rfl, rfl, rfl, rfl, rfl, rfl, trivial⟩
                · intro g58 J59
                  refine WQ.skip (wantNF rfl g58) rfl rfl ?_
                  refine WQ.skip (wantNF rfl g58) rfl rfl ?_
                  refine WQ.skip (wantNF rfl g58) rfl rfl ?_
                  refine WQ.val rfl rfl rfl (fun w_ hs_ => (Run.pickT rfl rfl g58 rfl)) ?_
                  exact WQ.fin J59 rfl (orT g58) ⟨rfl, rfl, rfl, rfl, rfl, rfl, rfl, rfl, rfl, rfl, rfl, rfl, rfl, rfl, rfl, rfl, rfl, rfl, rfl, rfl, rfl, rfl, rfl, rfl, rfl, rfl, rfl, rfl, rfl, rfl, rfl, trivial⟩
                · refine WQ.val rfl rfl rfl (fun w_ hs_ => (Run.move rfl rfl)) ?_
                  apply WQ.meetOr 4 75 79 [(0, _), (3, _), (5, _), (6, _), (7, _), (8, _), (9, _), (10, _), (13, _), (14, _), (15, _), (16, _), (17, _), (18, _), (19, _), (20, _), (21, _), (22, _), (23, _), (24, _), (25, _), (26, _), (27, _), (45, _), (46, _), (47, _), (48, _), (49, _), (50, _), (51, _), (52, _)] rfl
                  · intro g60 J61
                    have qg60 := g60
                    try simp only [decide_eq_true_eq, decide_eq_false_iff_not, Bool.not_eq_true', Bool.not_eq_false'] at qg60
                    refine WQ.val (wantF rfl g60) rfl rfl (fun w_ hs_ => (Run.field Try.runUnderlying40 rfl rfl rfl Try.sizeOf3 rfl)) ?_
                    refine WQ.val (wantF rfl g60) rfl rfl (fun w_ hs_ => (Run.loadL (hs_ : St _ _ _ _) 0 Try.isAgg3 rfl rfl rfl rfl)) ?_
                    refine WQ.val (wantF rfl g60) rfl rfl (fun w_ hs_ => (Run.lss rfl rfl rfl)) ?_
                    refine WQ.val rfl rfl rfl (fun w_ hs_ => (Run.pickF rfl rfl g60 rfl)) ?_
                    exact WQ.fin J61 rfl (orF g60) ⟨rfl, rfl, rfl, rfl, rfl, rfl, rfl, rfl, rfl, rfl, rfl, rfl, rfl, rfl, rfl, rfl, rfl, rfl, rfl, rfl, rfl, rfl, rfl, rfl, rfl, rfl, rfl, rfl, rfl, rfl, rfl, trivial⟩
                  · intro g60 J61
                    refine WQ.skip (wantNF rfl g60) rfl rfl ?_
                    refine WQ.skip (wantNF rfl g60) rfl rfl ?_
                    refine WQ.skip (wantNF rfl g60) rfl rfl ?_
                    refine WQ.val rfl rfl rfl (fun w_ hs_ => (Run.pickT rfl rfl g60 rfl)) ?_
                    exact WQ.fin J61 rfl (orT g60) ⟨rfl, rfl, rfl, rfl, rfl, rfl, rfl, rfl, rfl, rfl, rfl, rfl, rfl, rfl, rfl, rfl, rfl, rfl, rfl, rfl, rfl, rfl, rfl, rfl, rfl, rfl, rfl, rfl, rfl, rfl, rfl, trivial⟩
                  · refine WQ.val rfl rfl rfl (fun w_ hs_ => (Run.move rfl rfl)) ?_
                    apply WQ.meetOr 7 80 87 [(0, _), (3, _), (5, _), (6, _), (7, _), (8, _), (9, _), (10, _), (13, _), (14, _), (15, _), (16, _), (17, _), (18, _), (19, _), (20, _), (21, _), (22, _), (23, _), (24, _), (25, _), (26, _), (27, _), (45, _), (46, _), (47, _), (48, _), (49, _), (50, _), (51, _), (52, _)] rfl
                    · intro g62 J63
                      have qg62 := g62
                      try simp only [decide_eq_true_eq, decide_eq_false_iff_not, Bool.not_eq_true', Bool.not_eq_false'] at qg62
                      refine WQ.val (wantF rfl g62) rfl rfl (fun w_ hs_ => (Run.field Try.runUnderlying40 rfl rfl rfl Try.sizeOf3 rfl)) ?_
                      refine WQ.val (wantF rfl g62) rfl rfl (fun w_ hs_ => (Run.loadL (hs_ : St _ _ _ _) 0 Try.isAgg3 rfl rfl rfl rfl)) ?_
                      refine WQ.val (wantF rfl g62) rfl rfl (fun w_ hs_ => (Run.field Try.runUnderlying40 rfl rfl rfl Try.sizeOf3 rfl)) ?_
                      refine WQ.val (wantF rfl g62) rfl rfl (fun w_ hs_ => (Run.loadL (hs_ : St _ _ _ _) 0 Try.isAgg3 rfl rfl rfl rfl)) ?_
                      refine WQ.val (wantF rfl g62) rfl rfl (fun w_ hs_ => (Run.add rfl rfl rfl ?_)) ?_
                      · constructor <;> omega
                      refine WQ.val (wantF rfl g62) rfl rfl (fun w_ hs_ => (Run.gtr rfl rfl rfl)) ?_
                      refine WQ.val rfl rfl rfl (fun w_ hs_ => (Run.pickF rfl rfl g62 rfl)) ?_
                      exact WQ.fin J63 rfl (orF g62) ⟨rfl, rfl, rfl, rfl, rfl, rfl, rfl, rfl, rfl, rfl, rfl, rfl, rfl, rfl, rfl, rfl, rfl, rfl, rfl, rfl, rfl, rfl, rfl, rfl, rfl, rfl, rfl, rfl, rfl, rfl, rfl, trivial⟩
                    · intro g62 J63
                      refine WQ.skip (wantNF rfl g62) rfl rfl ?_
                      refine WQ.skip (wantNF rfl g62) rfl rfl ?_
                      refine WQ.skip (wantNF rfl g62) rfl rfl ?_
                      refine WQ.skip (wantNF rfl g62) rfl rfl ?_
                      refine WQ.skip (wantNF rfl g62) rfl rfl ?_
                      refine WQ.skip (wantNF rfl g62) rfl rfl ?_
                      refine WQ.val rfl rfl rfl (fun w_ hs_ => (Run.pickT rfl rfl g62 rfl)) ?_
                      exact WQ.fin J63 rfl (orT g62) ⟨rfl, rfl, rfl, rfl, rfl, rfl, rfl, rfl, rfl, rfl, rfl, rfl, rfl, rfl, rfl, rfl, rfl, rfl, rfl, rfl, rfl, rfl, rfl, rfl, rfl, rfl, rfl, rfl, rfl, rfl, rfl, trivial⟩
                    · refine WQ.val rfl rfl rfl (fun w_ hs_ => (Run.move rfl rfl)) ?_
                      apply WQ.meetOr 7 88 95 [(0, _), (3, _), (5, _), (6, _), (7, _), (8, _), (9, _), (10, _), (13, _), (14, _), (15, _), (16, _), (17, _), (18, _), (19, _), (20, _), (21, _), (22, _), (23, _), (24, _), (25, _), (26, _), (27, _), (45, _), (46, _), (47, _), (48, _), (49, _), (50, _), (51, _), (52, _)] rfl
                      · intro g64 J65
                        have qg64 := g64
                        try simp only [decide_eq_true_eq, decide_eq_false_iff_not, Bool.not_eq_true', Bool.not_eq_false'] at qg64
                        refine WQ.val (wantF rfl g64) rfl rfl (fun w_ hs_ => (Run.field Try.runUnderlying40 rfl rfl rfl Try.sizeOf3 rfl)) ?_
                        refine WQ.val (wantF rfl g64) rfl rfl (fun w_ hs_ => (Run.loadL (hs_ : St _ _ _ _) 0 Try.isAgg3 rfl rfl rfl rfl)) ?_
                        refine WQ.val (wantF rfl g64) rfl rfl (fun w_ hs_ => (Run.field Try.runUnderlying40 rfl rfl rfl Try.sizeOf3 rfl)) ?_
                        refine WQ.val (wantF rfl g64) rfl rfl (fun w_ hs_ => (Run.loadL (hs_ : St _ _ _ _) 0 Try.isAgg3 rfl rfl rfl rfl)) ?_
                        refine WQ.val (wantF rfl g64) rfl rfl (fun w_ hs_ => (Run.add rfl rfl rfl ?_)) ?_
                        · constructor <;> omega
                        refine WQ.val (wantF rfl g64) rfl rfl (fun w_ hs_ => (Run.gtr rfl rfl rfl)) ?_
                        refine WQ.val rfl rfl rfl (fun w_ hs_ => (Run.pickF rfl rfl g64 rfl)) ?_
                        exact WQ.fin J65 rfl (orF g64) ⟨rfl, rfl, rfl, rfl, rfl, rfl, rfl, rfl, rfl, rfl, rfl, rfl, rfl, rfl, rfl, rfl, rfl, rfl, rfl, rfl, rfl, rfl, rfl, rfl, rfl, rfl, rfl, rfl, rfl, rfl, rfl, trivial⟩
                      · intro g64 J65
                        refine WQ.skip (wantNF rfl g64) rfl rfl ?_
                        refine WQ.skip (wantNF rfl g64) rfl rfl ?_
                        refine WQ.skip (wantNF rfl g64) rfl rfl ?_
                        refine WQ.skip (wantNF rfl g64) rfl rfl ?_
                        refine WQ.skip (wantNF rfl g64) rfl rfl ?_
                        refine WQ.skip (wantNF rfl g64) rfl rfl ?_
                        refine WQ.val rfl rfl rfl (fun w_ hs_ => (Run.pickT rfl rfl g64 rfl)) ?_
                        exact WQ.fin J65 rfl (orT g64) ⟨rfl, rfl, rfl, rfl, rfl, rfl, rfl, rfl, rfl, rfl, rfl, rfl, rfl, rfl, rfl, rfl, rfl, rfl, rfl, rfl, rfl, rfl, rfl, rfl, rfl, rfl, rfl, rfl, rfl, rfl, rfl, trivial⟩
                      · refine WQ.nil (fun whs66 hs66 => ?_)
                        replace hs66 : St _ _ _ _ := hs66
                        refine tkN ?_
                        refine hK53 _ _ ?_
                        clear hK53
                        have hin := hfa.inn i (by omega)
                        have hpa := hfa.pane i (by omega)
                        have hpb : gat encI (leavesL t9) i = gat encI (panesL t9) i := by rw [hfa.lv]
                        refine WC.condF rfl (by simp only [Bool.or_eq_false_iff, decide_eq_false_iff_not, Bool.not_eq_false', decide_eq_true_eq]; rw [hpb]; refine ⟨⟨⟨⟨⟨⟨hpa, ?_⟩, ?_⟩, ?_⟩, ?_⟩, ?_⟩, ?_⟩ <;> omega) ?_
                        refine WC.skip ?_
                        refine tkN ?_
                        refine hK52 _ _ ?_
                        clear hK52
                        refine WC.seq (fun K68 hK68 => ?_)
                        refine WC.region ?_
                        refine WL.val rfl rfl rfl (Run.move rfl rfl) ?_
                        refine WL.val rfl rfl rfl (Run.field Try.runUnderlying40 rfl rfl rfl Try.sizeOf3 rfl) ?_
                        refine WL.val rfl rfl rfl (Run.loadL hs66 0 Try.isAgg3 rfl rfl rfl rfl) ?_
                        refine WL.val rfl rfl rfl (Run.field Try.runUnderlying40 rfl rfl rfl Try.sizeOf3 rfl) ?_
                        refine WL.val rfl rfl rfl (Run.loadL hs66 0 Try.isAgg3 rfl rfl rfl rfl) ?_
                        refine WL.val rfl rfl rfl (Run.mul rfl rfl rfl ?_) ?_
                        · constructor <;> omega
                        refine WL.val rfl rfl rfl (Run.add rfl rfl rfl ?_) ?_
                        · constructor <;> omega
                        refine WL.val rfl rfl rfl (Run.assign rfl rfl) ?_
                        refine WL.nil ?_
                        refine tkN ?_
                        refine hK68 _ _ ?_
                        clear hK68
                        refine WC.seq (fun K69 hK69 => ?_)
                        refine WC.region ?_
                        refine WL.val rfl rfl rfl (Run.move rfl rfl) ?_
                        refine WL.val rfl rfl rfl (Run.move rfl rfl) ?_
                        have ho70 := OwnF.take (k := i) ho24 (by omega)
                        have hcho70 := OwnF.cap ho70
                        refine WL.val rfl rfl rfl (Run.sliceH0 (i) Try.runUnderlying48 Try.sizeOf40 rfl rfl rfl ?_ ?_) ?_
                        · first | rfl | (omega)
                        · first | (exact Nat.zero_le _) | (omega)
                        refine WL.val rfl rfl rfl (Run.lenSl Try.runUnderlying48 rfl rfl) ?_
                        refine WL.val rfl rfl rfl (Run.move rfl rfl) ?_
                        refine WL.nil ?_
                        refine tkN ?_
                        refine hK69 _ _ ?_
                        clear hK69
                        refine WC.block ?_
                        refine WC.loopS [(0, _), (3, _), (5, _), (6, _), (7, _), (8, _), (9, _), (10, _), (13, _), (14, _), (15, _), (16, _), (17, _), (18, _), (19, _), (20, _), (21, _), (22, _), (23, _), (24, _), (25, _), (26, _), (27, _), (45, _), (46, _), (47, _), (48, _), (49, _), (50, _), (51, _), (52, _), (95, _), (96, _), (97, _), (98, _), (99, _), (100, _), (101, _), (102, _), (103, _), (104, _), (105, _), (106, _)] ⟨rfl, rfl, rfl, rfl, rfl, rfl, rfl, rfl, rfl, rfl, rfl, rfl, rfl, rfl, rfl, rfl, rfl, rfl, rfl, rfl, rfl, rfl, rfl, rfl, rfl, rfl, rfl, rfl, rfl, rfl, rfl, rfl, rfl, rfl, rfl, rfl, rfl, rfl, rfl, rfl, rfl, rfl, rfl, trivial⟩ hs66 (fun k_ f w' => ∃ (j : Nat), k_ = i - j ∧ (j ≤ i) ∧ Sub [(107, .int .i64 j)] f) ((fun (j : Nat) => i - j) (0)) ?_ ?_
                        · refine ⟨0, rfl, ?_, ⟨rfl, trivial⟩⟩
                          · exact Nat.zero_le _
                        · clear hs66
                          rintro _ f w ⟨j, rfl, r0, hG⟩ hF hs71
                          refine WC.sub _ (hG.app hF) ?_
                          clear hG hF
                          refine WC.seq (fun K72 hK72 => ?_)
                          refine WC.region ?_
                          refine WL.val rfl rfl rfl (Run.lss rfl rfl rfl) ?_
                          refine WL.nil ?_
                          refine tkN ?_
                          refine hK72 _ _ ?_
                          clear hK72
                          refine WC.seq (fun K73 hK73 => ?_)
                          refine WC.cond rfl (fun h74 => ?_) (fun h74 => ?_)
                          · have qh74 := h74
                            try simp only [decide_eq_true_eq, decide_eq_false_iff_not, Bool.not_eq_true', Bool.not_eq_false', Bool.and_eq_true, Bool.or_eq_false_iff, within_iff, within_not] at qh74
                            have hinj := hfa.inn j (by omega)
                            have hgj : gat encRect (List.take i (placesL t9 24 12)) j = gat encRect (placesL t9 24 12) j := gat_take (by omega)
                            rw [← hgj] at hinj
                            refine WC.skip ?_
                            refine tkN ?_
                            refine hK73 _ _ ?_
                            clear hK73
                            refine WC.seq (fun K75 hK75 => ?_)
                            refine WC.block ?_
                            refine WC.seq (fun K76 hK76 => ?_)
                            refine WC.region ?_
                            refine WL.val rfl rfl rfl (Run.idxN Try.runUnderlying48 Try.sizeOf40 rfl rfl rfl ?_ ?_ ?_) ?_
                            · exact SlF.some_ (SlF.ofOwn ho70 (fun p_ hp_ => (hs71.own p_ (List.mem_append_right [_] (List.mem_append_right _ (List.mem_append_left _ hp_)))).1))
                            · omega
                            · omega
                            refine WL.val rfl rfl rfl (Run.loadA Try.isAgg40 Try.sizeOf40 rfl rfl (SlF.whole (SlF.ofOwn ho70 (fun p_ hp_ => (hs71.own p_ (List.mem_append_right [_] (List.mem_append_right _ (List.mem_append_left _ hp_)))).1)) ?_)) ?_
                            · omega
                            refine WL.alloc hs71 Try.zeroValue40 rfl rfl rfl rfl rfl (fun b77 whs78 hs78 => ?_)
                            refine WL.storeA hs78 0 Try.sizeOf40 rfl rfl rfl rfl rfl rfl rfl rfl rfl (Nat.le_of_ble_eq_true rfl) (.inl (Nat.le_of_ble_eq_true rfl)) (fun whs79 hs79 => ?_)
                            refine WL.nil ?_
                            refine tkN ?_
                            refine hK76 _ _ ?_
                            clear hK76
                            refine WC.seq (fun K80 hK80 => ?_)
                            refine WC.region ?_
                            refine WL.val rfl rfl rfl (Run.field Try.runUnderlying40 rfl rfl rfl Try.sizeOf3 rfl) ?_
                            refine WL.val rfl rfl rfl (Run.loadL hs79 0 Try.isAgg3 rfl rfl rfl rfl) ?_
                            refine WL.val rfl rfl rfl (Run.field Try.runUnderlying40 rfl rfl rfl Try.sizeOf3 rfl) ?_
                            refine WL.val rfl rfl rfl (Run.loadL hs79 1 Try.isAgg3 rfl rfl rfl rfl) ?_
                            refine WL.val rfl rfl rfl (Run.field Try.runUnderlying40 rfl rfl rfl Try.sizeOf3 rfl) ?_
                            refine WL.val rfl rfl rfl (Run.loadL hs79 1 Try.isAgg3 rfl rfl rfl rfl) ?_
                            refine WL.val rfl rfl rfl (Run.add rfl rfl rfl ?_) ?_
                            · constructor <;> omega
                            refine WL.val rfl rfl rfl (Run.lss rfl rfl rfl) ?_
                            refine WL.val rfl rfl rfl (Run.move rfl rfl) ?_
                            apply WL.meetAnd 9 119 128 [(0, _), (3, _), (5, _), (6, _), (7, _), (8, _), (9, _), (10, _), (12, _), (13, _), (14, _), (15, _), (16, _), (17, _), (18, _), (19, _), (20, _), (21, _), (22, _), (23, _), (24, _), (25, _), (26, _), (27, _), (45, _), (46, _), (47, _), (48, _), (49, _), (50, _), (51, _), (52, _), (95, _), (96, _), (97, _), (98, _), (99, _), (100, _), (101, _), (102, _), (103, _), (104, _), (105, _), (106, _), (107, _), (108, _), (109, _), (110, _)] rfl hs79
                            · intro g81 J82
                              have qg81 := g81
                              try simp only [decide_eq_true_eq, decide_eq_false_iff_not, Bool.not_eq_true', Bool.not_eq_false'] at qg81
                              refine WL.val (wantT rfl g81) rfl rfl (Run.field Try.runUnderlying40 rfl rfl rfl Try.sizeOf3 rfl) ?_
                              refine WL.val (wantT rfl g81) rfl rfl (Run.loadL hs79 1 Try.isAgg3 rfl rfl rfl rfl) ?_
                              refine WL.val (wantT rfl g81) rfl rfl (Run.field Try.runUnderlying40 rfl rfl rfl Try.sizeOf3 rfl) ?_
                              refine WL.val (wantT rfl g81) rfl rfl (Run.loadL hs79 0 Try.isAgg3 rfl rfl rfl rfl) ?_
                              refine WL.val (wantT rfl g81) rfl rfl (Run.field Try.runUnderlying40 rfl rfl rfl Try.sizeOf3 rfl) ?_
                              refine WL.val (wantT rfl g81) rfl rfl (Run.loadL hs79 0 Try.isAgg3 rfl rfl rfl rfl) ?_
                              refine WL.val (wantT rfl g81) rfl rfl (Run.add rfl rfl rfl ?_) ?_
                              · constructor <;> omega
                              refine WL.val (wantT rfl g81) rfl rfl (Run.lss rfl rfl rfl) ?_
                              refine WL.val rfl rfl rfl (Run.pickT rfl rfl g81 rfl) ?_
                              exact WL.fin J82 hs79 rfl (andT g81) ⟨rfl, rfl, rfl, rfl, rfl, rfl, rfl, rfl, rfl, rfl, rfl, rfl, rfl, rfl, rfl, rfl, rfl, rfl, rfl, rfl, rfl, rfl, rfl, rfl, rfl, rfl, rfl, rfl, rfl, rfl, rfl, rfl, rfl, rfl, rfl, rfl, rfl, rfl, rfl, rfl, rfl, rfl, rfl, rfl, rfl, rfl, rfl, rfl, trivial⟩
                            · intro g81 J82
                              refine WL.skip (wantNT rfl g81) rfl rfl ?_
                              refine WL.skip (wantNT rfl g81) rfl rfl ?_
                              refine WL.skip (wantNT rfl g81) rfl rfl ?_
                              refine WL.skip (wantNT rfl g81) rfl rfl ?_
                              refine WL.skip (wantNT rfl g81) rfl rfl ?_
                              refine WL.skip (wantNT rfl g81) rfl rfl ?_
                              refine WL.skip (wantNT rfl g81) rfl rfl ?_
                              refine WL.skip (wantNT rfl g81) rfl rfl ?_
                              refine WL.val rfl rfl rfl (Run.pickF rfl rfl g81 rfl) ?_
                              exact WL.fin J82 hs79 rfl (andF g81) ⟨rfl, rfl, rfl, rfl, rfl, rfl, rfl, rfl, rfl, rfl, rfl, rfl, rfl, rfl, rfl, rfl, rfl, rfl, rfl, rfl, rfl, rfl, rfl, rfl, rfl, rfl, rfl, rfl, rfl, rfl, rfl, rfl, rfl, rfl, rfl, rfl, rfl, rfl, rfl, rfl, rfl, rfl, rfl, rfl, rfl, rfl, rfl, rfl, trivial⟩
                            · intro whs83 hs83
                              refine WL.val rfl rfl rfl (Run.move rfl rfl) ?_
                              apply WL.meetAnd 9 129 138 [(0, _), (3, _), (5, _), (6, _), (7, _), (8, _), (9, _), (10, _), (12, _), (13, _), (14, _), (15, _), (16, _), (17, _), (18, _), (19, _), (20, _), (21, _), (22, _), (23, _), (24, _), (25, _), (26, _), (27, _), (45, _), (46, _), (47, _), (48, _), (49, _), (50, _), (51, _), (52, _), (95, _), (96, _), (97, _), (98, _), (99, _), (100, _), (101, _), (102, _), (103, _), (104, _), (105, _), (106, _), (107, _), (108, _), (109, _), (110, _)] rfl hs83
                              · intro g84 J85
                                have qg84 := g84
                                try simp only [decide_eq_true_eq, decide_eq_false_iff_not, Bool.not_eq_true', Bool.not_eq_false'] at qg84
                                refine WL.val (wantT rfl g84) rfl rfl (Run.field Try.runUnderlying40 rfl rfl rfl Try.sizeOf3 rfl) ?_
                                refine WL.val (wantT rfl g84) rfl rfl (Run.loadL hs83 0 Try.isAgg3 rfl rfl rfl rfl) ?_
                                refine WL.val (wantT rfl g84) rfl rfl (Run.field Try.runUnderlying40 rfl rfl rfl Try.sizeOf3 rfl) ?_
                                refine WL.val (wantT rfl g84) rfl rfl (Run.loadL hs83 1 Try.isAgg3 rfl rfl rfl rfl) ?_
                                refine WL.val (wantT rfl g84) rfl rfl (Run.field Try.runUnderlying40 rfl rfl rfl Try.sizeOf3 rfl) ?_
                                refine WL.val (wantT rfl g84) rfl rfl (Run.loadL hs83 1 Try.isAgg3 rfl rfl rfl rfl) ?_
                                refine WL.val (wantT rfl g84) rfl rfl (Run.add rfl rfl rfl ?_) ?_
                                · constructor <;> omega
                                refine WL.val (wantT rfl g84) rfl rfl (Run.lss rfl rfl rfl) ?_
                                refine WL.val rfl rfl rfl (Run.pickT rfl rfl g84 rfl) ?_
                                exact WL.fin J85 hs83 rfl (andT g84) ⟨rfl, rfl, rfl, rfl, rfl, rfl, rfl, rfl, rfl, rfl, rfl, rfl, rfl, rfl, rfl, rfl, rfl, rfl, rfl, rfl, rfl, rfl, rfl, rfl, rfl, rfl, rfl, rfl, rfl, rfl, rfl, rfl, rfl, rfl, rfl, rfl, rfl, rfl, rfl, rfl, rfl, rfl, rfl, rfl, rfl, rfl, rfl, rfl, trivial⟩
                              · intro g84 J85
                                refine WL.skip (wantNT rfl g84) rfl rfl ?_
                                refine WL.skip (wantNT rfl g84) rfl rfl ?_
                                refine WL.skip (wantNT rfl g84) rfl rfl ?_
                                refine WL.skip (wantNT rfl g84) rfl rfl ?_
                                refine WL.skip (wantNT rfl g84) rfl rfl ?_
                                refine WL.skip (wantNT rfl g84) rfl rfl ?_
                                refine WL.skip (wantNT rfl g84) rfl rfl ?_
                                refine WL.skip (wantNT rfl g84) rfl rfl ?_
                                refine WL.val rfl rfl rfl (Run.pickF rfl rfl g84 rfl) ?_
                                exact WL.fin J85 hs83 rfl (andF g84) ⟨rfl, rfl, rfl, rfl, rfl, rfl, rfl, rfl, rfl, rfl, rfl, rfl, rfl, rfl, rfl, rfl, rfl, rfl, rfl, rfl, rfl, rfl, rfl, rfl, rfl, rfl, rfl, rfl, rfl, rfl, rfl, rfl, rfl, rfl, rfl, rfl, rfl, rfl, rfl, rfl, rfl, rfl, rfl, rfl, rfl, rfl, rfl, rfl, trivial⟩
                              · intro whs86 hs86
                                refine WL.val rfl rfl rfl (Run.move rfl rfl) ?_
                                apply WL.meetAnd 9 139 148 [(0, _), (3, _), (5, _), (6, _), (7, _), (8, _), (9, _), (10, _), (12, _), (13, _), (14, _), (15, _), (16, _), (17, _), (18, _), (19, _), (20, _), (21, _), (22, _), (23, _), (24, _), (25, _), (26, _), (27, _), (45, _), (46, _), (47, _), (48, _), (49, _), (50, _), (51, _), (52, _), (95, _), (96, _), (97, _), (98, _), (99, _), (100, _), (101, _), (102, _), (103, _), (104, _), (105, _), (106, _), (107, _), (108, _), (109, _), (110, _)] rfl hs86
                                · intro g87 J88
                                  have qg87 := g87
                                  try simp only [decide_eq_true_eq, decide_eq_false_iff_not, Bool.not_eq_true', Bool.not_eq_false'] at qg87
                                  refine WL.val (wantT rfl g87) rfl rfl (Run.field Try.runUnderlying40 rfl rfl rfl Try.sizeOf3 rfl) ?_
                                  refine WL.val (wantT rfl g87) rfl rfl (Run.loadL hs86 1 Try.isAgg3 rfl rfl rfl rfl) ?_
                                  refine WL.val (wantT rfl g87) rfl rfl (Run.field Try.runUnderlying40 rfl rfl rfl Try.sizeOf3 rfl) ?_
                                  refine WL.val (wantT rfl g87) rfl rfl (Run.loadL hs86 0 Try.isAgg3 rfl rfl rfl rfl) ?_
                                  refine WL.val (wantT rfl g87) rfl rfl (Run.field Try.runUnderlying40 rfl rfl rfl Try.sizeOf3 rfl) ?_
                                  refine WL.val (wantT rfl g87) rfl rfl (Run.loadL hs86 0 Try.isAgg3 rfl rfl rfl rfl) ?_
                                  refine WL.val (wantT rfl g87) rfl rfl (Run.add rfl rfl rfl ?_) ?_
                                  · constructor <;> omega
                                  refine WL.val (wantT rfl g87) rfl rfl (Run.lss rfl rfl rfl) ?_
                                  refine WL.val rfl rfl rfl (Run.pickT rfl rfl g87 rfl) ?_
                                  exact WL.fin J88 hs86 rfl (andT g87) ⟨rfl, rfl, rfl, rfl, rfl, rfl, rfl, rfl, rfl, rfl, rfl, rfl, rfl, rfl, rfl, rfl, rfl, rfl, rfl, rfl, rfl, rfl, rfl, rfl, rfl, rfl, rfl, rfl, rfl, rfl, rfl, rfl, rfl, rfl, rfl, rfl, rfl, rfl, rfl, rfl, rfl, rfl, rfl, rfl, rfl, rfl, rfl, rfl, trivial⟩
                                · intro g87 J88
                                  refine WL.skip (wantNT rfl g87) rfl rfl ?_
                                  refine WL.skip (wantNT rfl g87) rfl rfl ?_
                                  refine WL.skip (wantNT rfl g87) rfl rfl ?_
                                  refine WL.skip (wantNT rfl g87) rfl rfl ?_
                                  refine WL.skip (wantNT rfl g87) rfl rfl ?_
                                  refine WL.skip (wantNT rfl g87) rfl rfl ?_
                                  refine WL.skip (wantNT rfl g87) rfl rfl ?_
                                  refine WL.skip (wantNT rfl g87) rfl rfl ?_
                                  refine WL.val rfl rfl rfl (Run.pickF rfl rfl g87 rfl) ?_
                                  exact WL.fin J88 hs86 rfl (andF g87) ⟨rfl, rfl, rfl, rfl, rfl, rfl, rfl, rfl, rfl, rfl, rfl, rfl, rfl, rfl, rfl, rfl, rfl, rfl, rfl, rfl, rfl, rfl, rfl, rfl, rfl, rfl, rfl, rfl, rfl, rfl, rfl, rfl, rfl, rfl, rfl, rfl, rfl, rfl, rfl, rfl, rfl, rfl, rfl, rfl, rfl, rfl, rfl, rfl, trivial⟩
                                · intro whs89 hs89
                                  refine WL.nil ?_
                                  refine tkN ?_
                                  refine hK80 _ _ ?_
                                  clear hK80
                                  have hap := hfa.apart j i (by omega) (by omega)
                                  refine WC.condF rfl (by rw [hgj]; simp only [apart] at hap; rw [← Bool.not_eq_true]; simp only [Bool.and_eq_true, decide_eq_true_eq]; omega) ?_
                                  refine WC.skip ?_
                                  refine ibN ?_
                                  refine tkN ?_
                                  refine hK75 _ _ ?_
                                  clear hK75
                                  refine WC.region ?_
                                  refine WL.val rfl rfl rfl (Run.add rfl rfl rfl ?_) ?_
                                  · constructor <;> omega
                                  refine WL.val rfl rfl rfl (Run.move rfl rfl) ?_
                                  refine WL.nil ?_
                                  refine tkN ?_
                                  refine ⟨⟨rfl, rfl, rfl, rfl, rfl, rfl, rfl, rfl, rfl, rfl, rfl, rfl, rfl, rfl, rfl, rfl, rfl, rfl, rfl, rfl, rfl, rfl, rfl, rfl, rfl, rfl, rfl, rfl, rfl, rfl, rfl, rfl, rfl, rfl, rfl, rfl, rfl, rfl, rfl, rfl, rfl, rfl, rfl, trivial⟩, (hs89.drop (by repeat (first | exact List.Sublist.refl _ | exact List.sublist_append_left _ _ | exact List.Sublist.trans (List.sublist_append_left _ _) (List.sublist_append_left _ _) | apply List.Sublist.cons | refine List.Sublist.trans ?_ (List.sublist_append_right _ _)))), _, ?_, j + 1, rfl, ?_, ⟨rfl, trivial⟩⟩
                                  · omega
                                  · omega
                          · have qh74 := h74
                            try simp only [decide_eq_true_eq, decide_eq_false_iff_not, Bool.not_eq_true', Bool.not_eq_false', Bool.and_eq_true, Bool.or_eq_false_iff, within_iff, within_not] at qh74
                            refine WC.exit ?_
                            refine tkE ?_
                            refine tkE ?_
                            refine ibE ?_
                            refine ibN ?_
                            refine tkN ?_
                            refine hK47 _ _ ?_
                            clear hK47
                            refine WC.region ?_
                            refine WL.val rfl rfl rfl (Run.add rfl rfl rfl ?_) ?_
                            · constructor <;> omega
                            refine WL.val rfl rfl rfl (Run.move rfl rfl) ?_
                            refine WL.nil ?_
                            refine tkN ?_
                            refine ⟨⟨rfl, rfl, rfl, rfl, rfl, rfl, rfl, rfl, rfl, rfl, rfl, rfl, rfl, rfl, rfl, rfl, rfl, rfl, rfl, rfl, rfl, rfl, rfl, trivial⟩, (hs71.drop (by repeat (first | exact List.Sublist.refl _ | exact List.sublist_append_left _ _ | exact List.Sublist.trans (List.sublist_append_left _ _) (List.sublist_append_left _ _) | apply List.Sublist.cons | refine List.Sublist.trans ?_ (List.sublist_append_right _ _)))), _, ?_, i + 1, _, rfl, ?_, ?_, ⟨rfl, rfl, trivial⟩⟩
                            · omega
                            · omega
                            · rw [sumA_take (by omega), p1]
          · have qh46 := h46
            try simp only [decide_eq_true_eq, decide_eq_false_iff_not, Bool.not_eq_true', Bool.not_eq_false', Bool.and_eq_true, Bool.or_eq_false_iff, within_iff, within_not] at qh46
            refine WC.exit ?_
            refine tkE ?_
            refine tkE ?_
            refine ibE ?_
            refine tkN ?_
            refine hK41 _ _ ?_
            clear hK41
            refine WC.seq (fun K91 hK91 => ?_)
            refine WC.region ?_
            refine WL.val rfl rfl rfl (Run.move rfl rfl) ?_
            refine WL.val rfl rfl rfl (Run.leq rfl rfl rfl) ?_
            refine WL.val rfl rfl rfl (Run.move rfl rfl) ?_
            apply WL.meetAnd 8 153 161 [(0, _), (3, _), (5, _), (6, _), (7, _), (8, _), (13, _), (14, _), (15, _), (16, _), (17, _), (18, _), (19, _), (20, _), (21, _), (22, _), (23, _), (24, _), (25, _), (26, _), (27, _), (45, _), (46, _), (47, _), (48, _), (49, _)] rfl hs43
            · intro g92 J93
              have qg92 := g92
              try simp only [decide_eq_true_eq, decide_eq_false_iff_not, Bool.not_eq_true', Bool.not_eq_false'] at qg92
              refine WL.val (wantT rfl g92) rfl rfl (Run.move rfl rfl) ?_
              refine WL.val (wantT rfl g92) rfl rfl (Run.lenSl Try.runUnderlying48 rfl rfl) ?_
              refine WL.val (wantT rfl g92) rfl rfl (Run.gtr rfl rfl rfl) ?_
              refine WL.val (wantT rfl g92) rfl rfl (Run.move rfl rfl) ?_
              apply WL.meetOr 3 157 160 [(0, _), (3, _), (5, _), (6, _), (7, _), (8, _), (13, _), (14, _), (15, _), (16, _), (17, _), (18, _), (19, _), (20, _), (21, _), (22, _), (23, _), (24, _), (25, _), (26, _), (27, _), (45, _), (46, _), (47, _), (48, _), (49, _), (153, _)] rfl hs43
              · intro g94 J95
                have qg94 := g94
                try simp only [decide_eq_true_eq, decide_eq_false_iff_not, Bool.not_eq_true', Bool.not_eq_false'] at qg94
                refine WL.val (wantF rfl g94) rfl rfl (Run.move rfl rfl) ?_
                refine WL.val (wantF rfl g94) rfl rfl (Run.eql rfl rfl rfl) ?_
                refine WL.val (wantT rfl g92) rfl rfl (Run.pickF rfl rfl g94 rfl) ?_
                exact WL.fin J95 hs43 rfl (orF g94) ⟨rfl, rfl, rfl, rfl, rfl, rfl, rfl, rfl, rfl, rfl, rfl, rfl, rfl, rfl, rfl, rfl, rfl, rfl, rfl, rfl, rfl, rfl, rfl, rfl, rfl, rfl, rfl, trivial⟩
              · intro g94 J95
                refine WL.skip (wantNF rfl g94) rfl rfl ?_
                refine WL.skip (wantNF rfl g94) rfl rfl ?_
                refine WL.val (wantT rfl g92) rfl rfl (Run.pickT rfl rfl g94 rfl) ?_
                exact WL.fin J95 hs43 rfl (orT g94) ⟨rfl, rfl, rfl, rfl, rfl, rfl, rfl, rfl, rfl, rfl, rfl, rfl, rfl, rfl, rfl, rfl, rfl, rfl, rfl, rfl, rfl, rfl, rfl, rfl, rfl, rfl, rfl, trivial⟩
              · intro whs96 hs96
                refine WL.val rfl rfl rfl (Run.pickT rfl rfl g92 rfl) ?_
                exact WL.fin J93 hs96 rfl (andT g92) ⟨rfl, rfl, rfl, rfl, rfl, rfl, rfl, rfl, rfl, rfl, rfl, rfl, rfl, rfl, rfl, rfl, rfl, rfl, rfl, rfl, rfl, rfl, rfl, rfl, rfl, rfl, trivial⟩
            · intro g92 J93
              refine WL.skip (wantNT rfl g92) rfl rfl ?_
              refine WL.skip (wantNT rfl g92) rfl rfl ?_
              refine WL.skip (wantNT rfl g92) rfl rfl ?_
              refine WL.skip (wantNT rfl g92) rfl rfl ?_
              refine WL.skip rfl rfl rfl ?_
              refine WL.skip rfl rfl rfl ?_
              refine WL.skip (wantNT rfl g92) rfl rfl ?_
              refine WL.val rfl rfl rfl (Run.pickF rfl rfl g92 rfl) ?_
              exact WL.fin J93 hs43 rfl (andF g92) ⟨rfl, rfl, rfl, rfl, rfl, rfl, rfl, rfl, rfl, rfl, rfl, rfl, rfl, rfl, rfl, rfl, rfl, rfl, rfl, rfl, rfl, rfl, rfl, rfl, rfl, rfl, trivial⟩
            · intro whs97 hs97
              refine WL.val rfl rfl rfl (Run.move rfl rfl) ?_
              apply WL.meetAnd 8 162 170 [(0, _), (3, _), (5, _), (6, _), (7, _), (8, _), (13, _), (14, _), (15, _), (16, _), (17, _), (18, _), (19, _), (20, _), (21, _), (22, _), (23, _), (24, _), (25, _), (26, _), (27, _), (45, _), (46, _), (47, _), (48, _), (49, _)] rfl hs97
              · intro g98 J99
                have qg98 := g98
                try simp only [decide_eq_true_eq, decide_eq_false_iff_not, Bool.not_eq_true', Bool.not_eq_false'] at qg98
                refine WL.val (wantT rfl g98) rfl rfl (Run.move rfl rfl) ?_
                refine WL.val (wantT rfl g98) rfl rfl (Run.move rfl rfl) ?_
                refine WL.val (wantT rfl g98) rfl rfl (Run.lenSl Try.runUnderlying48 rfl rfl) ?_
                refine WL.val (wantT rfl g98) rfl rfl (Run.sub rfl rfl rfl ?_) ?_
                · constructor <;> omega
                refine WL.val (wantT rfl g98) rfl rfl (Run.mul rfl rfl rfl ?_) ?_
                · constructor <;> omega
                refine WL.val (wantT rfl g98) rfl rfl (Run.sub rfl rfl rfl ?_) ?_
                · constructor <;> omega
                refine WL.val (wantT rfl g98) rfl rfl (Run.geq rfl rfl rfl) ?_
                refine WL.val rfl rfl rfl (Run.pickT rfl rfl g98 rfl) ?_
                exact WL.fin J99 hs97 rfl (andT g98) ⟨rfl, rfl, rfl, rfl, rfl, rfl, rfl, rfl, rfl, rfl, rfl, rfl, rfl, rfl, rfl, rfl, rfl, rfl, rfl, rfl, rfl, rfl, rfl, rfl, rfl, rfl, trivial⟩
              · intro g98 J99
                refine WL.skip (wantNT rfl g98) rfl rfl ?_
                refine WL.skip (wantNT rfl g98) rfl rfl ?_
                refine WL.skip (wantNT rfl g98) rfl rfl ?_
                refine WL.skip (wantNT rfl g98) rfl rfl ?_
                refine WL.skip (wantNT rfl g98) rfl rfl ?_
                refine WL.skip (wantNT rfl g98) rfl rfl ?_
                refine WL.skip (wantNT rfl g98) rfl rfl ?_
                refine WL.val rfl rfl rfl (Run.pickF rfl rfl g98 rfl) ?_
                exact WL.fin J99 hs97 rfl (andF g98) ⟨rfl, rfl, rfl, rfl, rfl, rfl, rfl, rfl, rfl, rfl, rfl, rfl, rfl, rfl, rfl, rfl, rfl, rfl, rfl, rfl, rfl, rfl, rfl, rfl, rfl, rfl, trivial⟩
              · intro whs100 hs100
                refine WL.val rfl rfl rfl (Run.assign rfl rfl) ?_
                refine WL.nil ?_
                refine tkN ?_
                refine hK91 _ _ ?_
                clear hK91
                refine WC.ret ?_
                refine retV1 rfl (resV.tmp rfl) ?_
                refine ⟨congrArg Ending.returned (congrArg Value.bool ?_), hs100.nil⟩
                have hs1 := hfa.sum (panesL t9).length (by omega)
                rw [List.take_of_length_le (by omega)] at hs1
                have hs2 := hfa.least
                have hs3 := hfa.one
                rw [List.take_of_length_le (by omega)] at p1
                simp only [Bool.and_eq_true, Bool.or_eq_true, decide_eq_true_eq]
                by_cases h1_ : (panesL t9).length = 1
                · have := hs3 h1_
                  omega
                · omega
end Go.Proofs.Ytghcicggamkjgaa
