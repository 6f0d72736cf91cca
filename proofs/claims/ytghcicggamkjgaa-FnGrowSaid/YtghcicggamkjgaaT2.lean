/- Walks of Go functions, printed by a program (wip/gen). -/
import Derived.Test.YtghcicggamkjgaaT1
namespace Go.Proofs.Ytghcicggamkjgaa
open Go Go.RowKit
set_option linter.unusedVariables false
set_option linter.unusedSimpArgs false
theorem c_spec_TreeOk (A_t : Option Addr) (n_t c_t : Nat) (t : List NodeD) (w : World) (f_t : SlF encNode w A_t n_t t) (hn : n_t ≤ 268435456) :
    Calls Try.prog 18 #[.slice A_t n_t c_t] w fun e w' => e = .returned (.bool (treeOk t)) ∧ St w [] [] w' := by
  have hl := f_t.len
  refine enter (vs := [.slice A_t n_t c_t]) 78 Try.func18 rfl Try.ntmps18 rfl rfl ?_
  have hs1 := St.init w
  refine WC.seq (fun K2 hK2 => ?_)
  refine WC.region ?_
  refine WL.val rfl rfl rfl (Run.assign rfl rfl) ?_
  refine WL.nil ?_
  refine tkN ?_
  refine hK2 _ _ ?_
  clear hK2
  refine WC.seq (fun K3 hK3 => ?_)
  refine WC.seq (fun K4 hK4 => ?_)
  refine WC.region ?_
  refine WL.val rfl rfl rfl (Run.move rfl rfl) ?_
  refine WL.val rfl rfl rfl (Run.lenSl Try.runUnderlying25 rfl rfl) ?_
  refine WL.val rfl rfl rfl (Run.gtr rfl rfl rfl) ?_
  refine WL.val rfl rfl rfl (Run.move rfl rfl) ?_
  apply WL.meetOr 6 11 17 [(0, _), (2, _)] rfl hs1
  · intro g5 J6
    have qg5 := g5
    try simp only [decide_eq_true_eq, decide_eq_false_iff_not, Bool.not_eq_true', Bool.not_eq_false'] at qg5
    refine WL.val (wantF rfl g5) rfl rfl (Run.move rfl rfl) ?_
    refine WL.call (wantF rfl g5) rfl rfl (Run.call Try.call53 rfl rfl rfl) (c_spec_l13End _ _ _ _ 0 _ (SlF.st0 f_t hs1) ?_ ?_) ?_
    · omega
    · omega
    rintro _ whs7 ⟨rfl, hs7⟩
    replace hs7 := hs1.call0 hs7
    refine ⟨_, rfl, ?_⟩
    refine WL.val (wantF rfl g5) rfl rfl (Run.move rfl rfl) ?_
    refine WL.val (wantF rfl g5) rfl rfl (Run.lenSl Try.runUnderlying25 rfl rfl) ?_
    refine WL.val (wantF rfl g5) rfl rfl (Run.neq rfl rfl rfl) ?_
    refine WL.val rfl rfl rfl (Run.pickF rfl rfl g5 rfl) ?_
    exact WL.fin J6 hs7 rfl (orF g5) ⟨rfl, rfl, trivial⟩
  · intro g5 J6
    refine WL.skip (wantNF rfl g5) rfl rfl ?_
    refine WL.skip (wantNF rfl g5) rfl rfl ?_
    refine WL.skip (wantNF rfl g5) rfl rfl ?_
    refine WL.skip (wantNF rfl g5) rfl rfl ?_
    refine WL.skip (wantNF rfl g5) rfl rfl ?_
    refine WL.val rfl rfl rfl (Run.pickT rfl rfl g5 rfl) ?_
    exact WL.fin J6 hs1 rfl (orT g5) ⟨rfl, rfl, trivial⟩
  · intro whs8 hs8
    refine WL.nil ?_
    refine tkN ?_
    refine hK4 _ _ ?_
    clear hK4
    refine WC.cond rfl (fun h9 => ?_) (fun h9 => ?_)
    · have qh9 := h9
      try simp only [decide_eq_true_eq, decide_eq_false_iff_not, Bool.not_eq_true', Bool.not_eq_false', Bool.and_eq_true, Bool.or_eq_false_iff, within_iff, within_not] at qh9
      have hbad : treeOk t = false := by cases ht : treeOk t with | false => rfl | true => have h1_ := treeOk_len ht; have h2_ := treeOk_sEnd ht; simp at qh9; omega
      refine WC.seq (fun K10 hK10 => ?_)
      refine WC.region ?_
      refine WL.val rfl rfl rfl (Run.assign rfl rfl) ?_
      refine WL.nil ?_
      refine tkN ?_
      refine hK10 _ _ ?_
      clear hK10
      refine WC.ret ?_
      refine tkR ?_
      clear hK3
      refine retV1 rfl (resV.tmp rfl) ?_
      refine ⟨congrArg Ending.returned ?_, hs8.nil⟩
      rw [hbad]
    · have qh9 := h9
      try simp only [decide_eq_true_eq, decide_eq_false_iff_not, Bool.not_eq_true', Bool.not_eq_false', Bool.and_eq_true, Bool.or_eq_false_iff, within_iff, within_not] at qh9
      refine WC.skip ?_
      refine tkN ?_
      refine hK3 _ _ ?_
      clear hK3
      refine WC.seq (fun K11 hK11 => ?_)
      refine WC.region ?_
      refine WL.buildF (F := encI) hs8 ([]) Try.runUnderlying31 Try.sizeOf3 Try.zeroValue3 rfl rfl rfl rfl rfl rfl rfl rfl rfl rfl rfl rfl (fun A15 c16 L12 whs13 hs13 ho14 => ?_)
      refine WL.val rfl rfl rfl (Run.assign rfl rfl) ?_
      refine WL.nil ?_
      refine tkN ?_
      refine hK11 _ _ ?_
      clear hK11
      refine WC.seq (fun K17 hK17 => ?_)
      refine WC.seq (fun K18 hK18 => ?_)
      refine WC.region ?_
      refine WL.val rfl rfl rfl (Run.move rfl rfl) ?_
      refine WL.val rfl rfl rfl (Run.lenSl Try.runUnderlying25 rfl rfl) ?_
      refine WL.val rfl rfl rfl (Run.move rfl rfl) ?_
      refine WL.nil ?_
      refine tkN ?_
      refine hK18 _ _ ?_
      clear hK18
      refine WC.block ?_
      refine WC.loopO [(0, _), (17, _), (18, _), (19, _), (20, _)] ⟨rfl, rfl, rfl, rfl, rfl, trivial⟩ hs13 (fun k_ f L_ => ∃ (zs : List Int) (i : Nat) (A19 : Option Addr) (c20 : Nat), k_ = n_t - i ∧ (i ≤ n_t) ∧ (zs = panesL (t.take i)) ∧ ((panesL (t.take i)).Nodup) ∧ (∀ j, j < i → nodeOk (gat encNode t j) = true) ∧ OwnF encI 3 (.slice A19 (zs.length) c20) (zs) L_ ∧ Sub [(3, .slice A19 (zs.length) c20), (21, .int .i64 i)] f) (((fun (zs : List Int) (i : Nat) => n_t - i) ([]) (0))) ?_ ?_
      · refine ⟨[], 0, _, _, rfl, ?_, ?_, ?_, ?_, ho14, ⟨rfl, rfl, trivial⟩⟩
        · exact Nat.zero_le _
        · simp [panesL]
        · simp [panesL]
        · exact fun j hj => absurd hj (by omega)
      · clear hs13
        rintro _ f w L21 ⟨zs, i, A19, c20, rfl, p0, p1, p2, p3, ho22, hG⟩ hF hs23
        refine WC.sub _ (hG.app hF) ?_
        clear hG hF
        have hzl : zs.length ≤ n_t := by rw [p1]; have := panesL_len (t.take i); rw [List.length_take] at this; omega
        refine WC.seq (fun K24 hK24 => ?_)
        refine WC.region ?_
        refine WL.val rfl rfl rfl (Run.lss rfl rfl rfl) ?_
        refine WL.nil ?_
        refine tkN ?_
        refine hK24 _ _ ?_
        clear hK24
        refine WC.seq (fun K25 hK25 => ?_)
        refine WC.cond rfl (fun h26 => ?_) (fun h26 => ?_)
        · have qh26 := h26
          try simp only [decide_eq_true_eq, decide_eq_false_iff_not, Bool.not_eq_true', Bool.not_eq_false', Bool.and_eq_true, Bool.or_eq_false_iff, within_iff, within_not] at qh26
          refine WC.skip ?_
          refine tkN ?_
          refine hK25 _ _ ?_
          clear hK25
          refine WC.seq (fun K27 hK27 => ?_)
          refine WC.block ?_
          refine WC.seq (fun K28 hK28 => ?_)
          refine WC.region ?_
          refine WL.val rfl rfl rfl (Run.idxN Try.runUnderlying25 Try.sizeOf62 rfl rfl rfl ?_ ?_ ?_) ?_
          · exact SlF.some_ (SlF.st0 f_t hs23)
          · omega
          · omega
          refine WL.val rfl rfl rfl (Run.loadA Try.isAgg62 Try.sizeOf62 rfl rfl (SlF.whole (SlF.st0 f_t hs23) ?_)) ?_
          · omega
          refine WL.alloc hs23 Try.zeroValue62 rfl rfl rfl rfl rfl (fun b29 whs30 hs30 => ?_)
          refine WL.storeA hs30 0 Try.sizeOf62 rfl rfl rfl rfl rfl rfl rfl rfl rfl (Nat.le_of_ble_eq_true rfl) (.inl (Nat.le_of_ble_eq_true rfl)) (fun whs31 hs31 => ?_)
          refine WL.nil ?_
          refine tkN ?_
          refine hK28 _ _ ?_
          clear hK28
          refine WC.seq (fun K32 hK32 => ?_)
          refine WC.region ?_
          refine WL.val rfl rfl rfl (Run.field Try.runUnderlying62 rfl rfl rfl Try.sizeOf3 rfl) ?_
          refine WL.val rfl rfl rfl (Run.loadL hs31 0 Try.isAgg3 rfl rfl rfl rfl) ?_
          refine WL.val rfl rfl rfl (Run.geq rfl rfl rfl) ?_
          refine WL.val rfl rfl rfl (Run.move rfl rfl) ?_
          apply WL.meetAnd 4 28 32 [(0, _), (3, _), (5, _), (17, _), (18, _), (19, _), (20, _), (21, _), (22, _), (23, _), (24, _)] rfl hs31
          · intro g33 J34
            have qg33 := g33
            try simp only [decide_eq_true_eq, decide_eq_false_iff_not, Bool.not_eq_true', Bool.not_eq_false'] at qg33
            refine WL.val (wantT rfl g33) rfl rfl (Run.field Try.runUnderlying62 rfl rfl rfl Try.sizeOf3 rfl) ?_
            refine WL.val (wantT rfl g33) rfl rfl (Run.loadL hs31 0 Try.isAgg3 rfl rfl rfl rfl) ?_
            refine WL.val (wantT rfl g33) rfl rfl (Run.leq rfl rfl rfl) ?_
            refine WL.val rfl rfl rfl (Run.pickT rfl rfl g33 rfl) ?_
            exact WL.fin J34 hs31 rfl (andT g33) ⟨rfl, rfl, rfl, rfl, rfl, rfl, rfl, rfl, rfl, rfl, rfl, trivial⟩
          · intro g33 J34
            refine WL.skip (wantNT rfl g33) rfl rfl ?_
            refine WL.skip (wantNT rfl g33) rfl rfl ?_
            refine WL.skip (wantNT rfl g33) rfl rfl ?_
            refine WL.val rfl rfl rfl (Run.pickF rfl rfl g33 rfl) ?_
            exact WL.fin J34 hs31 rfl (andF g33) ⟨rfl, rfl, rfl, rfl, rfl, rfl, rfl, rfl, rfl, rfl, rfl, trivial⟩
          · intro whs35 hs35
            refine WL.val rfl rfl rfl (Run.move rfl rfl) ?_
            apply WL.meetAnd 4 33 37 [(0, _), (3, _), (5, _), (17, _), (18, _), (19, _), (20, _), (21, _), (22, _), (23, _), (24, _)] rfl hs35
            · intro g36 J37
              have qg36 := g36
              try simp only [decide_eq_true_eq, decide_eq_false_iff_not, Bool.not_eq_true', Bool.not_eq_false'] at qg36
              refine WL.val (wantT rfl g36) rfl rfl (Run.field Try.runUnderlying62 rfl rfl rfl Try.sizeOf4 rfl) ?_
              refine WL.val (wantT rfl g36) rfl rfl (Run.loadL hs35 0 Try.isAgg4 rfl rfl rfl rfl) ?_
              refine WL.val (wantT rfl g36) rfl rfl (Run.not rfl rfl) ?_
              refine WL.val rfl rfl rfl (Run.pickT rfl rfl g36 rfl) ?_
              exact WL.fin J37 hs35 rfl (andT g36) ⟨rfl, rfl, rfl, rfl, rfl, rfl, rfl, rfl, rfl, rfl, rfl, trivial⟩
            · intro g36 J37
              refine WL.skip (wantNT rfl g36) rfl rfl ?_
              refine WL.skip (wantNT rfl g36) rfl rfl ?_
              refine WL.skip (wantNT rfl g36) rfl rfl ?_
              refine WL.val rfl rfl rfl (Run.pickF rfl rfl g36 rfl) ?_
              exact WL.fin J37 hs35 rfl (andF g36) ⟨rfl, rfl, rfl, rfl, rfl, rfl, rfl, rfl, rfl, rfl, rfl, trivial⟩
            · intro whs38 hs38
              refine WL.val rfl rfl rfl (Run.move rfl rfl) ?_
              apply WL.meetAnd 4 38 42 [(0, _), (3, _), (5, _), (17, _), (18, _), (19, _), (20, _), (21, _), (22, _), (23, _), (24, _)] rfl hs38
              · intro g39 J40
                have qg39 := g39
                try simp only [decide_eq_true_eq, decide_eq_false_iff_not, Bool.not_eq_true', Bool.not_eq_false'] at qg39
                refine WL.val (wantT rfl g39) rfl rfl (Run.field Try.runUnderlying62 rfl rfl rfl Try.sizeOf3 rfl) ?_
                refine WL.val (wantT rfl g39) rfl rfl (Run.loadL hs38 0 Try.isAgg3 rfl rfl rfl rfl) ?_
                refine WL.val (wantT rfl g39) rfl rfl (Run.eql rfl rfl rfl) ?_
                refine WL.val rfl rfl rfl (Run.pickT rfl rfl g39 rfl) ?_
                exact WL.fin J40 hs38 rfl (andT g39) ⟨rfl, rfl, rfl, rfl, rfl, rfl, rfl, rfl, rfl, rfl, rfl, trivial⟩
              · intro g39 J40
                refine WL.skip (wantNT rfl g39) rfl rfl ?_
                refine WL.skip (wantNT rfl g39) rfl rfl ?_
                refine WL.skip (wantNT rfl g39) rfl rfl ?_
                refine WL.val rfl rfl rfl (Run.pickF rfl rfl g39 rfl) ?_
                exact WL.fin J40 hs38 rfl (andF g39) ⟨rfl, rfl, rfl, rfl, rfl, rfl, rfl, rfl, rfl, rfl, rfl, trivial⟩
              · intro whs41 hs41
                refine WL.val rfl rfl rfl (Run.assign rfl rfl) ?_
                refine WL.nil ?_
                refine tkN ?_
                refine hK32 _ _ ?_
                clear hK32
                refine WC.seq (fun K42 hK42 => ?_)
                refine WC.region ?_
                refine WL.val rfl rfl rfl (Run.field Try.runUnderlying62 rfl rfl rfl Try.sizeOf3 rfl) ?_
                refine WL.val rfl rfl rfl (Run.loadL hs41 0 Try.isAgg3 rfl rfl rfl rfl) ?_
                refine WL.val rfl rfl rfl (Run.eql rfl rfl rfl) ?_
                refine WL.val rfl rfl rfl (Run.move rfl rfl) ?_
                apply WL.meetAnd 4 46 50 [(0, _), (3, _), (5, _), (6, _), (17, _), (18, _), (19, _), (20, _), (21, _), (22, _), (23, _), (24, _), (42, _)] rfl hs41
                · intro g43 J44
                  have qg43 := g43
                  try simp only [decide_eq_true_eq, decide_eq_false_iff_not, Bool.not_eq_true', Bool.not_eq_false'] at qg43
                  refine WL.val (wantT rfl g43) rfl rfl (Run.field Try.runUnderlying62 rfl rfl rfl Try.sizeOf3 rfl) ?_
                  refine WL.val (wantT rfl g43) rfl rfl (Run.loadL hs41 0 Try.isAgg3 rfl rfl rfl rfl) ?_
                  refine WL.val (wantT rfl g43) rfl rfl (Run.geq rfl rfl rfl) ?_
                  refine WL.val rfl rfl rfl (Run.pickT rfl rfl g43 rfl) ?_
                  exact WL.fin J44 hs41 rfl (andT g43) ⟨rfl, rfl, rfl, rfl, rfl, rfl, rfl, rfl, rfl, rfl, rfl, rfl, rfl, trivial⟩
                · intro g43 J44
                  refine WL.skip (wantNT rfl g43) rfl rfl ?_
                  refine WL.skip (wantNT rfl g43) rfl rfl ?_
                  refine WL.skip (wantNT rfl g43) rfl rfl ?_
                  refine WL.val rfl rfl rfl (Run.pickF rfl rfl g43 rfl) ?_
                  exact WL.fin J44 hs41 rfl (andF g43) ⟨rfl, rfl, rfl, rfl, rfl, rfl, rfl, rfl, rfl, rfl, rfl, rfl, rfl, trivial⟩
                · intro whs45 hs45
                  refine WL.val rfl rfl rfl (Run.move rfl rfl) ?_
                  apply WL.meetAnd 4 51 55 [(0, _), (3, _), (5, _), (6, _), (17, _), (18, _), (19, _), (20, _), (21, _), (22, _), (23, _), (24, _), (42, _)] rfl hs45
                  · intro g46 J47
                    have qg46 := g46
                    try simp only [decide_eq_true_eq, decide_eq_false_iff_not, Bool.not_eq_true', Bool.not_eq_false'] at qg46
                    refine WL.val (wantT rfl g46) rfl rfl (Run.field Try.runUnderlying62 rfl rfl rfl Try.sizeOf3 rfl) ?_
                    refine WL.val (wantT rfl g46) rfl rfl (Run.loadL hs45 0 Try.isAgg3 rfl rfl rfl rfl) ?_
                    refine WL.val (wantT rfl g46) rfl rfl (Run.leq rfl rfl rfl) ?_
                    refine WL.val rfl rfl rfl (Run.pickT rfl rfl g46 rfl) ?_
                    exact WL.fin J47 hs45 rfl (andT g46) ⟨rfl, rfl, rfl, rfl, rfl, rfl, rfl, rfl, rfl, rfl, rfl, rfl, rfl, trivial⟩
                  · intro g46 J47
                    refine WL.skip (wantNT rfl g46) rfl rfl ?_
                    refine WL.skip (wantNT rfl g46) rfl rfl ?_
                    refine WL.skip (wantNT rfl g46) rfl rfl ?_
                    refine WL.val rfl rfl rfl (Run.pickF rfl rfl g46 rfl) ?_
                    exact WL.fin J47 hs45 rfl (andF g46) ⟨rfl, rfl, rfl, rfl, rfl, rfl, rfl, rfl, rfl, rfl, rfl, rfl, rfl, trivial⟩
                  · intro whs48 hs48
                    refine WL.val rfl rfl rfl (Run.assign rfl rfl) ?_
                    refine WL.nil ?_
                    refine tkN ?_
                    refine hK42 _ _ ?_
                    clear hK42
                    refine WC.seq (fun K49 hK49 => ?_)
                    refine WC.seq (fun K50 hK50 => ?_)
                    refine WC.region ?_
                    refine WL.val rfl rfl rfl (Run.move rfl rfl) ?_
                    refine WL.val rfl rfl rfl (Run.not rfl rfl) ?_
                    refine WL.val rfl rfl rfl (Run.move rfl rfl) ?_
                    apply WL.meetAnd 3 58 61 [(0, _), (3, _), (5, _), (6, _), (7, _), (17, _), (18, _), (19, _), (20, _), (21, _), (22, _), (23, _), (24, _), (42, _), (55, _)] rfl hs48
                    · intro g51 J52
                      have qg51 := g51
                      try simp only [decide_eq_true_eq, decide_eq_false_iff_not, Bool.not_eq_true', Bool.not_eq_false'] at qg51
                      refine WL.val (wantT rfl g51) rfl rfl (Run.move rfl rfl) ?_
                      refine WL.val (wantT rfl g51) rfl rfl (Run.not rfl rfl) ?_
                      refine WL.val rfl rfl rfl (Run.pickT rfl rfl g51 rfl) ?_
                      exact WL.fin J52 hs48 rfl (andT g51) ⟨rfl, rfl, rfl, rfl, rfl, rfl, rfl, rfl, rfl, rfl, rfl, rfl, rfl, rfl, rfl, trivial⟩
                    · intro g51 J52
                      refine WL.skip (wantNT rfl g51) rfl rfl ?_
                      refine WL.skip (wantNT rfl g51) rfl rfl ?_
                      refine WL.val rfl rfl rfl (Run.pickF rfl rfl g51 rfl) ?_
                      exact WL.fin J52 hs48 rfl (andF g51) ⟨rfl, rfl, rfl, rfl, rfl, rfl, rfl, rfl, rfl, rfl, rfl, rfl, rfl, rfl, rfl, trivial⟩
                    · intro whs53 hs53
                      refine WL.val rfl rfl rfl (Run.move rfl rfl) ?_
                      apply WL.meetOr 8 62 70 [(0, _), (3, _), (5, _), (6, _), (7, _), (17, _), (18, _), (19, _), (20, _), (21, _), (22, _), (23, _), (24, _), (42, _), (55, _)] rfl hs53
                      · intro g54 J55
                        have qg54 := g54
                        try simp only [decide_eq_true_eq, decide_eq_false_iff_not, Bool.not_eq_true', Bool.not_eq_false'] at qg54
                        refine WL.val (wantF rfl g54) rfl rfl (Run.move rfl rfl) ?_
                        refine WL.val (wantF rfl g54) rfl rfl (Run.move rfl rfl) ?_
                        apply WL.meetAnd 5 64 69 [(0, _), (3, _), (5, _), (6, _), (7, _), (17, _), (18, _), (19, _), (20, _), (21, _), (22, _), (23, _), (24, _), (42, _), (55, _), (62, _)] rfl hs53
                        · intro g56 J57
                          have qg56 := g56
                          try simp only [decide_eq_true_eq, decide_eq_false_iff_not, Bool.not_eq_true', Bool.not_eq_false'] at qg56
                          refine WL.val (wantT rfl g56) rfl rfl (Run.move rfl rfl) ?_
                          refine WL.val (wantT rfl g56) rfl rfl (Run.field Try.runUnderlying62 rfl rfl rfl Try.sizeOf3 rfl) ?_
                          refine WL.val (wantT rfl g56) rfl rfl (Run.loadL hs53 0 Try.isAgg3 rfl rfl rfl rfl) ?_
                          refine WL.call (wantT rfl g56) rfl rfl (Run.call Try.call54 rfl rfl rfl) (c_spec_l02HasInt _ _ _ _ _ _ (SlF.ofOwn ho22 (fun p_ hp_ => (hs53.own p_ (List.mem_append_right [_] (List.mem_append_left _ hp_))).1)) ?_) ?_
                          · first | assumption | rfl | omega
                          rintro _ whs58 ⟨rfl, hs58⟩
                          replace hs58 := hs53.call0 hs58
                          refine ⟨_, rfl, ?_⟩
                          refine WL.val (wantF rfl g54) rfl rfl (Run.pickT rfl rfl g56 rfl) ?_
                          exact WL.fin J57 hs58 rfl (andT g56) ⟨rfl, rfl, rfl, rfl, rfl, rfl, rfl, rfl, rfl, rfl, rfl, rfl, rfl, rfl, rfl, rfl, trivial⟩
                        · intro g56 J57
                          refine WL.skip (wantNT rfl g56) rfl rfl ?_
                          refine WL.skip (wantNT rfl g56) rfl rfl ?_
                          refine WL.skip (wantNT rfl g56) rfl rfl ?_
                          refine WL.skip (wantNT rfl g56) rfl rfl ?_
                          refine WL.val (wantF rfl g54) rfl rfl (Run.pickF rfl rfl g56 rfl) ?_
                          exact WL.fin J57 hs53 rfl (andF g56) ⟨rfl, rfl, rfl, rfl, rfl, rfl, rfl, rfl, rfl, rfl, rfl, rfl, rfl, rfl, rfl, rfl, trivial⟩
                        · intro whs59 hs59
                          refine WL.val rfl rfl rfl (Run.pickF rfl rfl g54 rfl) ?_
                          exact WL.fin J55 hs59 rfl (orF g54) ⟨rfl, rfl, rfl, rfl, rfl, rfl, rfl, rfl, rfl, rfl, rfl, rfl, rfl, rfl, rfl, trivial⟩
                      · intro g54 J55
                        refine WL.skip (wantNF rfl g54) rfl rfl ?_
                        refine WL.skip (wantNF rfl g54) rfl rfl ?_
                        refine WL.skip rfl rfl rfl ?_
                        refine WL.skip rfl rfl rfl ?_
                        refine WL.skip rfl rfl rfl ?_
                        refine WL.skip rfl rfl rfl ?_
                        refine WL.skip (wantNF rfl g54) rfl rfl ?_
                        refine WL.val rfl rfl rfl (Run.pickT rfl rfl g54 rfl) ?_
                        exact WL.fin J55 hs53 rfl (orT g54) ⟨rfl, rfl, rfl, rfl, rfl, rfl, rfl, rfl, rfl, rfl, rfl, rfl, rfl, rfl, rfl, trivial⟩
                      · intro whs60 hs60
                        refine WL.nil ?_
                        refine tkN ?_
                        refine hK50 _ _ ?_
                        clear hK50
                        refine WC.cond rfl (fun h61 => ?_) (fun h61 => ?_)
                        · have qh61 := h61
                          try simp only [decide_eq_true_eq, decide_eq_false_iff_not, Bool.not_eq_true', Bool.not_eq_false', Bool.and_eq_true, Bool.or_eq_false_iff, within_iff, within_not] at qh61
                          have hbad : treeOk t = false := node_bad (i := i) (by omega) (by rw [← p1]; exact h61)
                          refine WC.seq (fun K62 hK62 => ?_)
                          refine WC.region ?_
                          refine WL.val rfl rfl rfl (Run.assign rfl rfl) ?_
                          refine WL.nil ?_
                          refine tkN ?_
                          refine hK62 _ _ ?_
                          clear hK62
                          refine WC.ret ?_
                          refine tkR ?_
                          refine ibR ?_
                          refine tkR ?_
                          refine tkR ?_
                          refine ibR ?_
                          refine tkR ?_
                          clear hK49 hK27 hK17
                          refine retV1 rfl (resV.tmp rfl) ?_
                          refine ⟨congrArg Ending.returned ?_, hs60.nil⟩
                          rw [hbad]
                        · have qh61 := h61
                          try simp only [decide_eq_true_eq, decide_eq_false_iff_not, Bool.not_eq_true', Bool.not_eq_false', Bool.and_eq_true, Bool.or_eq_false_iff, within_iff, within_not] at qh61
                          obtain ⟨hnode, hnew⟩ := node_step h61
                          refine WC.skip ?_
                          refine tkN ?_
                          refine hK49 _ _ ?_
                          clear hK49
                          refine WC.seq (fun K63 hK63 => ?_)
                          refine WC.region ?_
                          refine WL.val rfl rfl rfl (Run.move rfl rfl) ?_
                          refine WL.nil ?_
                          refine tkN ?_
                          refine hK63 _ _ ?_
                          clear hK63
                          refine WC.cond rfl (fun h64 => ?_) (fun h64 => ?_)
                          · have qh64 := h64
                            try simp only [decide_eq_true_eq, decide_eq_false_iff_not, Bool.not_eq_true', Bool.not_eq_false', Bool.and_eq_true, Bool.or_eq_false_iff, within_iff, within_not] at qh64
                            have hp := leafB_ne (n := gat encNode t i) h64
                            have hnin := hnew h64
                            refine WC.region ?_
                            refine WL.val rfl rfl rfl (Run.move rfl rfl) ?_
                            refine WL.val rfl rfl rfl (Run.field Try.runUnderlying62 rfl rfl rfl Try.sizeOf3 rfl) ?_
                            refine WL.val rfl rfl rfl (Run.loadL hs60 0 Try.isAgg3 rfl rfl rfl rfl) ?_
                            refine WL.buildSlice hs60 Try.runUnderlying31 Try.sizeOf3 Try.zeroValue3 rfl rfl rfl rfl rfl rfl rfl rfl rfl rfl (fun b65 whs66 hs66 => ?_)
                            refine WL.appendG (St.perm hs66 (L' := L21 ++ _) (perm_front (A := [_, _]) (List.Perm.refl _))) ho22 (srcI1 Try.underlying31 (hs66.own _ (nthL_mem (i := 0) rfl)).1) Try.underlying31 info_3 rfl rfl rfl rfl rfl rfl rfl rfl rfl rfl ?_ (fun A70 c71 L67 whs68 hs68 ho69 => ?_)
                            · simp; omega
                            replace hs68 := St.back [_, _] hs68
                            refine WL.val rfl rfl rfl (Run.assign rfl rfl) ?_
                            refine WL.nil ?_
                            refine ibN ?_
                            refine tkN ?_
                            refine hK27 _ _ ?_
                            clear hK27
                            refine WC.region ?_
                            refine WL.val rfl rfl rfl (Run.add rfl rfl rfl ?_) ?_
                            · constructor <;> omega
                            refine WL.val rfl rfl rfl (Run.move rfl rfl) ?_
                            refine WL.nil ?_
                            refine tkN ?_
                            replace hs68 := St.drop hs68 (List.sublist_append_right [_, _] _)
                            refine ⟨⟨rfl, rfl, rfl, rfl, rfl, trivial⟩, _, hs68, _, ?_, _, i + 1, _, _, rfl, ?_, ?_, ?_, ?_, ho69, ⟨rfl, rfl, trivial⟩⟩
                            · omega
                            · omega
                            · rw [panesL_take (by omega), p1]; first | (rw [if_pos hp]) | (rw [if_neg (by simpa using hp), List.append_nil])
                            · rw [panesL_take (by omega)]; first | (rw [if_pos hp]; exact nodup_snoc p2 (by rw [← p1]; exact hnin)) | (rw [if_neg (by simpa using hp), List.append_nil]; exact p2)
                            · intro j hj; rcases Nat.lt_or_ge j i with h_ | h_
                              · exact p3 j h_
                              · obtain rfl : j = i := by omega
                                exact hnode
                          · have qh64 := h64
                            try simp only [decide_eq_true_eq, decide_eq_false_iff_not, Bool.not_eq_true', Bool.not_eq_false', Bool.and_eq_true, Bool.or_eq_false_iff, within_iff, within_not] at qh64
                            have hp := leafB_not (n := gat encNode t i) h64 hnode
                            refine WC.skip ?_
                            refine ibN ?_
                            refine tkN ?_
                            refine hK27 _ _ ?_
                            clear hK27
                            refine WC.region ?_
                            refine WL.val rfl rfl rfl (Run.add rfl rfl rfl ?_) ?_
                            · constructor <;> omega
                            refine WL.val rfl rfl rfl (Run.move rfl rfl) ?_
                            refine WL.nil ?_
                            refine tkN ?_
                            replace hs60 := St.drop hs60 (List.sublist_append_right [_] _)
                            refine ⟨⟨rfl, rfl, rfl, rfl, rfl, trivial⟩, _, hs60, _, ?_, _, i + 1, _, _, rfl, ?_, ?_, ?_, ?_, ho22, ⟨rfl, rfl, trivial⟩⟩
                            · omega
                            · omega
                            · rw [panesL_take (by omega), p1]; first | (rw [if_pos hp]) | (rw [if_neg (by simpa using hp), List.append_nil])
                            · rw [panesL_take (by omega)]; first | (rw [if_pos hp]; exact nodup_snoc p2 (by rw [← p1]; exact hnin)) | (rw [if_neg (by simpa using hp), List.append_nil]; exact p2)
                            · intro j hj; rcases Nat.lt_or_ge j i with h_ | h_
                              · exact p3 j h_
                              · obtain rfl : j = i := by omega
                                exact hnode
        · have qh26 := h26
          try simp only [decide_eq_true_eq, decide_eq_false_iff_not, Bool.not_eq_true', Bool.not_eq_false', Bool.and_eq_true, Bool.or_eq_false_iff, within_iff, within_not] at qh26
          refine WC.exit ?_
          refine tkE ?_
          refine tkE ?_
          refine ibE ?_
          refine tkN ?_
          refine hK17 _ _ ?_
          clear hK17
          refine WC.seq (fun K72 hK72 => ?_)
          refine WC.region ?_
          refine WL.val rfl rfl rfl (Run.assign rfl rfl) ?_
          refine WL.nil ?_
          refine tkN ?_
          refine hK72 _ _ ?_
          clear hK72
          refine WC.ret ?_
          refine retV1 rfl (resV.tmp rfl) ?_
          refine ⟨congrArg Ending.returned ?_, hs23.nil⟩
          rw [treeOk_mk (by omega) (by omega) (fun j hj => p3 j (by omega)) (by rwa [List.take_of_length_le (by omega)] at p2)]
end Go.Proofs.Ytghcicggamkjgaa
