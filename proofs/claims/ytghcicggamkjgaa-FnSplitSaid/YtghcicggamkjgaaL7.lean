/- Walks of Go functions, printed by a program (wip/gen). -/
import Derived.Test.YtghcicggamkjgaaU3
namespace Go.Proofs.Ytghcicggamkjgaa
open Go Go.RowKit
set_option linter.unusedVariables false
set_option linter.unusedSimpArgs false
set_option maxHeartbeats 4000000 in
theorem c_laws_FnSplit (A_code : Option Addr) (n_code c_code : Nat) (code : List UInt8) (w : World) (f_code : SlF encB w A_code n_code code) (h1 : n_code ≤ 9223372036854775807) :
    Calls Try.prog 15 #[.slice A_code n_code c_code] w fun e w' => e = .returned (.bool true) ∧ St w [] [] w' := by
  have hl := f_code.len
  refine enter (vs := [.slice A_code n_code c_code]) 102 Try.func15 rfl Try.ntmps15 rfl rfl ?_
  have hs1 := St.init w
  refine WC.seq (fun K2 hK2 => ?_)
  refine WC.region ?_
  refine WL.val rfl rfl rfl (Run.assign rfl rfl) ?_
  refine WL.nil ?_
  refine tkN ?_
  refine hK2 _ _ ?_
  clear hK2
  refine WC.seq (fun K3 hK3 => ?_)
  refine WC.seq (fun K4 hK4 => ?_)
  refine WC.region ?_
  refine WL.val rfl rfl rfl (Run.move rfl rfl) ?_
  refine WL.val rfl rfl rfl (Run.lenSl Try.runUnderlying45 rfl rfl) ?_
  refine WL.val rfl rfl rfl (Run.gtr rfl rfl rfl) ?_
  refine WL.nil ?_
  refine tkN ?_
  refine hK4 _ _ ?_
  clear hK4
  refine WC.cond rfl (fun h5 => ?_) (fun h5 => ?_)
  · have qh5 := h5
    try simp only [decide_eq_true_eq, decide_eq_false_iff_not, Bool.not_eq_true', Bool.not_eq_false', Bool.and_eq_true, Bool.or_eq_false_iff, within_iff, within_not] at qh5
    refine WC.seq (fun K6 hK6 => ?_)
    refine WC.region ?_
    refine WL.val rfl rfl rfl (Run.assign rfl rfl) ?_
    refine WL.nil ?_
    refine tkN ?_
    refine hK6 _ _ ?_
    clear hK6
    refine WC.ret ?_
    refine tkR ?_
    clear hK3
    refine retV1 rfl (resV.tmp rfl) ?_
    refine ⟨congrArg Ending.returned (congrArg Value.bool ?_), hs1.nil⟩
    rfl
  · have qh5 := h5
    try simp only [decide_eq_true_eq, decide_eq_false_iff_not, Bool.not_eq_true', Bool.not_eq_false', Bool.and_eq_true, Bool.or_eq_false_iff, within_iff, within_not] at qh5
    refine WC.skip ?_
    refine tkN ?_
    refine hK3 _ _ ?_
    clear hK3
    refine WC.seq (fun K7 hK7 => ?_)
    refine WC.region ?_
    refine WL.val rfl rfl rfl (Run.move rfl rfl) ?_
    refine WL.call rfl rfl rfl (Run.call Try.call38 rfl rfl rfl) (c_spec_MakeTree _ _ _ _ _ (SlF.st0 f_code hs1) ?_) ?_
    · first | assumption | rfl | omega
    rintro _ whs8 ⟨t9, p10, A11, c12, L113, rfl, hs8, ho14, hm15, hp16, hl17, hz18⟩
    replace hs8 := hs1.callF hs8
    refine ⟨_, rfl, ?_⟩
    refine WL.val rfl rfl rfl (Run.move rfl rfl) ?_
    refine WL.val rfl rfl rfl (Run.extract rfl rfl rfl) ?_
    have hfa := facts_of (hm15).1
    have hto := (hm15).ok
    have hlv := hfa.lv
    have hlvl := congrArg List.length hfa.lv
    have hfn := hfa.nodes
    have hfp := hfa.pos
    have hm_ := hm15
    have hp_ := hp16
    have hl7_ := hl17
    have hpat := atL_some hp_
    have hpla := placeAt_iff.2 ⟨hfa.ok, hpat⟩
    refine WL.val rfl rfl rfl (Run.extract rfl rfl rfl) ?_
    refine WL.val rfl rfl rfl (Run.assign rfl rfl) ?_
    refine WL.val rfl rfl rfl (Run.assign rfl rfl) ?_
    refine WL.nil ?_
    refine tkN ?_
    refine hK7 _ _ ?_
    clear hK7
    refine WC.seq (fun K19 hK19 => ?_)
    refine WC.region ?_
    refine WL.val rfl rfl rfl (Run.move rfl rfl) ?_
    refine WL.val rfl rfl rfl (Run.move rfl rfl) ?_
    refine WL.call rfl rfl rfl (Run.call Try.call46 rfl rfl rfl) (c_spec_Split _ _ _ _ _ _ _ _ _ _ (SlF.ofOwn ho14 (fun p_ hp_ => (hs8.own p_ (List.mem_append_left _ hp_)).1)) (OwnF.cap ho14) ?_) ?_
    · first | assumption | rfl | omega
    rintro _ whs20 ⟨A21, c22, L123, rfl, hs20, ho24⟩
    replace hs20 := hs8.callF hs20
    refine ⟨_, rfl, ?_⟩
    refine WL.val rfl rfl rfl (Run.move rfl rfl) ?_
    refine WL.val rfl rfl rfl (Run.extract rfl rfl rfl) ?_
    refine WL.val rfl rfl rfl (Run.extract rfl rfl rfl) ?_
    refine WL.val rfl rfl rfl (Run.assign rfl rfl) ?_
    refine WL.val rfl rfl rfl (Run.assign rfl rfl) ?_
    refine WL.nil ?_
    refine tkN ?_
    refine hK19 _ _ ?_
    clear hK19
    refine WC.seq (fun K25 hK25 => ?_)
    refine WC.region ?_
    refine WL.val rfl rfl rfl (Run.move rfl rfl) ?_
    refine WL.val rfl rfl rfl (Run.move rfl rfl) ?_
    refine WL.call rfl rfl rfl (Run.call Try.call47 rfl rfl rfl) (c_impl_Split _ _ _ _ _ _ _ _ _ _ (SlF.ofOwn ho14 (fun p_ hp_ => (hs20.own p_ (List.mem_append_right _ (List.mem_append_left _ hp_))).1)) (OwnF.cap ho14) ?_) ?_
    · first | assumption | rfl | omega
    rintro _ whs26 ⟨A27, c28, L129, rfl, hs26, ho30⟩
    replace hs26 := hs20.callF hs26
    refine ⟨_, rfl, ?_⟩
    refine WL.val rfl rfl rfl (Run.move rfl rfl) ?_
    refine WL.val rfl rfl rfl (Run.extract rfl rfl rfl) ?_
    refine WL.val rfl rfl rfl (Run.extract rfl rfl rfl) ?_
    refine WL.val rfl rfl rfl (Run.assign rfl rfl) ?_
    refine WL.val rfl rfl rfl (Run.assign rfl rfl) ?_
    refine WL.nil ?_
    refine tkN ?_
    refine hK25 _ _ ?_
    clear hK25
    refine WC.seq (fun K31 hK31 => ?_)
    refine WC.seq (fun K32 hK32 => ?_)
    refine WC.region ?_
    refine WL.val rfl rfl rfl (Run.move rfl rfl) ?_
    refine WL.val rfl rfl rfl (Run.move rfl rfl) ?_
    refine WL.val rfl rfl rfl (Run.neqB Try.runUnderlying4 rfl rfl rfl) ?_
    refine WL.nil ?_
    refine tkN ?_
    refine hK32 _ _ ?_
    clear hK32
    refine WC.condF rfl (by simp) ?_
    refine WC.skip ?_
    refine tkN ?_
    refine hK31 _ _ ?_
    clear hK31
    refine WC.seq (fun K34 hK34 => ?_)
    refine WC.seq (fun K35 hK35 => ?_)
    refine WC.region ?_
    refine WL.val rfl rfl rfl (Run.move rfl rfl) ?_
    refine WL.nil ?_
    refine tkN ?_
    refine hK35 _ _ ?_
    clear hK35
    refine WC.cond rfl (fun h36 => ?_) (fun h36 => ?_)
    · have qh36 := h36
      try simp only [decide_eq_true_eq, decide_eq_false_iff_not, Bool.not_eq_true', Bool.not_eq_false', Bool.and_eq_true, Bool.or_eq_false_iff, within_iff, within_not] at qh36
      have hk : splitOk t9 p10 99 true 24 12 = true := h36
      have hx : splitL t9 p10 99 true 24 12 = splitOut t9 p10 99 true 24 12 := by rw [splitL, if_pos hk]
      obtain ⟨hsc1, hsc2, hsc3, hsc4⟩ := split_cut hk (fun h_ => by have := hm_.2 99 h_; omega)
      have hxl := splitL_len t9 p10 99 true 24 12
      rw [← hx] at hsc1 hsc2 hsc3 hsc4
      have hcl := cutL_len (splitL t9 p10 99 true 24 12) 99
      refine WC.seq (fun K37 hK37 => ?_)
      refine WC.region ?_
      refine WL.val rfl rfl rfl (Run.move rfl rfl) ?_
      refine WL.call rfl rfl rfl (Run.call Try.call34 rfl rfl rfl) (c_impl_Cut _ _ _ _ _ _ (SlF.ofOwn ho30 (fun p_ hp_ => (hs26.own p_ (List.mem_append_left _ hp_)).1)) (OwnF.cap ho30) ?_) ?_
      · first | assumption | rfl | omega
      rintro _ whs38 ⟨A39, c40, L141, rfl, hs38, ho42⟩
      replace hs38 := hs26.callF hs38
      refine ⟨_, rfl, ?_⟩
      refine WL.val rfl rfl rfl (Run.move rfl rfl) ?_
      refine WL.val rfl rfl rfl (Run.extract rfl rfl rfl) ?_
      refine WL.val rfl rfl rfl (Run.extract rfl rfl rfl) ?_
      refine WL.val rfl rfl rfl (Run.assign rfl rfl) ?_
      refine WL.val rfl rfl rfl (Run.assign rfl rfl) ?_
      refine WL.nil ?_
      refine tkN ?_
      refine hK37 _ _ ?_
      clear hK37
      refine WC.seq (fun K43 hK43 => ?_)
      refine WC.region ?_
      refine WL.val rfl rfl rfl (Run.move rfl rfl) ?_
      refine WL.call rfl rfl rfl (Run.call Try.call36 rfl rfl rfl) (c_impl_PlaceOf _ _ _ _ _ _ _ _ (SlF.ofOwn ho30 (fun p_ hp_ => (hs38.own p_ (List.mem_append_right _ (List.mem_append_left _ hp_))).1)) ?_) ?_
      · first | assumption | rfl | omega
      rintro _ whs44 ⟨rfl, hs44⟩
      replace hs44 := hs38.call0 hs44
      refine ⟨_, rfl, ?_⟩
      refine WL.val rfl rfl rfl (Run.move rfl rfl) ?_
      refine WL.val rfl rfl rfl (Run.extract rfl rfl rfl) ?_
      refine WL.val rfl rfl rfl (Run.extract rfl rfl rfl) ?_
      refine WL.alloc hs44 Try.zeroValue40 rfl rfl rfl rfl rfl (fun b45 whs46 hs46 => ?_)
      refine WL.storeA hs46 0 Try.sizeOf40 rfl rfl rfl rfl rfl rfl rfl rfl rfl (Nat.le_of_ble_eq_true rfl) (.inl (Nat.le_of_ble_eq_true rfl)) (fun whs47 hs47 => ?_)
      refine WL.val rfl rfl rfl (Run.assign rfl rfl) ?_
      refine WL.nil ?_
      refine tkN ?_
      refine hK43 _ _ ?_
      clear hK43
      refine WC.seq (fun K48 hK48 => ?_)
      refine WC.region ?_
      refine WL.val rfl rfl rfl (Run.move rfl rfl) ?_
      refine WL.val rfl rfl rfl (Run.not rfl rfl) ?_
      refine WL.val rfl rfl rfl (Run.move rfl rfl) ?_
      apply WL.meetOr 5 54 59 [(0, _), (2, _), (3, _), (4, _), (6, _), (7, _), (8, _), (9, _), (10, _), (11, _), (12, _), (18, _), (19, _), (20, _), (21, _), (22, _), (23, _), (24, _), (25, _), (26, _), (27, _), (28, _), (29, _), (30, _), (31, _), (32, _), (33, _), (34, _), (35, _), (36, _), (37, _), (38, _), (39, _), (40, _), (41, _), (42, _), (43, _), (44, _), (45, _), (46, _), (47, _), (48, _), (49, _), (50, _), (51, _)] rfl hs47
      · intro g49 J50
        have qg49 := g49
        try simp only [decide_eq_true_eq, decide_eq_false_iff_not, Bool.not_eq_true', Bool.not_eq_false'] at qg49
        refine WL.val (wantF rfl g49) rfl rfl (Run.move rfl rfl) ?_
        refine WL.val (wantF rfl g49) rfl rfl (Run.move rfl rfl) ?_
        refine WL.call (wantF rfl g49) rfl rfl (Run.call Try.call50 rfl rfl rfl) (c_laws_sameTree _ _ _ _ _ _ _ _ _ (SlF.ofOwn ho42 (fun p_ hp_ => (hs47.own p_ (List.mem_append_right [_] (List.mem_append_left _ hp_))).1)) (SlF.ofOwn ho14 (fun p_ hp_ => (hs47.own p_ (List.mem_append_right [_] (List.mem_append_right _ (List.mem_append_right _ (List.mem_append_right _ (List.mem_append_left _ hp_)))))).1)) ?_ ?_) ?_
        · first | assumption | rfl | omega
        · first | assumption | rfl | omega
        rintro _ whs51 ⟨rfl, hs51⟩
        replace hs51 := hs47.call0 hs51
        refine ⟨_, rfl, ?_⟩
        refine WL.val (wantF rfl g49) rfl rfl (Run.not rfl rfl) ?_
        refine WL.val rfl rfl rfl (Run.pickF rfl rfl g49 rfl) ?_
        exact WL.fin J50 hs51 rfl (orF g49) ⟨rfl, rfl, rfl, rfl, rfl, rfl, rfl, rfl, rfl, rfl, rfl, rfl, rfl, rfl, rfl, rfl, rfl, rfl, rfl, rfl, rfl, rfl, rfl, rfl, rfl, rfl, rfl, rfl, rfl, rfl, rfl, rfl, rfl, rfl, rfl, rfl, rfl, rfl, rfl, rfl, rfl, rfl, rfl, rfl, rfl, trivial⟩
      · intro g49 J50
        refine WL.skip (wantNF rfl g49) rfl rfl ?_
        refine WL.skip (wantNF rfl g49) rfl rfl ?_
        refine WL.skip (wantNF rfl g49) rfl rfl ?_
        refine WL.skip (wantNF rfl g49) rfl rfl ?_
        refine WL.val rfl rfl rfl (Run.pickT rfl rfl g49 rfl) ?_
        exact WL.fin J50 hs47 rfl (orT g49) ⟨rfl, rfl, rfl, rfl, rfl, rfl, rfl, rfl, rfl, rfl, rfl, rfl, rfl, rfl, rfl, rfl, rfl, rfl, rfl, rfl, rfl, rfl, rfl, rfl, rfl, rfl, rfl, rfl, rfl, rfl, rfl, rfl, rfl, rfl, rfl, rfl, rfl, rfl, rfl, rfl, rfl, rfl, rfl, rfl, rfl, trivial⟩
      · intro whs52 hs52
        refine WL.val rfl rfl rfl (Run.move rfl rfl) ?_
        apply WL.meetOr 3 60 63 [(0, _), (2, _), (3, _), (4, _), (6, _), (7, _), (8, _), (9, _), (10, _), (11, _), (12, _), (18, _), (19, _), (20, _), (21, _), (22, _), (23, _), (24, _), (25, _), (26, _), (27, _), (28, _), (29, _), (30, _), (31, _), (32, _), (33, _), (34, _), (35, _), (36, _), (37, _), (38, _), (39, _), (40, _), (41, _), (42, _), (43, _), (44, _), (45, _), (46, _), (47, _), (48, _), (49, _), (50, _), (51, _)] rfl hs52
        · intro g53 J54
          have qg53 := g53
          try simp only [decide_eq_true_eq, decide_eq_false_iff_not, Bool.not_eq_true', Bool.not_eq_false'] at qg53
          refine WL.val (wantF rfl g53) rfl rfl (Run.move rfl rfl) ?_
          refine WL.val (wantF rfl g53) rfl rfl (Run.not rfl rfl) ?_
          refine WL.val rfl rfl rfl (Run.pickF rfl rfl g53 rfl) ?_
          exact WL.fin J54 hs52 rfl (orF g53) ⟨rfl, rfl, rfl, rfl, rfl, rfl, rfl, rfl, rfl, rfl, rfl, rfl, rfl, rfl, rfl, rfl, rfl, rfl, rfl, rfl, rfl, rfl, rfl, rfl, rfl, rfl, rfl, rfl, rfl, rfl, rfl, rfl, rfl, rfl, rfl, rfl, rfl, rfl, rfl, rfl, rfl, rfl, rfl, rfl, rfl, trivial⟩
        · intro g53 J54
          refine WL.skip (wantNF rfl g53) rfl rfl ?_
          refine WL.skip (wantNF rfl g53) rfl rfl ?_
          refine WL.val rfl rfl rfl (Run.pickT rfl rfl g53 rfl) ?_
          exact WL.fin J54 hs52 rfl (orT g53) ⟨rfl, rfl, rfl, rfl, rfl, rfl, rfl, rfl, rfl, rfl, rfl, rfl, rfl, rfl, rfl, rfl, rfl, rfl, rfl, rfl, rfl, rfl, rfl, rfl, rfl, rfl, rfl, rfl, rfl, rfl, rfl, rfl, rfl, rfl, rfl, rfl, rfl, rfl, rfl, rfl, rfl, rfl, rfl, rfl, rfl, trivial⟩
        · intro whs55 hs55
          refine WL.val rfl rfl rfl (Run.move rfl rfl) ?_
          apply WL.meetOr 4 64 68 [(0, _), (2, _), (3, _), (4, _), (6, _), (7, _), (8, _), (9, _), (10, _), (11, _), (12, _), (18, _), (19, _), (20, _), (21, _), (22, _), (23, _), (24, _), (25, _), (26, _), (27, _), (28, _), (29, _), (30, _), (31, _), (32, _), (33, _), (34, _), (35, _), (36, _), (37, _), (38, _), (39, _), (40, _), (41, _), (42, _), (43, _), (44, _), (45, _), (46, _), (47, _), (48, _), (49, _), (50, _), (51, _)] rfl hs55
          · intro g56 J57
            have qg56 := g56
            try simp only [decide_eq_true_eq, decide_eq_false_iff_not, Bool.not_eq_true', Bool.not_eq_false'] at qg56
            refine WL.val (wantF rfl g56) rfl rfl (Run.field Try.runUnderlying40 rfl rfl rfl Try.sizeOf3 rfl) ?_
            refine WL.val (wantF rfl g56) rfl rfl (Run.loadL hs55 0 Try.isAgg3 rfl rfl rfl rfl) ?_
            refine WL.val (wantF rfl g56) rfl rfl (Run.lss rfl rfl rfl) ?_
            refine WL.val rfl rfl rfl (Run.pickF rfl rfl g56 rfl) ?_
            exact WL.fin J57 hs55 rfl (orF g56) ⟨rfl, rfl, rfl, rfl, rfl, rfl, rfl, rfl, rfl, rfl, rfl, rfl, rfl, rfl, rfl, rfl, rfl, rfl, rfl, rfl, rfl, rfl, rfl, rfl, rfl, rfl, rfl, rfl, rfl, rfl, rfl, rfl, rfl, rfl, rfl, rfl, rfl, rfl, rfl, rfl, rfl, rfl, rfl, rfl, rfl, trivial⟩
          · intro g56 J57
            refine WL.skip (wantNF rfl g56) rfl rfl ?_
            refine WL.skip (wantNF rfl g56) rfl rfl ?_
            refine WL.skip (wantNF rfl g56) rfl rfl ?_
            refine WL.val rfl rfl rfl (Run.pickT rfl rfl g56 rfl) ?_
            exact WL.fin J57 hs55 rfl (orT g56) ⟨rfl, rfl, rfl, rfl, rfl, rfl, rfl, rfl, rfl, rfl, rfl, rfl, rfl, rfl, rfl, rfl, rfl, rfl, rfl, rfl, rfl, rfl, rfl, rfl, rfl, rfl, rfl, rfl, rfl, rfl, rfl, rfl, rfl, rfl, rfl, rfl, rfl, rfl, rfl, rfl, rfl, rfl, rfl, rfl, rfl, trivial⟩
          · intro whs58 hs58
            refine WL.nil ?_
            refine tkN ?_
            refine hK48 _ _ ?_
            clear hK48
            refine WC.condF rfl (by simp [hsc1, hsc3]; omega) ?_
            refine WC.skip ?_
            refine tkN ?_
            refine hK34 _ _ ?_
            clear hK34
            refine WC.seq (fun K60 hK60 => ?_)
            refine WC.region ?_
            refine WL.val rfl rfl rfl (Run.move rfl rfl) ?_
            refine WL.call rfl rfl rfl (Run.call Try.call25 rfl rfl rfl) (c_impl_Leaves _ _ _ _ _ (SlF.ofOwn ho14 (fun p_ hp_ => (hs58.own p_ (List.mem_append_right [_] (List.mem_append_right _ (List.mem_append_right _ (List.mem_append_right _ (List.mem_append_left _ hp_)))))).1)) ?_) ?_
            · first | assumption | rfl | omega
            rintro _ whs61 ⟨A62, c63, L164, rfl, hs61, ho65⟩
            replace hs61 := hs58.callF hs61
            refine ⟨_, rfl, ?_⟩
            replace hs61 := St.back [_] hs61
            have hq0 : gat encI (leavesL t9) 0 ∈ panesL t9 := by rw [hlv]; exact gat_mem (F := encI) (by omega)
            have hswk : swapOk t9 p10 (gat encI (leavesL t9) 0) = true := by simp only [swapOk, hto, Bool.true_and, Bool.and_eq_true, decide_eq_true_eq]; exact ⟨hpat, atL_some hq0⟩
            obtain ⟨hsw0, hsw2⟩ := swap_facts hswk
            have hsw1 := hswk
            have hsl := swapL_len t9 p10 (gat encI (leavesL t9) 0)
            have hsl2 := swapL_len (swapL t9 p10 (gat encI (leavesL t9) 0)) p10 (gat encI (leavesL t9) 0)
            refine WL.val rfl rfl rfl (Run.assign rfl rfl) ?_
            refine WL.nil ?_
            refine tkN ?_
            refine hK60 _ _ ?_
            clear hK60
            refine WC.seq (fun K66 hK66 => ?_)
            refine WC.region ?_
            refine WL.val rfl rfl rfl (Run.move rfl rfl) ?_
            refine WL.val rfl rfl rfl (Run.move rfl rfl) ?_
            refine WL.val rfl rfl rfl (Run.move rfl rfl) ?_
            refine WL.val rfl rfl rfl (Run.idxK (0) Try.runUnderlying31 Try.sizeOf3 rfl rfl rfl ?_ ?_ ?_) ?_
            · exact SlF.some_ (SlF.ofOwn ho65 (fun p_ hp_ => (hs61.own p_ (List.mem_append_right [_] (List.mem_append_left _ hp_))).1))
            · omega
            · omega
            refine WL.val rfl rfl rfl (Run.load Try.isAgg3 rfl rfl (SlF.one1 (SlF.ofOwn ho65 (fun p_ hp_ => (hs61.own p_ (List.mem_append_right [_] (List.mem_append_left _ hp_))).1)) ?_ rfl)) ?_
            · omega
            refine WL.call rfl rfl rfl (Run.call Try.call31 rfl rfl rfl) (c_impl_Swap _ _ _ _ _ _ _ (SlF.ofOwn ho14 (fun p_ hp_ => (hs61.own p_ (List.mem_append_right [_] (List.mem_append_right _ (List.mem_append_right _ (List.mem_append_right _ (List.mem_append_right _ (List.mem_append_left _ hp_))))))).1)) ?_) ?_
            · first | assumption | rfl | omega
            rintro _ whs67 ⟨A68, c69, L170, rfl, hs67, ho71⟩
            replace hs67 := hs61.callF hs67
            refine ⟨_, rfl, ?_⟩
            replace hs67 := St.back [_] hs67
            refine WL.val rfl rfl rfl (Run.move rfl rfl) ?_
            refine WL.val rfl rfl rfl (Run.extract rfl rfl rfl) ?_
            refine WL.val rfl rfl rfl (Run.extract rfl rfl rfl) ?_
            refine WL.val rfl rfl rfl (Run.assign rfl rfl) ?_
            refine WL.val rfl rfl rfl (Run.assign rfl rfl) ?_
            refine WL.nil ?_
            refine tkN ?_
            refine hK66 _ _ ?_
            clear hK66
            refine WC.seq (fun K72 hK72 => ?_)
            refine WC.region ?_
            refine WL.val rfl rfl rfl (Run.move rfl rfl) ?_
            refine WL.val rfl rfl rfl (Run.move rfl rfl) ?_
            refine WL.val rfl rfl rfl (Run.move rfl rfl) ?_
            refine WL.val rfl rfl rfl (Run.idxK (0) Try.runUnderlying31 Try.sizeOf3 rfl rfl rfl ?_ ?_ ?_) ?_
            · exact SlF.some_ (SlF.ofOwn ho65 (fun p_ hp_ => (hs67.own p_ (List.mem_append_right [_] (List.mem_append_right _ (List.mem_append_left _ hp_)))).1))
            · omega
            · omega
            refine WL.val rfl rfl rfl (Run.load Try.isAgg3 rfl rfl (SlF.one1 (SlF.ofOwn ho65 (fun p_ hp_ => (hs67.own p_ (List.mem_append_right [_] (List.mem_append_right _ (List.mem_append_left _ hp_)))).1)) ?_ rfl)) ?_
            · omega
            refine WL.call rfl rfl rfl (Run.call Try.call31 rfl rfl rfl) (c_impl_Swap _ _ _ _ _ _ _ (SlF.ofOwn ho71 (fun p_ hp_ => (hs67.own p_ (List.mem_append_right [_] (List.mem_append_left _ hp_))).1)) ?_) ?_
            · first | assumption | rfl | omega
            rintro _ whs73 ⟨A74, c75, L176, rfl, hs73, ho77⟩
            replace hs73 := hs67.callF hs73
            refine ⟨_, rfl, ?_⟩
            replace hs73 := St.back [_] hs73
            refine WL.val rfl rfl rfl (Run.move rfl rfl) ?_
            refine WL.val rfl rfl rfl (Run.extract rfl rfl rfl) ?_
            refine WL.val rfl rfl rfl (Run.extract rfl rfl rfl) ?_
            refine WL.val rfl rfl rfl (Run.assign rfl rfl) ?_
            refine WL.val rfl rfl rfl (Run.assign rfl rfl) ?_
            refine WL.nil ?_
            refine tkN ?_
            refine hK72 _ _ ?_
            clear hK72
            refine WC.seq (fun K78 hK78 => ?_)
            refine WC.region ?_
            refine WL.val rfl rfl rfl (Run.move rfl rfl) ?_
            refine WL.val rfl rfl rfl (Run.move rfl rfl) ?_
            apply WL.meetAnd 2 90 92 [(0, _), (2, _), (3, _), (4, _), (6, _), (7, _), (8, _), (9, _), (10, _), (11, _), (12, _), (13, _), (14, _), (15, _), (16, _), (17, _), (18, _), (19, _), (20, _), (21, _), (22, _), (23, _), (24, _), (25, _), (26, _), (27, _), (28, _), (29, _), (30, _), (31, _), (32, _), (33, _), (34, _), (35, _), (36, _), (37, _), (38, _), (39, _), (40, _), (41, _), (42, _), (43, _), (44, _), (45, _), (46, _), (47, _), (48, _), (49, _), (50, _), (51, _), (68, _), (69, _), (70, _), (71, _), (72, _), (73, _), (74, _), (75, _), (76, _), (77, _), (78, _), (79, _), (80, _), (81, _), (82, _), (83, _), (84, _), (85, _), (86, _), (87, _), (88, _)] rfl hs73
            · intro g79 J80
              have qg79 := g79
              try simp only [decide_eq_true_eq, decide_eq_false_iff_not, Bool.not_eq_true', Bool.not_eq_false'] at qg79
              refine WL.val (wantT rfl g79) rfl rfl (Run.move rfl rfl) ?_
              refine WL.val rfl rfl rfl (Run.pickT rfl rfl g79 rfl) ?_
              exact WL.fin J80 hs73 rfl (andT g79) ⟨rfl, rfl, rfl, rfl, rfl, rfl, rfl, rfl, rfl, rfl, rfl, rfl, rfl, rfl, rfl, rfl, rfl, rfl, rfl, rfl, rfl, rfl, rfl, rfl, rfl, rfl, rfl, rfl, rfl, rfl, rfl, rfl, rfl, rfl, rfl, rfl, rfl, rfl, rfl, rfl, rfl, rfl, rfl, rfl, rfl, rfl, rfl, rfl, rfl, rfl, rfl, rfl, rfl, rfl, rfl, rfl, rfl, rfl, rfl, rfl, rfl, rfl, rfl, rfl, rfl, rfl, rfl, rfl, rfl, rfl, rfl, trivial⟩
            · intro g79 J80
              refine WL.skip (wantNT rfl g79) rfl rfl ?_
              refine WL.val rfl rfl rfl (Run.pickF rfl rfl g79 rfl) ?_
              exact WL.fin J80 hs73 rfl (andF g79) ⟨rfl, rfl, rfl, rfl, rfl, rfl, rfl, rfl, rfl, rfl, rfl, rfl, rfl, rfl, rfl, rfl, rfl, rfl, rfl, rfl, rfl, rfl, rfl, rfl, rfl, rfl, rfl, rfl, rfl, rfl, rfl, rfl, rfl, rfl, rfl, rfl, rfl, rfl, rfl, rfl, rfl, rfl, rfl, rfl, rfl, rfl, rfl, rfl, rfl, rfl, rfl, rfl, rfl, rfl, rfl, rfl, rfl, rfl, rfl, rfl, rfl, rfl, rfl, rfl, rfl, rfl, rfl, rfl, rfl, rfl, rfl, trivial⟩
            · intro whs81 hs81
              refine WL.val rfl rfl rfl (Run.move rfl rfl) ?_
              apply WL.meetAnd 4 93 97 [(0, _), (2, _), (3, _), (4, _), (6, _), (7, _), (8, _), (9, _), (10, _), (11, _), (12, _), (13, _), (14, _), (15, _), (16, _), (17, _), (18, _), (19, _), (20, _), (21, _), (22, _), (23, _), (24, _), (25, _), (26, _), (27, _), (28, _), (29, _), (30, _), (31, _), (32, _), (33, _), (34, _), (35, _), (36, _), (37, _), (38, _), (39, _), (40, _), (41, _), (42, _), (43, _), (44, _), (45, _), (46, _), (47, _), (48, _), (49, _), (50, _), (51, _), (68, _), (69, _), (70, _), (71, _), (72, _), (73, _), (74, _), (75, _), (76, _), (77, _), (78, _), (79, _), (80, _), (81, _), (82, _), (83, _), (84, _), (85, _), (86, _), (87, _), (88, _)] rfl hs81
              · intro g82 J83
                have qg82 := g82
                try simp only [decide_eq_true_eq, decide_eq_false_iff_not, Bool.not_eq_true', Bool.not_eq_false'] at qg82
                refine WL.val (wantT rfl g82) rfl rfl (Run.move rfl rfl) ?_
                refine WL.val (wantT rfl g82) rfl rfl (Run.move rfl rfl) ?_
                refine WL.call (wantT rfl g82) rfl rfl (Run.call Try.call50 rfl rfl rfl) (c_laws_sameTree _ _ _ _ _ _ _ _ _ (SlF.ofOwn ho77 (fun p_ hp_ => (hs81.own p_ (List.mem_append_right [_] (List.mem_append_left _ hp_))).1)) (SlF.ofOwn ho14 (fun p_ hp_ => (hs81.own p_ (List.mem_append_right [_] (List.mem_append_right _ (List.mem_append_right _ (List.mem_append_right _ (List.mem_append_right _ (List.mem_append_right _ (List.mem_append_right _ (List.mem_append_left _ hp_))))))))).1)) ?_ ?_) ?_
                · first | assumption | rfl | omega
                · first | assumption | rfl | omega
                rintro _ whs84 ⟨rfl, hs84⟩
                replace hs84 := hs81.call0 hs84
                refine ⟨_, rfl, ?_⟩
                refine WL.val rfl rfl rfl (Run.pickT rfl rfl g82 rfl) ?_
                exact WL.fin J83 hs84 rfl (andT g82) ⟨rfl, rfl, rfl, rfl, rfl, rfl, rfl, rfl, rfl, rfl, rfl, rfl, rfl, rfl, rfl, rfl, rfl, rfl, rfl, rfl, rfl, rfl, rfl, rfl, rfl, rfl, rfl, rfl, rfl, rfl, rfl, rfl, rfl, rfl, rfl, rfl, rfl, rfl, rfl, rfl, rfl, rfl, rfl, rfl, rfl, rfl, rfl, rfl, rfl, rfl, rfl, rfl, rfl, rfl, rfl, rfl, rfl, rfl, rfl, rfl, rfl, rfl, rfl, rfl, rfl, rfl, rfl, rfl, rfl, rfl, rfl, trivial⟩
              · intro g82 J83
                refine WL.skip (wantNT rfl g82) rfl rfl ?_
                refine WL.skip (wantNT rfl g82) rfl rfl ?_
                refine WL.skip (wantNT rfl g82) rfl rfl ?_
                refine WL.val rfl rfl rfl (Run.pickF rfl rfl g82 rfl) ?_
                exact WL.fin J83 hs81 rfl (andF g82) ⟨rfl, rfl, rfl, rfl, rfl, rfl, rfl, rfl, rfl, rfl, rfl, rfl, rfl, rfl, rfl, rfl, rfl, rfl, rfl, rfl, rfl, rfl, rfl, rfl, rfl, rfl, rfl, rfl, rfl, rfl, rfl, rfl, rfl, rfl, rfl, rfl, rfl, rfl, rfl, rfl, rfl, rfl, rfl, rfl, rfl, rfl, rfl, rfl, rfl, rfl, rfl, rfl, rfl, rfl, rfl, rfl, rfl, rfl, rfl, rfl, rfl, rfl, rfl, rfl, rfl, rfl, rfl, rfl, rfl, rfl, rfl, trivial⟩
              · intro whs85 hs85
                refine WL.val rfl rfl rfl (Run.move rfl rfl) ?_
                apply WL.meetAnd 3 98 101 [(0, _), (2, _), (3, _), (4, _), (6, _), (7, _), (8, _), (9, _), (10, _), (11, _), (12, _), (13, _), (14, _), (15, _), (16, _), (17, _), (18, _), (19, _), (20, _), (21, _), (22, _), (23, _), (24, _), (25, _), (26, _), (27, _), (28, _), (29, _), (30, _), (31, _), (32, _), (33, _), (34, _), (35, _), (36, _), (37, _), (38, _), (39, _), (40, _), (41, _), (42, _), (43, _), (44, _), (45, _), (46, _), (47, _), (48, _), (49, _), (50, _), (51, _), (68, _), (69, _), (70, _), (71, _), (72, _), (73, _), (74, _), (75, _), (76, _), (77, _), (78, _), (79, _), (80, _), (81, _), (82, _), (83, _), (84, _), (85, _), (86, _), (87, _), (88, _)] rfl hs85
                · intro g86 J87
                  have qg86 := g86
                  try simp only [decide_eq_true_eq, decide_eq_false_iff_not, Bool.not_eq_true', Bool.not_eq_false'] at qg86
                  refine WL.val (wantT rfl g86) rfl rfl (Run.move rfl rfl) ?_
                  refine WL.call (wantT rfl g86) rfl rfl (Run.call Try.call20 rfl rfl rfl) (c_impl_TreeOk _ _ _ _ _ (SlF.ofOwn ho14 (fun p_ hp_ => (hs85.own p_ (List.mem_append_right [_] (List.mem_append_right _ (List.mem_append_right _ (List.mem_append_right _ (List.mem_append_right _ (List.mem_append_right _ (List.mem_append_right _ (List.mem_append_left _ hp_))))))))).1)) ?_) ?_
                  · first | assumption | rfl | omega
                  rintro _ whs88 ⟨rfl, hs88⟩
                  replace hs88 := hs85.call0 hs88
                  refine ⟨_, rfl, ?_⟩
                  refine WL.val rfl rfl rfl (Run.pickT rfl rfl g86 rfl) ?_
                  exact WL.fin J87 hs88 rfl (andT g86) ⟨rfl, rfl, rfl, rfl, rfl, rfl, rfl, rfl, rfl, rfl, rfl, rfl, rfl, rfl, rfl, rfl, rfl, rfl, rfl, rfl, rfl, rfl, rfl, rfl, rfl, rfl, rfl, rfl, rfl, rfl, rfl, rfl, rfl, rfl, rfl, rfl, rfl, rfl, rfl, rfl, rfl, rfl, rfl, rfl, rfl, rfl, rfl, rfl, rfl, rfl, rfl, rfl, rfl, rfl, rfl, rfl, rfl, rfl, rfl, rfl, rfl, rfl, rfl, rfl, rfl, rfl, rfl, rfl, rfl, rfl, rfl, trivial⟩
                · intro g86 J87
                  refine WL.skip (wantNT rfl g86) rfl rfl ?_
                  refine WL.skip (wantNT rfl g86) rfl rfl ?_
                  refine WL.val rfl rfl rfl (Run.pickF rfl rfl g86 rfl) ?_
                  exact WL.fin J87 hs85 rfl (andF g86) ⟨rfl, rfl, rfl, rfl, rfl, rfl, rfl, rfl, rfl, rfl, rfl, rfl, rfl, rfl, rfl, rfl, rfl, rfl, rfl, rfl, rfl, rfl, rfl, rfl, rfl, rfl, rfl, rfl, rfl, rfl, rfl, rfl, rfl, rfl, rfl, rfl, rfl, rfl, rfl, rfl, rfl, rfl, rfl, rfl, rfl, rfl, rfl, rfl, rfl, rfl, rfl, rfl, rfl, rfl, rfl, rfl, rfl, rfl, rfl, rfl, rfl, rfl, rfl, rfl, rfl, rfl, rfl, rfl, rfl, rfl, rfl, trivial⟩
                · intro whs89 hs89
                  refine WL.val rfl rfl rfl (Run.assign rfl rfl) ?_
                  refine WL.nil ?_
                  refine tkN ?_
                  refine hK78 _ _ ?_
                  clear hK78
                  refine WC.ret ?_
                  refine retV1 rfl (resV.tmp rfl) ?_
                  refine ⟨congrArg Ending.returned (congrArg Value.bool ?_), hs89.nil⟩
                  simp [hsw0, hsw1, hsw2, hto]
    · have qh36 := h36
      try simp only [decide_eq_true_eq, decide_eq_false_iff_not, Bool.not_eq_true', Bool.not_eq_false', Bool.and_eq_true, Bool.or_eq_false_iff, within_iff, within_not] at qh36
      refine WC.skip ?_
      refine tkN ?_
      refine hK34 _ _ ?_
      clear hK34
      refine WC.seq (fun K90 hK90 => ?_)
      refine WC.region ?_
      refine WL.val rfl rfl rfl (Run.move rfl rfl) ?_
      refine WL.call rfl rfl rfl (Run.call Try.call25 rfl rfl rfl) (c_impl_Leaves _ _ _ _ _ (SlF.ofOwn ho14 (fun p_ hp_ => (hs26.own p_ (List.mem_append_right _ (List.mem_append_right _ (List.mem_append_left _ hp_)))).1)) ?_) ?_
      · first | assumption | rfl | omega
      rintro _ whs91 ⟨A92, c93, L194, rfl, hs91, ho95⟩
      replace hs91 := hs26.callF hs91
      refine ⟨_, rfl, ?_⟩
      have hq0 : gat encI (leavesL t9) 0 ∈ panesL t9 := by rw [hlv]; exact gat_mem (F := encI) (by omega)
      have hswk : swapOk t9 p10 (gat encI (leavesL t9) 0) = true := by simp only [swapOk, hto, Bool.true_and, Bool.and_eq_true, decide_eq_true_eq]; exact ⟨hpat, atL_some hq0⟩
      obtain ⟨hsw0, hsw2⟩ := swap_facts hswk
      have hsw1 := hswk
      have hsl := swapL_len t9 p10 (gat encI (leavesL t9) 0)
      have hsl2 := swapL_len (swapL t9 p10 (gat encI (leavesL t9) 0)) p10 (gat encI (leavesL t9) 0)
      refine WL.val rfl rfl rfl (Run.assign rfl rfl) ?_
      refine WL.nil ?_
      refine tkN ?_
      refine hK90 _ _ ?_
      clear hK90
      refine WC.seq (fun K96 hK96 => ?_)
      refine WC.region ?_
      refine WL.val rfl rfl rfl (Run.move rfl rfl) ?_
      refine WL.val rfl rfl rfl (Run.move rfl rfl) ?_
      refine WL.val rfl rfl rfl (Run.move rfl rfl) ?_
      refine WL.val rfl rfl rfl (Run.idxK (0) Try.runUnderlying31 Try.sizeOf3 rfl rfl rfl ?_ ?_ ?_) ?_
      · exact SlF.some_ (SlF.ofOwn ho95 (fun p_ hp_ => (hs91.own p_ (List.mem_append_left _ hp_)).1))
      · omega
      · omega
      refine WL.val rfl rfl rfl (Run.load Try.isAgg3 rfl rfl (SlF.one1 (SlF.ofOwn ho95 (fun p_ hp_ => (hs91.own p_ (List.mem_append_left _ hp_)).1)) ?_ rfl)) ?_
      · omega
      refine WL.call rfl rfl rfl (Run.call Try.call31 rfl rfl rfl) (c_impl_Swap _ _ _ _ _ _ _ (SlF.ofOwn ho14 (fun p_ hp_ => (hs91.own p_ (List.mem_append_right _ (List.mem_append_right _ (List.mem_append_right _ (List.mem_append_left _ hp_))))).1)) ?_) ?_
      · first | assumption | rfl | omega
      rintro _ whs97 ⟨A98, c99, L1100, rfl, hs97, ho101⟩
      replace hs97 := hs91.callF hs97
      refine ⟨_, rfl, ?_⟩
      refine WL.val rfl rfl rfl (Run.move rfl rfl) ?_
      refine WL.val rfl rfl rfl (Run.extract rfl rfl rfl) ?_
      refine WL.val rfl rfl rfl (Run.extract rfl rfl rfl) ?_
      refine WL.val rfl rfl rfl (Run.assign rfl rfl) ?_
      refine WL.val rfl rfl rfl (Run.assign rfl rfl) ?_
      refine WL.nil ?_
      refine tkN ?_
      refine hK96 _ _ ?_
      clear hK96
      refine WC.seq (fun K102 hK102 => ?_)
      refine WC.region ?_
      refine WL.val rfl rfl rfl (Run.move rfl rfl) ?_
      refine WL.val rfl rfl rfl (Run.move rfl rfl) ?_
      refine WL.val rfl rfl rfl (Run.move rfl rfl) ?_
      refine WL.val rfl rfl rfl (Run.idxK (0) Try.runUnderlying31 Try.sizeOf3 rfl rfl rfl ?_ ?_ ?_) ?_
      · exact SlF.some_ (SlF.ofOwn ho95 (fun p_ hp_ => (hs97.own p_ (List.mem_append_right _ (List.mem_append_left _ hp_))).1))
      · omega
      · omega
      refine WL.val rfl rfl rfl (Run.load Try.isAgg3 rfl rfl (SlF.one1 (SlF.ofOwn ho95 (fun p_ hp_ => (hs97.own p_ (List.mem_append_right _ (List.mem_append_left _ hp_))).1)) ?_ rfl)) ?_
      · omega
      refine WL.call rfl rfl rfl (Run.call Try.call31 rfl rfl rfl) (c_impl_Swap _ _ _ _ _ _ _ (SlF.ofOwn ho101 (fun p_ hp_ => (hs97.own p_ (List.mem_append_left _ hp_)).1)) ?_) ?_
      · first | assumption | rfl | omega
      rintro _ whs103 ⟨A104, c105, L1106, rfl, hs103, ho107⟩
      replace hs103 := hs97.callF hs103
      refine ⟨_, rfl, ?_⟩
      refine WL.val rfl rfl rfl (Run.move rfl rfl) ?_
      refine WL.val rfl rfl rfl (Run.extract rfl rfl rfl) ?_
      refine WL.val rfl rfl rfl (Run.extract rfl rfl rfl) ?_
      refine WL.val rfl rfl rfl (Run.assign rfl rfl) ?_
      refine WL.val rfl rfl rfl (Run.assign rfl rfl) ?_
      refine WL.nil ?_
      refine tkN ?_
      refine hK102 _ _ ?_
      clear hK102
      refine WC.seq (fun K108 hK108 => ?_)
      refine WC.region ?_
      refine WL.val rfl rfl rfl (Run.move rfl rfl) ?_
      refine WL.val rfl rfl rfl (Run.move rfl rfl) ?_
      apply WL.meetAnd 2 90 92 [(0, _), (2, _), (3, _), (4, _), (6, _), (7, _), (8, _), (13, _), (14, _), (15, _), (16, _), (17, _), (18, _), (19, _), (20, _), (21, _), (22, _), (23, _), (24, _), (25, _), (26, _), (27, _), (28, _), (29, _), (30, _), (31, _), (32, _), (33, _), (34, _), (35, _), (36, _), (37, _), (38, _), (39, _), (40, _), (41, _), (69, _), (70, _), (71, _), (72, _), (73, _), (74, _), (75, _), (76, _), (77, _), (78, _), (79, _), (80, _), (81, _), (82, _), (83, _), (84, _), (85, _), (86, _), (87, _), (88, _)] rfl hs103
      · intro g109 J110
        have qg109 := g109
        try simp only [decide_eq_true_eq, decide_eq_false_iff_not, Bool.not_eq_true', Bool.not_eq_false'] at qg109
        refine WL.val (wantT rfl g109) rfl rfl (Run.move rfl rfl) ?_
        refine WL.val rfl rfl rfl (Run.pickT rfl rfl g109 rfl) ?_
        exact WL.fin J110 hs103 rfl (andT g109) ⟨rfl, rfl, rfl, rfl, rfl, rfl, rfl, rfl, rfl, rfl, rfl, rfl, rfl, rfl, rfl, rfl, rfl, rfl, rfl, rfl, rfl, rfl, rfl, rfl, rfl, rfl, rfl, rfl, rfl, rfl, rfl, rfl, rfl, rfl, rfl, rfl, rfl, rfl, rfl, rfl, rfl, rfl, rfl, rfl, rfl, rfl, rfl, rfl, rfl, rfl, rfl, rfl, rfl, rfl, rfl, rfl, trivial⟩
      · intro g109 J110
        refine WL.skip (wantNT rfl g109) rfl rfl ?_
        refine WL.val rfl rfl rfl (Run.pickF rfl rfl g109 rfl) ?_
        exact WL.fin J110 hs103 rfl (andF g109) ⟨rfl, rfl, rfl, rfl, rfl, rfl, rfl, rfl, rfl, rfl, rfl, rfl, rfl, rfl, rfl, rfl, rfl, rfl, rfl, rfl, rfl, rfl, rfl, rfl, rfl, rfl, rfl, rfl, rfl, rfl, rfl, rfl, rfl, rfl, rfl, rfl, rfl, rfl, rfl, rfl, rfl, rfl, rfl, rfl, rfl, rfl, rfl, rfl, rfl, rfl, rfl, rfl, rfl, rfl, rfl, rfl, trivial⟩
      · intro whs111 hs111
        refine WL.val rfl rfl rfl (Run.move rfl rfl) ?_
        apply WL.meetAnd 4 93 97 [(0, _), (2, _), (3, _), (4, _), (6, _), (7, _), (8, _), (13, _), (14, _), (15, _), (16, _), (17, _), (18, _), (19, _), (20, _), (21, _), (22, _), (23, _), (24, _), (25, _), (26, _), (27, _), (28, _), (29, _), (30, _), (31, _), (32, _), (33, _), (34, _), (35, _), (36, _), (37, _), (38, _), (39, _), (40, _), (41, _), (69, _), (70, _), (71, _), (72, _), (73, _), (74, _), (75, _), (76, _), (77, _), (78, _), (79, _), (80, _), (81, _), (82, _), (83, _), (84, _), (85, _), (86, _), (87, _), (88, _)] rfl hs111
        · intro g112 J113
          have qg112 := g112
          try simp only [decide_eq_true_eq, decide_eq_false_iff_not, Bool.not_eq_true', Bool.not_eq_false'] at qg112
          refine WL.val (wantT rfl g112) rfl rfl (Run.move rfl rfl) ?_
          refine WL.val (wantT rfl g112) rfl rfl (Run.move rfl rfl) ?_
          refine WL.call (wantT rfl g112) rfl rfl (Run.call Try.call50 rfl rfl rfl) (c_laws_sameTree _ _ _ _ _ _ _ _ _ (SlF.ofOwn ho107 (fun p_ hp_ => (hs111.own p_ (List.mem_append_left _ hp_)).1)) (SlF.ofOwn ho14 (fun p_ hp_ => (hs111.own p_ (List.mem_append_right _ (List.mem_append_right _ (List.mem_append_right _ (List.mem_append_right _ (List.mem_append_right _ (List.mem_append_left _ hp_))))))).1)) ?_ ?_) ?_
          · first | assumption | rfl | omega
          · first | assumption | rfl | omega
          rintro _ whs114 ⟨rfl, hs114⟩
          replace hs114 := hs111.call0 hs114
          refine ⟨_, rfl, ?_⟩
          refine WL.val rfl rfl rfl (Run.pickT rfl rfl g112 rfl) ?_
          exact WL.fin J113 hs114 rfl (andT g112) ⟨rfl, rfl, rfl, rfl, rfl, rfl, rfl, rfl, rfl, rfl, rfl, rfl, rfl, rfl, rfl, rfl, rfl, rfl, rfl, rfl, rfl, rfl, rfl, rfl, rfl, rfl, rfl, rfl, rfl, rfl, rfl, rfl, rfl, rfl, rfl, rfl, rfl, rfl, rfl, rfl, rfl, rfl, rfl, rfl, rfl, rfl, rfl, rfl, rfl, rfl, rfl, rfl, rfl, rfl, rfl, rfl, trivial⟩
        · intro g112 J113
          refine WL.skip (wantNT rfl g112) rfl rfl ?_
          refine WL.skip (wantNT rfl g112) rfl rfl ?_
          refine WL.skip (wantNT rfl g112) rfl rfl ?_
          refine WL.val rfl rfl rfl (Run.pickF rfl rfl g112 rfl) ?_
          exact WL.fin J113 hs111 rfl (andF g112) ⟨rfl, rfl, rfl, rfl, rfl, rfl, rfl, rfl, rfl, rfl, rfl, rfl, rfl, rfl, rfl, rfl, rfl, rfl, rfl, rfl, rfl, rfl, rfl, rfl, rfl, rfl, rfl, rfl, rfl, rfl, rfl, rfl, rfl, rfl, rfl, rfl, rfl, rfl, rfl, rfl, rfl, rfl, rfl, rfl, rfl, rfl, rfl, rfl, rfl, rfl, rfl, rfl, rfl, rfl, rfl, rfl, trivial⟩
        · intro whs115 hs115
          refine WL.val rfl rfl rfl (Run.move rfl rfl) ?_
          apply WL.meetAnd 3 98 101 [(0, _), (2, _), (3, _), (4, _), (6, _), (7, _), (8, _), (13, _), (14, _), (15, _), (16, _), (17, _), (18, _), (19, _), (20, _), (21, _), (22, _), (23, _), (24, _), (25, _), (26, _), (27, _), (28, _), (29, _), (30, _), (31, _), (32, _), (33, _), (34, _), (35, _), (36, _), (37, _), (38, _), (39, _), (40, _), (41, _), (69, _), (70, _), (71, _), (72, _), (73, _), (74, _), (75, _), (76, _), (77, _), (78, _), (79, _), (80, _), (81, _), (82, _), (83, _), (84, _), (85, _), (86, _), (87, _), (88, _)] rfl hs115
          · intro g116 J117
            have qg116 := g116
            try simp only [decide_eq_true_eq, decide_eq_false_iff_not, Bool.not_eq_true', Bool.not_eq_false'] at qg116
            refine WL.val (wantT rfl g116) rfl rfl (Run.move rfl rfl) ?_
            refine WL.call (wantT rfl g116) rfl rfl (Run.call Try.call20 rfl rfl rfl) (c_impl_TreeOk _ _ _ _ _ (SlF.ofOwn ho14 (fun p_ hp_ => (hs115.own p_ (List.mem_append_right _ (List.mem_append_right _ (List.mem_append_right _ (List.mem_append_right _ (List.mem_append_right _ (List.mem_append_left _ hp_))))))).1)) ?_) ?_
            · first | assumption | rfl | omega
            rintro _ whs118 ⟨rfl, hs118⟩
            replace hs118 := hs115.call0 hs118
            refine ⟨_, rfl, ?_⟩
            refine WL.val rfl rfl rfl (Run.pickT rfl rfl g116 rfl) ?_
            exact WL.fin J117 hs118 rfl (andT g116) ⟨rfl, rfl, rfl, rfl, rfl, rfl, rfl, rfl, rfl, rfl, rfl, rfl, rfl, rfl, rfl, rfl, rfl, rfl, rfl, rfl, rfl, rfl, rfl, rfl, rfl, rfl, rfl, rfl, rfl, rfl, rfl, rfl, rfl, rfl, rfl, rfl, rfl, rfl, rfl, rfl, rfl, rfl, rfl, rfl, rfl, rfl, rfl, rfl, rfl, rfl, rfl, rfl, rfl, rfl, rfl, rfl, trivial⟩
          · intro g116 J117
            refine WL.skip (wantNT rfl g116) rfl rfl ?_
            refine WL.skip (wantNT rfl g116) rfl rfl ?_
            refine WL.val rfl rfl rfl (Run.pickF rfl rfl g116 rfl) ?_
            exact WL.fin J117 hs115 rfl (andF g116) ⟨rfl, rfl, rfl, rfl, rfl, rfl, rfl, rfl, rfl, rfl, rfl, rfl, rfl, rfl, rfl, rfl, rfl, rfl, rfl, rfl, rfl, rfl, rfl, rfl, rfl, rfl, rfl, rfl, rfl, rfl, rfl, rfl, rfl, rfl, rfl, rfl, rfl, rfl, rfl, rfl, rfl, rfl, rfl, rfl, rfl, rfl, rfl, rfl, rfl, rfl, rfl, rfl, rfl, rfl, rfl, rfl, trivial⟩
          · intro whs119 hs119
            refine WL.val rfl rfl rfl (Run.assign rfl rfl) ?_
            refine WL.nil ?_
            refine tkN ?_
            refine hK108 _ _ ?_
            clear hK108
            refine WC.ret ?_
            refine retV1 rfl (resV.tmp rfl) ?_
            refine ⟨congrArg Ending.returned (congrArg Value.bool ?_), hs119.nil⟩
            simp [hsw0, hsw1, hsw2, hto]
end Go.Proofs.Ytghcicggamkjgaa
