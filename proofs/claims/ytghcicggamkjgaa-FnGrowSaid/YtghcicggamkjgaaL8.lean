/- Walks of Go functions, printed by a program (wip/gen). -/
import Derived.Test.YtghcicggamkjgaaU3
namespace Go.Proofs.Ytghcicggamkjgaa
open Go Go.RowKit
set_option linter.unusedVariables false
set_option linter.unusedSimpArgs false
set_option maxHeartbeats 4000000 in
theorem c_laws_FnAround (A_code : Option Addr) (n_code c_code : Nat) (code : List UInt8) (w : World) (f_code : SlF encB w A_code n_code code) (h1 : n_code ≤ 9223372036854775807) :
    Calls Try.prog 12 #[.slice A_code n_code c_code] w fun e w' => e = .returned (.bool true) ∧ St w [] [] w' := by
  have hl := f_code.len
  refine enter (vs := [.slice A_code n_code c_code]) 134 Try.func12 rfl Try.ntmps12 rfl rfl ?_
  have hs1 := St.init w
  refine WC.seq (fun K2 hK2 => ?_)
  refine WC.region ?_
  refine WL.val rfl rfl rfl (Run.assign rfl rfl) ?_
  refine WL.nil ?_
  refine tkN ?_
  refine hK2 _ _ ?_
  clear hK2
  refine WC.seq (fun K3 hK3 => ?_)
  refine WC.seq (fun K4 hK4 => ?_)
  refine WC.region ?_
  refine WL.val rfl rfl rfl (Run.move rfl rfl) ?_
  refine WL.val rfl rfl rfl (Run.lenSl Try.runUnderlying45 rfl rfl) ?_
  refine WL.val rfl rfl rfl (Run.gtr rfl rfl rfl) ?_
  refine WL.nil ?_
  refine tkN ?_
  refine hK4 _ _ ?_
  clear hK4
  refine WC.cond rfl (fun h5 => ?_) (fun h5 => ?_)
  · have qh5 := h5
    try simp only [decide_eq_true_eq, decide_eq_false_iff_not, Bool.not_eq_true', Bool.not_eq_false', Bool.and_eq_true, Bool.or_eq_false_iff, within_iff, within_not] at qh5
    refine WC.seq (fun K6 hK6 => ?_)
    refine WC.region ?_
    refine WL.val rfl rfl rfl (Run.assign rfl rfl) ?_
    refine WL.nil ?_
    refine tkN ?_
    refine hK6 _ _ ?_
    clear hK6
    refine WC.ret ?_
    refine tkR ?_
    clear hK3
    refine retV1 rfl (resV.tmp rfl) ?_
    refine ⟨congrArg Ending.returned (congrArg Value.bool ?_), hs1.nil⟩
    rfl
  · have qh5 := h5
    try simp only [decide_eq_true_eq, decide_eq_false_iff_not, Bool.not_eq_true', Bool.not_eq_false', Bool.and_eq_true, Bool.or_eq_false_iff, within_iff, within_not] at qh5
    refine WC.skip ?_
    refine tkN ?_
    refine hK3 _ _ ?_
    clear hK3
    refine WC.seq (fun K7 hK7 => ?_)
    refine WC.region ?_
    refine WL.val rfl rfl rfl (Run.move rfl rfl) ?_
    refine WL.call rfl rfl rfl (Run.call Try.call38 rfl rfl rfl) (c_spec_MakeTree _ _ _ _ _ (SlF.st0 f_code hs1) ?_) ?_
    · first | assumption | rfl | omega
    rintro _ whs8 ⟨t9, p10, A11, c12, L113, rfl, hs8, ho14, hm15, hp16, hl17, hz18⟩
    replace hs8 := hs1.callF hs8
    refine ⟨_, rfl, ?_⟩
    refine WL.val rfl rfl rfl (Run.move rfl rfl) ?_
    refine WL.val rfl rfl rfl (Run.extract rfl rfl rfl) ?_
    have hfa := facts_of (hm15).1
    have hto := (hm15).ok
    have hlv := hfa.lv
    have hlvl := congrArg List.length hfa.lv
    have hfn := hfa.nodes
    have hfp := hfa.pos
    have hm_ := hm15
    have hp_ := hp16
    have hl7_ := hl17
    have hpat := atL_some hp_
    have hpla := placeAt_iff.2 ⟨hfa.ok, hpat⟩
    obtain ⟨i0, hi0, hi1⟩ : ∃ i0, i0 < (panesL t9).length ∧ iat (panesL t9) i0 = p10 := by
      obtain ⟨j, hj, e_⟩ := List.mem_iff_getElem.1 hp_
      exact ⟨j, hj, by rw [iat_getElem hj]; exact e_⟩
    refine WL.val rfl rfl rfl (Run.extract rfl rfl rfl) ?_
    refine WL.val rfl rfl rfl (Run.assign rfl rfl) ?_
    refine WL.val rfl rfl rfl (Run.assign rfl rfl) ?_
    refine WL.nil ?_
    refine tkN ?_
    refine hK7 _ _ ?_
    clear hK7
    refine WC.seq (fun K19 hK19 => ?_)
    refine WC.region ?_
    refine WL.val rfl rfl rfl (Run.move rfl rfl) ?_
    refine WL.call rfl rfl rfl (Run.call Try.call25 rfl rfl rfl) (c_impl_Leaves _ _ _ _ _ (SlF.ofOwn ho14 (fun p_ hp_ => (hs8.own p_ (List.mem_append_left _ hp_)).1)) ?_) ?_
    · first | assumption | rfl | omega
    rintro _ whs20 ⟨A21, c22, L123, rfl, hs20, ho24⟩
    replace hs20 := hs8.callF hs20
    refine ⟨_, rfl, ?_⟩
    refine WL.val rfl rfl rfl (Run.assign rfl rfl) ?_
    refine WL.nil ?_
    refine tkN ?_
    refine hK19 _ _ ?_
    clear hK19
    refine WC.seq (fun K25 hK25 => ?_)
    refine WC.region ?_
    refine WL.val rfl rfl rfl (Run.move rfl rfl) ?_
    refine WL.val rfl rfl rfl (Run.assign rfl rfl) ?_
    refine WL.nil ?_
    refine tkN ?_
    refine hK25 _ _ ?_
    clear hK25
    refine WC.seq (fun K26 hK26 => ?_)
    refine WC.seq (fun K27 hK27 => ?_)
    refine WC.region ?_
    refine WL.val rfl rfl rfl (Run.move rfl rfl) ?_
    refine WL.val rfl rfl rfl (Run.lenSl Try.runUnderlying31 rfl rfl) ?_
    refine WL.val rfl rfl rfl (Run.move rfl rfl) ?_
    refine WL.nil ?_
    refine tkN ?_
    refine hK27 _ _ ?_
    clear hK27
    refine WC.block ?_
    refine WC.loopS [(0, _), (2, _), (3, _), (4, _), (5, _), (15, _), (16, _), (17, _), (18, _), (19, _), (20, _), (21, _), (22, _), (23, _), (24, _), (25, _), (26, _), (27, _)] ⟨rfl, rfl, rfl, rfl, rfl, rfl, rfl, rfl, rfl, rfl, rfl, rfl, rfl, rfl, rfl, rfl, rfl, rfl, trivial⟩ hs20 (fun k_ f w' => ∃ (j : Nat) (q : Int), k_ = (panesL t9).length - j ∧ (j ≤ (panesL t9).length) ∧ (q = iat (panesL t9) ((i0 + j) % (panesL t9).length)) ∧ Sub [(28, .int .i64 j), (6, .int .i64 q)] f) ((fun (j : Nat) (q : Int) => (panesL t9).length - j) (0) (p10)) ?_ ?_
    · refine ⟨0, p10, rfl, ?_, ?_, ⟨rfl, rfl, trivial⟩⟩
      · exact Nat.zero_le _
      · rw [Nat.add_zero, Nat.mod_eq_of_lt hi0]; exact hi1.symm
    · clear hs20
      rintro _ f w ⟨j, q, rfl, p0, p1, hG⟩ hF hs28
      refine WC.sub _ (hG.app hF) ?_
      clear hG hF
      refine WC.seq (fun K29 hK29 => ?_)
      refine WC.region ?_
      refine WL.val rfl rfl rfl (Run.lss rfl rfl rfl) ?_
      refine WL.nil ?_
      refine tkN ?_
      refine hK29 _ _ ?_
      clear hK29
      refine WC.seq (fun K30 hK30 => ?_)
      refine WC.cond rfl (fun h31 => ?_) (fun h31 => ?_)
      · have qh31 := h31
        try simp only [decide_eq_true_eq, decide_eq_false_iff_not, Bool.not_eq_true', Bool.not_eq_false', Bool.and_eq_true, Bool.or_eq_false_iff, within_iff, within_not] at qh31
        refine WC.skip ?_
        refine tkN ?_
        refine hK30 _ _ ?_
        clear hK30
        refine WC.seq (fun K32 hK32 => ?_)
        refine WC.block ?_
        refine WC.region ?_
        refine WL.val rfl rfl rfl (Run.move rfl rfl) ?_
        refine WL.val rfl rfl rfl (Run.move rfl rfl) ?_
        refine WL.call rfl rfl rfl (Run.call Try.call23 rfl rfl rfl) (c_impl_After _ _ _ _ _ _ (SlF.ofOwn ho14 (fun p_ hp_ => (hs28.own p_ (List.mem_append_right _ (List.mem_append_left _ hp_))).1)) ?_) ?_
        · first | assumption | rfl | omega
        rintro _ whs33 ⟨rfl, hs33⟩
        replace hs33 := hs28.call0 hs33
        refine ⟨_, rfl, ?_⟩
        refine WL.val rfl rfl rfl (Run.assign rfl rfl) ?_
        refine WL.nil ?_
        refine ibN ?_
        refine tkN ?_
        refine hK32 _ _ ?_
        clear hK32
        refine WC.region ?_
        refine WL.val rfl rfl rfl (Run.add rfl rfl rfl ?_) ?_
        · constructor <;> omega
        refine WL.val rfl rfl rfl (Run.move rfl rfl) ?_
        refine WL.nil ?_
        refine tkN ?_
        refine ⟨⟨rfl, rfl, rfl, rfl, rfl, rfl, rfl, rfl, rfl, rfl, rfl, rfl, rfl, rfl, rfl, rfl, rfl, rfl, trivial⟩, hs33, _, ?_, j + 1, _, rfl, ?_, ?_, ⟨rfl, rfl, trivial⟩⟩
        · omega
        · omega
        · rw [p1, after_at hto (Nat.mod_lt _ hfp), Nat.mod_add_mod]; rfl
      · have qh31 := h31
        try simp only [decide_eq_true_eq, decide_eq_false_iff_not, Bool.not_eq_true', Bool.not_eq_false', Bool.and_eq_true, Bool.or_eq_false_iff, within_iff, within_not] at qh31
        have hq : p10 = q := by rw [p1, show j = (panesL t9).length by omega, Nat.add_mod_right, Nat.mod_eq_of_lt hi0]; exact hi1.symm
        subst hq
        have hbo := placeR_bound (t := t9) (w := 24) (h := 12) (p := p10)
        have h555 := after_none hto (p := 555) (fun h_ => by have := hm_.2 555 h_; omega)
        have hbR := beside_facts (p := p10) (side := 82) hfa.ok
        have hbD := beside_facts (p := p10) (side := 68) hfa.ok
        have hbX := beside_none (t := t9) (p := p10) (side := 120) (w := 24) (h := 12) (by decide)
        have hw := placeR_within hpla
        refine WC.exit ?_
        refine tkE ?_
        refine tkE ?_
        refine ibE ?_
        refine tkN ?_
        refine hK26 _ _ ?_
        clear hK26
        refine WC.seq (fun K34 hK34 => ?_)
        refine WC.region ?_
        refine WL.val rfl rfl rfl (Run.move rfl rfl) ?_
        refine WL.val rfl rfl rfl (Run.move rfl rfl) ?_
        refine WL.call rfl rfl rfl (Run.call Try.call36 rfl rfl rfl) (c_impl_PlaceOf _ _ _ _ _ _ _ _ (SlF.ofOwn ho14 (fun p_ hp_ => (hs28.own p_ (List.mem_append_right _ (List.mem_append_left _ hp_))).1)) ?_) ?_
        · first | assumption | rfl | omega
        rintro _ whs35 ⟨rfl, hs35⟩
        replace hs35 := hs28.call0 hs35
        refine ⟨_, rfl, ?_⟩
        refine WL.val rfl rfl rfl (Run.move rfl rfl) ?_
        refine WL.val rfl rfl rfl (Run.extract rfl rfl rfl) ?_
        refine WL.val rfl rfl rfl (Run.extract rfl rfl rfl) ?_
        refine WL.alloc hs35 Try.zeroValue40 rfl rfl rfl rfl rfl (fun b36 whs37 hs37 => ?_)
        refine WL.storeA hs37 0 Try.sizeOf40 rfl rfl rfl rfl rfl rfl rfl rfl rfl (Nat.le_of_ble_eq_true rfl) (.inl (Nat.le_of_ble_eq_true rfl)) (fun whs38 hs38 => ?_)
        refine WL.val rfl rfl rfl (Run.assign rfl rfl) ?_
        refine WL.nil ?_
        refine tkN ?_
        refine hK34 _ _ ?_
        clear hK34
        refine WC.seq (fun K39 hK39 => ?_)
        refine WC.seq (fun K40 hK40 => ?_)
        refine WC.region ?_
        refine WL.val rfl rfl rfl (Run.move rfl rfl) ?_
        refine WL.val rfl rfl rfl (Run.move rfl rfl) ?_
        refine WL.val rfl rfl rfl (Run.neq rfl rfl rfl) ?_
        refine WL.val rfl rfl rfl (Run.move rfl rfl) ?_
        apply WL.meetOr 3 43 46 [(0, _), (2, _), (3, _), (4, _), (5, _), (6, _), (7, _), (8, _), (15, _), (16, _), (17, _), (18, _), (19, _), (20, _), (21, _), (22, _), (23, _), (24, _), (25, _), (26, _), (27, _), (28, _), (29, _), (34, _), (35, _), (36, _), (37, _), (38, _), (39, _)] rfl hs38
        · intro g41 J42
          have qg41 := g41
          try simp only [decide_eq_true_eq, decide_eq_false_iff_not, Bool.not_eq_true', Bool.not_eq_false'] at qg41
          refine WL.val (wantF rfl g41) rfl rfl (Run.move rfl rfl) ?_
          refine WL.val (wantF rfl g41) rfl rfl (Run.not rfl rfl) ?_
          refine WL.val rfl rfl rfl (Run.pickF rfl rfl g41 rfl) ?_
          exact WL.fin J42 hs38 rfl (orF g41) ⟨rfl, rfl, rfl, rfl, rfl, rfl, rfl, rfl, rfl, rfl, rfl, rfl, rfl, rfl, rfl, rfl, rfl, rfl, rfl, rfl, rfl, rfl, rfl, rfl, rfl, rfl, rfl, rfl, rfl, trivial⟩
        · intro g41 J42
          refine WL.skip (wantNF rfl g41) rfl rfl ?_
          refine WL.skip (wantNF rfl g41) rfl rfl ?_
          refine WL.val rfl rfl rfl (Run.pickT rfl rfl g41 rfl) ?_
          exact WL.fin J42 hs38 rfl (orT g41) ⟨rfl, rfl, rfl, rfl, rfl, rfl, rfl, rfl, rfl, rfl, rfl, rfl, rfl, rfl, rfl, rfl, rfl, rfl, rfl, rfl, rfl, rfl, rfl, rfl, rfl, rfl, rfl, rfl, rfl, trivial⟩
        · intro whs43 hs43
          refine WL.val rfl rfl rfl (Run.move rfl rfl) ?_
          apply WL.meetOr 4 47 51 [(0, _), (2, _), (3, _), (4, _), (5, _), (6, _), (7, _), (8, _), (15, _), (16, _), (17, _), (18, _), (19, _), (20, _), (21, _), (22, _), (23, _), (24, _), (25, _), (26, _), (27, _), (28, _), (29, _), (34, _), (35, _), (36, _), (37, _), (38, _), (39, _)] rfl hs43
          · intro g44 J45
            have qg44 := g44
            try simp only [decide_eq_true_eq, decide_eq_false_iff_not, Bool.not_eq_true', Bool.not_eq_false'] at qg44
            refine WL.val (wantF rfl g44) rfl rfl (Run.move rfl rfl) ?_
            refine WL.call (wantF rfl g44) rfl rfl (Run.call Try.call23 rfl rfl rfl) (c_impl_After _ _ _ _ _ _ (SlF.ofOwn ho14 (fun p_ hp_ => (hs43.own p_ (List.mem_append_right [_] (List.mem_append_right _ (List.mem_append_left _ hp_)))).1)) ?_) ?_
            · first | assumption | rfl | omega
            rintro _ whs46 ⟨rfl, hs46⟩
            replace hs46 := hs43.call0 hs46
            refine ⟨_, rfl, ?_⟩
            refine WL.val (wantF rfl g44) rfl rfl (Run.neq rfl rfl rfl) ?_
            refine WL.val rfl rfl rfl (Run.pickF rfl rfl g44 rfl) ?_
            exact WL.fin J45 hs46 rfl (orF g44) ⟨rfl, rfl, rfl, rfl, rfl, rfl, rfl, rfl, rfl, rfl, rfl, rfl, rfl, rfl, rfl, rfl, rfl, rfl, rfl, rfl, rfl, rfl, rfl, rfl, rfl, rfl, rfl, rfl, rfl, trivial⟩
          · intro g44 J45
            refine WL.skip (wantNF rfl g44) rfl rfl ?_
            refine WL.skip (wantNF rfl g44) rfl rfl ?_
            refine WL.skip (wantNF rfl g44) rfl rfl ?_
            refine WL.val rfl rfl rfl (Run.pickT rfl rfl g44 rfl) ?_
            exact WL.fin J45 hs43 rfl (orT g44) ⟨rfl, rfl, rfl, rfl, rfl, rfl, rfl, rfl, rfl, rfl, rfl, rfl, rfl, rfl, rfl, rfl, rfl, rfl, rfl, rfl, rfl, rfl, rfl, rfl, rfl, rfl, rfl, rfl, rfl, trivial⟩
          · intro whs47 hs47
            refine WL.nil ?_
            refine tkN ?_
            refine hK40 _ _ ?_
            clear hK40
            refine WC.condF rfl (by simp [h555, hpla]) ?_
            refine WC.skip ?_
            refine tkN ?_
            refine hK39 _ _ ?_
            clear hK39
            refine WC.seq (fun K49 hK49 => ?_)
            refine WC.region ?_
            refine WL.val rfl rfl rfl (Run.move rfl rfl) ?_
            refine WL.val rfl rfl rfl (Run.move rfl rfl) ?_
            refine WL.call rfl rfl rfl (Run.call Try.call41 rfl rfl rfl) (c_impl_Beside _ _ _ _ _ _ _ _ _ (SlF.ofOwn ho14 (fun p_ hp_ => (hs47.own p_ (List.mem_append_right [_] (List.mem_append_right _ (List.mem_append_left _ hp_)))).1)) ?_) ?_
            · first | assumption | rfl | omega
            rintro _ whs50 ⟨rfl, hs50⟩
            replace hs50 := hs47.call0 hs50
            refine ⟨_, rfl, ?_⟩
            refine WL.val rfl rfl rfl (Run.assign rfl rfl) ?_
            refine WL.nil ?_
            refine tkN ?_
            refine hK49 _ _ ?_
            clear hK49
            refine WC.seq (fun K51 hK51 => ?_)
            refine WC.region ?_
            refine WL.val rfl rfl rfl (Run.move rfl rfl) ?_
            refine WL.val rfl rfl rfl (Run.move rfl rfl) ?_
            refine WL.call rfl rfl rfl (Run.call Try.call41 rfl rfl rfl) (c_impl_Beside _ _ _ _ _ _ _ _ _ (SlF.ofOwn ho14 (fun p_ hp_ => (hs50.own p_ (List.mem_append_right [_] (List.mem_append_right _ (List.mem_append_left _ hp_)))).1)) ?_) ?_
            · first | assumption | rfl | omega
            rintro _ whs52 ⟨rfl, hs52⟩
            replace hs52 := hs50.call0 hs52
            refine ⟨_, rfl, ?_⟩
            refine WL.val rfl rfl rfl (Run.assign rfl rfl) ?_
            refine WL.nil ?_
            refine tkN ?_
            refine hK51 _ _ ?_
            clear hK51
            refine WC.seq (fun K53 hK53 => ?_)
            refine WC.region ?_
            refine WL.val rfl rfl rfl (Run.move rfl rfl) ?_
            refine WL.val rfl rfl rfl (Run.move rfl rfl) ?_
            refine WL.call rfl rfl rfl (Run.call Try.call36 rfl rfl rfl) (c_impl_PlaceOf _ _ _ _ _ _ _ _ (SlF.ofOwn ho14 (fun p_ hp_ => (hs52.own p_ (List.mem_append_right [_] (List.mem_append_right _ (List.mem_append_left _ hp_)))).1)) ?_) ?_
            · first | assumption | rfl | omega
            rintro _ whs54 ⟨rfl, hs54⟩
            replace hs54 := hs52.call0 hs54
            refine ⟨_, rfl, ?_⟩
            refine WL.val rfl rfl rfl (Run.move rfl rfl) ?_
            refine WL.val rfl rfl rfl (Run.extract rfl rfl rfl) ?_
            refine WL.val rfl rfl rfl (Run.extract rfl rfl rfl) ?_
            refine WL.alloc hs54 Try.zeroValue40 rfl rfl rfl rfl rfl (fun b55 whs56 hs56 => ?_)
            refine WL.storeA hs56 0 Try.sizeOf40 rfl rfl rfl rfl rfl rfl rfl rfl rfl (Nat.le_of_ble_eq_true rfl) (.inl (Nat.le_of_ble_eq_true rfl)) (fun whs57 hs57 => ?_)
            refine WL.val rfl rfl rfl (Run.assign rfl rfl) ?_
            refine WL.nil ?_
            refine tkN ?_
            refine hK53 _ _ ?_
            clear hK53
            refine WC.seq (fun K58 hK58 => ?_)
            refine WC.region ?_
            refine WL.val rfl rfl rfl (Run.move rfl rfl) ?_
            refine WL.val rfl rfl rfl (Run.move rfl rfl) ?_
            refine WL.call rfl rfl rfl (Run.call Try.call36 rfl rfl rfl) (c_impl_PlaceOf _ _ _ _ _ _ _ _ (SlF.ofOwn ho14 (fun p_ hp_ => (hs57.own p_ (List.mem_append_right [_, _] (List.mem_append_right _ (List.mem_append_left _ hp_)))).1)) ?_) ?_
            · first | assumption | rfl | omega
            rintro _ whs59 ⟨rfl, hs59⟩
            replace hs59 := hs57.call0 hs59
            refine ⟨_, rfl, ?_⟩
            refine WL.val rfl rfl rfl (Run.move rfl rfl) ?_
            refine WL.val rfl rfl rfl (Run.extract rfl rfl rfl) ?_
            refine WL.val rfl rfl rfl (Run.extract rfl rfl rfl) ?_
            refine WL.alloc hs59 Try.zeroValue40 rfl rfl rfl rfl rfl (fun b60 whs61 hs61 => ?_)
            refine WL.storeA hs61 0 Try.sizeOf40 rfl rfl rfl rfl rfl rfl rfl rfl rfl (Nat.le_of_ble_eq_true rfl) (.inl (Nat.le_of_ble_eq_true rfl)) (fun whs62 hs62 => ?_)
            refine WL.val rfl rfl rfl (Run.assign rfl rfl) ?_
            refine WL.nil ?_
            refine tkN ?_
            refine hK58 _ _ ?_
            clear hK58
            refine WC.seq (fun K63 hK63 => ?_)
            refine WC.seq (fun K64 hK64 => ?_)
            refine WC.region ?_
            refine WL.val rfl rfl rfl (Run.move rfl rfl) ?_
            refine WL.val rfl rfl rfl (Run.gtr rfl rfl rfl) ?_
            refine WL.val rfl rfl rfl (Run.move rfl rfl) ?_
            apply WL.meetAnd 14 72 86 [(0, _), (2, _), (3, _), (4, _), (5, _), (6, _), (7, _), (8, _), (9, _), (10, _), (11, _), (12, _), (13, _), (14, _), (15, _), (16, _), (17, _), (18, _), (19, _), (20, _), (21, _), (22, _), (23, _), (24, _), (25, _), (26, _), (27, _), (28, _), (29, _), (34, _), (35, _), (36, _), (37, _), (38, _), (39, _), (51, _), (52, _), (53, _), (54, _), (55, _), (56, _), (57, _), (58, _), (59, _), (60, _), (61, _), (62, _), (63, _), (64, _), (65, _), (66, _), (67, _), (68, _), (69, _)] rfl hs62
            · intro g65 J66
              have qg65 := g65
              try simp only [decide_eq_true_eq, decide_eq_false_iff_not, Bool.not_eq_true', Bool.not_eq_false'] at qg65
              refine WL.val (wantT rfl g65) rfl rfl (Run.move rfl rfl) ?_
              refine WL.val (wantT rfl g65) rfl rfl (Run.not rfl rfl) ?_
              refine WL.val (wantT rfl g65) rfl rfl (Run.move rfl rfl) ?_
              apply WL.meetOr 10 75 85 [(0, _), (2, _), (3, _), (4, _), (5, _), (6, _), (7, _), (8, _), (9, _), (10, _), (11, _), (12, _), (13, _), (14, _), (15, _), (16, _), (17, _), (18, _), (19, _), (20, _), (21, _), (22, _), (23, _), (24, _), (25, _), (26, _), (27, _), (28, _), (29, _), (34, _), (35, _), (36, _), (37, _), (38, _), (39, _), (51, _), (52, _), (53, _), (54, _), (55, _), (56, _), (57, _), (58, _), (59, _), (60, _), (61, _), (62, _), (63, _), (64, _), (65, _), (66, _), (67, _), (68, _), (69, _), (72, _)] rfl hs62
              · intro g67 J68
                have qg67 := g67
                try simp only [decide_eq_true_eq, decide_eq_false_iff_not, Bool.not_eq_true', Bool.not_eq_false'] at qg67
                refine WL.val (wantF rfl g67) rfl rfl (Run.field Try.runUnderlying40 rfl rfl rfl Try.sizeOf3 rfl) ?_
                refine WL.val (wantF rfl g67) rfl rfl (Run.loadL hs62 1 Try.isAgg3 rfl rfl rfl rfl) ?_
                refine WL.val (wantF rfl g67) rfl rfl (Run.field Try.runUnderlying40 rfl rfl rfl Try.sizeOf3 rfl) ?_
                refine WL.val (wantF rfl g67) rfl rfl (Run.loadL hs62 2 Try.isAgg3 rfl rfl rfl rfl) ?_
                refine WL.val (wantF rfl g67) rfl rfl (Run.field Try.runUnderlying40 rfl rfl rfl Try.sizeOf3 rfl) ?_
                refine WL.val (wantF rfl g67) rfl rfl (Run.loadL hs62 2 Try.isAgg3 rfl rfl rfl rfl) ?_
                refine WL.val (wantF rfl g67) rfl rfl (Run.add rfl rfl rfl ?_) ?_
                · constructor <;> omega
                refine WL.val (wantF rfl g67) rfl rfl (Run.add rfl rfl rfl ?_) ?_
                · constructor <;> omega
                refine WL.val (wantF rfl g67) rfl rfl (Run.neq rfl rfl rfl) ?_
                refine WL.val (wantT rfl g65) rfl rfl (Run.pickF rfl rfl g67 rfl) ?_
                exact WL.fin J68 hs62 rfl (orF g67) ⟨rfl, rfl, rfl, rfl, rfl, rfl, rfl, rfl, rfl, rfl, rfl, rfl, rfl, rfl, rfl, rfl, rfl, rfl, rfl, rfl, rfl, rfl, rfl, rfl, rfl, rfl, rfl, rfl, rfl, rfl, rfl, rfl, rfl, rfl, rfl, rfl, rfl, rfl, rfl, rfl, rfl, rfl, rfl, rfl, rfl, rfl, rfl, rfl, rfl, rfl, rfl, rfl, rfl, rfl, rfl, trivial⟩
              · intro g67 J68
                refine WL.skip (wantNF rfl g67) rfl rfl ?_
                refine WL.skip (wantNF rfl g67) rfl rfl ?_
                refine WL.skip (wantNF rfl g67) rfl rfl ?_
                refine WL.skip (wantNF rfl g67) rfl rfl ?_
                refine WL.skip (wantNF rfl g67) rfl rfl ?_
                refine WL.skip (wantNF rfl g67) rfl rfl ?_
                refine WL.skip (wantNF rfl g67) rfl rfl ?_
                refine WL.skip (wantNF rfl g67) rfl rfl ?_
                refine WL.skip (wantNF rfl g67) rfl rfl ?_
                refine WL.val (wantT rfl g65) rfl rfl (Run.pickT rfl rfl g67 rfl) ?_
                exact WL.fin J68 hs62 rfl (orT g67) ⟨rfl, rfl, rfl, rfl, rfl, rfl, rfl, rfl, rfl, rfl, rfl, rfl, rfl, rfl, rfl, rfl, rfl, rfl, rfl, rfl, rfl, rfl, rfl, rfl, rfl, rfl, rfl, rfl, rfl, rfl, rfl, rfl, rfl, rfl, rfl, rfl, rfl, rfl, rfl, rfl, rfl, rfl, rfl, rfl, rfl, rfl, rfl, rfl, rfl, rfl, rfl, rfl, rfl, rfl, rfl, trivial⟩
              · intro whs69 hs69
                refine WL.val rfl rfl rfl (Run.pickT rfl rfl g65 rfl) ?_
                exact WL.fin J66 hs69 rfl (andT g65) ⟨rfl, rfl, rfl, rfl, rfl, rfl, rfl, rfl, rfl, rfl, rfl, rfl, rfl, rfl, rfl, rfl, rfl, rfl, rfl, rfl, rfl, rfl, rfl, rfl, rfl, rfl, rfl, rfl, rfl, rfl, rfl, rfl, rfl, rfl, rfl, rfl, rfl, rfl, rfl, rfl, rfl, rfl, rfl, rfl, rfl, rfl, rfl, rfl, rfl, rfl, rfl, rfl, rfl, rfl, trivial⟩
            · intro g65 J66
              refine WL.skip (wantNT rfl g65) rfl rfl ?_
              refine WL.skip (wantNT rfl g65) rfl rfl ?_
              refine WL.skip (wantNT rfl g65) rfl rfl ?_
              refine WL.skip rfl rfl rfl ?_
              refine WL.skip rfl rfl rfl ?_
              refine WL.skip rfl rfl rfl ?_
              refine WL.skip rfl rfl rfl ?_
              refine WL.skip rfl rfl rfl ?_
              refine WL.skip rfl rfl rfl ?_
              refine WL.skip rfl rfl rfl ?_
              refine WL.skip rfl rfl rfl ?_
              refine WL.skip rfl rfl rfl ?_
              refine WL.skip (wantNT rfl g65) rfl rfl ?_
              refine WL.val rfl rfl rfl (Run.pickF rfl rfl g65 rfl) ?_
              exact WL.fin J66 hs62 rfl (andF g65) ⟨rfl, rfl, rfl, rfl, rfl, rfl, rfl, rfl, rfl, rfl, rfl, rfl, rfl, rfl, rfl, rfl, rfl, rfl, rfl, rfl, rfl, rfl, rfl, rfl, rfl, rfl, rfl, rfl, rfl, rfl, rfl, rfl, rfl, rfl, rfl, rfl, rfl, rfl, rfl, rfl, rfl, rfl, rfl, rfl, rfl, rfl, rfl, rfl, rfl, rfl, rfl, rfl, rfl, rfl, trivial⟩
            · intro whs70 hs70
              refine WL.val rfl rfl rfl (Run.move rfl rfl) ?_
              apply WL.meetOr 18 87 105 [(0, _), (2, _), (3, _), (4, _), (5, _), (6, _), (7, _), (8, _), (9, _), (10, _), (11, _), (12, _), (13, _), (14, _), (15, _), (16, _), (17, _), (18, _), (19, _), (20, _), (21, _), (22, _), (23, _), (24, _), (25, _), (26, _), (27, _), (28, _), (29, _), (34, _), (35, _), (36, _), (37, _), (38, _), (39, _), (51, _), (52, _), (53, _), (54, _), (55, _), (56, _), (57, _), (58, _), (59, _), (60, _), (61, _), (62, _), (63, _), (64, _), (65, _), (66, _), (67, _), (68, _), (69, _)] rfl hs70
              · intro g71 J72
                have qg71 := g71
                try simp only [decide_eq_true_eq, decide_eq_false_iff_not, Bool.not_eq_true', Bool.not_eq_false'] at qg71
                refine WL.val (wantF rfl g71) rfl rfl (Run.move rfl rfl) ?_
                refine WL.val (wantF rfl g71) rfl rfl (Run.gtr rfl rfl rfl) ?_
                refine WL.val (wantF rfl g71) rfl rfl (Run.move rfl rfl) ?_
                apply WL.meetAnd 14 90 104 [(0, _), (2, _), (3, _), (4, _), (5, _), (6, _), (7, _), (8, _), (9, _), (10, _), (11, _), (12, _), (13, _), (14, _), (15, _), (16, _), (17, _), (18, _), (19, _), (20, _), (21, _), (22, _), (23, _), (24, _), (25, _), (26, _), (27, _), (28, _), (29, _), (34, _), (35, _), (36, _), (37, _), (38, _), (39, _), (51, _), (52, _), (53, _), (54, _), (55, _), (56, _), (57, _), (58, _), (59, _), (60, _), (61, _), (62, _), (63, _), (64, _), (65, _), (66, _), (67, _), (68, _), (69, _), (87, _)] rfl hs70
                · intro g73 J74
                  have qg73 := g73
                  try simp only [decide_eq_true_eq, decide_eq_false_iff_not, Bool.not_eq_true', Bool.not_eq_false'] at qg73
                  refine WL.val (wantT rfl g73) rfl rfl (Run.move rfl rfl) ?_
                  refine WL.val (wantT rfl g73) rfl rfl (Run.not rfl rfl) ?_
                  refine WL.val (wantT rfl g73) rfl rfl (Run.move rfl rfl) ?_
                  apply WL.meetOr 10 93 103 [(0, _), (2, _), (3, _), (4, _), (5, _), (6, _), (7, _), (8, _), (9, _), (10, _), (11, _), (12, _), (13, _), (14, _), (15, _), (16, _), (17, _), (18, _), (19, _), (20, _), (21, _), (22, _), (23, _), (24, _), (25, _), (26, _), (27, _), (28, _), (29, _), (34, _), (35, _), (36, _), (37, _), (38, _), (39, _), (51, _), (52, _), (53, _), (54, _), (55, _), (56, _), (57, _), (58, _), (59, _), (60, _), (61, _), (62, _), (63, _), (64, _), (65, _), (66, _), (67, _), (68, _), (69, _), (87, _), (90, _)] rfl hs70
                  · intro g75 J76
                    have qg75 := g75
                    try simp only [decide_eq_true_eq, decide_eq_false_iff_not, Bool.not_eq_true', Bool.not_eq_false'] at qg75
                    refine WL.val (wantF rfl g75) rfl rfl (Run.field Try.runUnderlying40 rfl rfl rfl Try.sizeOf3 rfl) ?_
                    refine WL.val (wantF rfl g75) rfl rfl (Run.loadL hs70 0 Try.isAgg3 rfl rfl rfl rfl) ?_
                    refine WL.val (wantF rfl g75) rfl rfl (Run.field Try.runUnderlying40 rfl rfl rfl Try.sizeOf3 rfl) ?_
                    refine WL.val (wantF rfl g75) rfl rfl (Run.loadL hs70 2 Try.isAgg3 rfl rfl rfl rfl) ?_
                    refine WL.val (wantF rfl g75) rfl rfl (Run.field Try.runUnderlying40 rfl rfl rfl Try.sizeOf3 rfl) ?_
                    refine WL.val (wantF rfl g75) rfl rfl (Run.loadL hs70 2 Try.isAgg3 rfl rfl rfl rfl) ?_
                    refine WL.val (wantF rfl g75) rfl rfl (Run.add rfl rfl rfl ?_) ?_
                    · constructor <;> omega
                    refine WL.val (wantF rfl g75) rfl rfl (Run.add rfl rfl rfl ?_) ?_
                    · constructor <;> omega
                    refine WL.val (wantF rfl g75) rfl rfl (Run.neq rfl rfl rfl) ?_
                    refine WL.val (wantT rfl g73) rfl rfl (Run.pickF rfl rfl g75 rfl) ?_
                    exact WL.fin J76 hs70 rfl (orF g75) ⟨rfl, rfl, rfl, rfl, rfl, rfl, rfl, rfl, rfl, rfl, rfl, rfl, rfl, rfl, rfl, rfl, rfl, rfl, rfl, rfl, rfl, rfl, rfl, rfl, rfl, rfl, rfl, rfl, rfl, rfl, rfl, rfl, rfl, rfl, rfl, rfl, rfl, rfl, rfl, rfl, rfl, rfl, rfl, rfl, rfl, rfl, rfl, rfl, rfl, rfl, rfl, rfl, rfl, rfl, rfl, rfl, trivial⟩
                  · intro g75 J76
                    refine WL.skip (wantNF rfl g75) rfl rfl ?_
                    refine WL.skip (wantNF rfl g75) rfl rfl ?_
                    refine WL.skip (wantNF rfl g75) rfl rfl ?_
                    refine WL.skip (wantNF rfl g75) rfl rfl ?_
                    refine WL.skip (wantNF rfl g75) rfl rfl ?_
                    refine WL.skip (wantNF rfl g75) rfl rfl ?_
                    refine WL.skip (wantNF rfl g75) rfl rfl ?_
                    refine WL.skip (wantNF rfl g75) rfl rfl ?_
                    refine WL.skip (wantNF rfl g75) rfl rfl ?_
                    refine WL.val (wantT rfl g73) rfl rfl (Run.pickT rfl rfl g75 rfl) ?_
                    exact WL.fin J76 hs70 rfl (orT g75) ⟨rfl, rfl, rfl, rfl, rfl, rfl, rfl, rfl, rfl, rfl, rfl, rfl, rfl, rfl, rfl, rfl, rfl, rfl, rfl, rfl, rfl, rfl, rfl, rfl, rfl, rfl, rfl, rfl, rfl, rfl, rfl, rfl, rfl, rfl, rfl, rfl, rfl, rfl, rfl, rfl, rfl, rfl, rfl, rfl, rfl, rfl, rfl, rfl, rfl, rfl, rfl, rfl, rfl, rfl, rfl, rfl, trivial⟩
                  · intro whs77 hs77
                    refine WL.val (wantF rfl g71) rfl rfl (Run.pickT rfl rfl g73 rfl) ?_
                    exact WL.fin J74 hs77 rfl (andT g73) ⟨rfl, rfl, rfl, rfl, rfl, rfl, rfl, rfl, rfl, rfl, rfl, rfl, rfl, rfl, rfl, rfl, rfl, rfl, rfl, rfl, rfl, rfl, rfl, rfl, rfl, rfl, rfl, rfl, rfl, rfl, rfl, rfl, rfl, rfl, rfl, rfl, rfl, rfl, rfl, rfl, rfl, rfl, rfl, rfl, rfl, rfl, rfl, rfl, rfl, rfl, rfl, rfl, rfl, rfl, rfl, trivial⟩
                · intro g73 J74
                  refine WL.skip (wantNT rfl g73) rfl rfl ?_
                  refine WL.skip (wantNT rfl g73) rfl rfl ?_
                  refine WL.skip (wantNT rfl g73) rfl rfl ?_
                  refine WL.skip rfl rfl rfl ?_
                  refine WL.skip rfl rfl rfl ?_
                  refine WL.skip rfl rfl rfl ?_
                  refine WL.skip rfl rfl rfl ?_
                  refine WL.skip rfl rfl rfl ?_
                  refine WL.skip rfl rfl rfl ?_
                  refine WL.skip rfl rfl rfl ?_
                  refine WL.skip rfl rfl rfl ?_
                  refine WL.skip rfl rfl rfl ?_
                  refine WL.skip (wantNT rfl g73) rfl rfl ?_
                  refine WL.val (wantF rfl g71) rfl rfl (Run.pickF rfl rfl g73 rfl) ?_
                  exact WL.fin J74 hs70 rfl (andF g73) ⟨rfl, rfl, rfl, rfl, rfl, rfl, rfl, rfl, rfl, rfl, rfl, rfl, rfl, rfl, rfl, rfl, rfl, rfl, rfl, rfl, rfl, rfl, rfl, rfl, rfl, rfl, rfl, rfl, rfl, rfl, rfl, rfl, rfl, rfl, rfl, rfl, rfl, rfl, rfl, rfl, rfl, rfl, rfl, rfl, rfl, rfl, rfl, rfl, rfl, rfl, rfl, rfl, rfl, rfl, rfl, trivial⟩
                · intro whs78 hs78
                  refine WL.val rfl rfl rfl (Run.pickF rfl rfl g71 rfl) ?_
                  exact WL.fin J72 hs78 rfl (orF g71) ⟨rfl, rfl, rfl, rfl, rfl, rfl, rfl, rfl, rfl, rfl, rfl, rfl, rfl, rfl, rfl, rfl, rfl, rfl, rfl, rfl, rfl, rfl, rfl, rfl, rfl, rfl, rfl, rfl, rfl, rfl, rfl, rfl, rfl, rfl, rfl, rfl, rfl, rfl, rfl, rfl, rfl, rfl, rfl, rfl, rfl, rfl, rfl, rfl, rfl, rfl, rfl, rfl, rfl, rfl, trivial⟩
              · intro g71 J72
                refine WL.skip (wantNF rfl g71) rfl rfl ?_
                refine WL.skip (wantNF rfl g71) rfl rfl ?_
                refine WL.skip (wantNF rfl g71) rfl rfl ?_
                refine WL.skip rfl rfl rfl ?_
                refine WL.skip rfl rfl rfl ?_
                refine WL.skip rfl rfl rfl ?_
                refine WL.skip rfl rfl rfl ?_
                refine WL.skip rfl rfl rfl ?_
                refine WL.skip rfl rfl rfl ?_
                refine WL.skip rfl rfl rfl ?_
                refine WL.skip rfl rfl rfl ?_
                refine WL.skip rfl rfl rfl ?_
                refine WL.skip rfl rfl rfl ?_
                refine WL.skip rfl rfl rfl ?_
                refine WL.skip rfl rfl rfl ?_
                refine WL.skip rfl rfl rfl ?_
                refine WL.skip (wantNF rfl g71) rfl rfl ?_
                refine WL.val rfl rfl rfl (Run.pickT rfl rfl g71 rfl) ?_
                exact WL.fin J72 hs70 rfl (orT g71) ⟨rfl, rfl, rfl, rfl, rfl, rfl, rfl, rfl, rfl, rfl, rfl, rfl, rfl, rfl, rfl, rfl, rfl, rfl, rfl, rfl, rfl, rfl, rfl, rfl, rfl, rfl, rfl, rfl, rfl, rfl, rfl, rfl, rfl, rfl, rfl, rfl, rfl, rfl, rfl, rfl, rfl, rfl, rfl, rfl, rfl, rfl, rfl, rfl, rfl, rfl, rfl, rfl, rfl, rfl, trivial⟩
              · intro whs79 hs79
                refine WL.nil ?_
                refine tkN ?_
                refine hK64 _ _ ?_
                clear hK64
                have hR : besideL t9 p10 82 24 12 ≠ 0 → 0 ≤ placeAt t9 24 12 (besideL t9 p10 82 24 12) ∧ (placeR t9 24 12 (besideL t9 p10 82 24 12)).X = (placeR t9 24 12 p10).X + (placeR t9 24 12 p10).W + 1 := fun h_ => by
                  obtain ⟨h1_, h2_, _⟩ := hbR h_
                  simp [besideB] at h1_
                  exact ⟨h2_, h1_.1.symm⟩
                have hD : besideL t9 p10 68 24 12 ≠ 0 → 0 ≤ placeAt t9 24 12 (besideL t9 p10 68 24 12) ∧ (placeR t9 24 12 (besideL t9 p10 68 24 12)).Y = (placeR t9 24 12 p10).Y + (placeR t9 24 12 p10).H + 1 := fun h_ => by
                  obtain ⟨h1_, h2_, _⟩ := hbD h_
                  simp [besideB] at h1_
                  exact ⟨h2_, h1_.1.symm⟩
                refine WC.condF rfl (by
                  rw [← Bool.not_eq_true]
                  simp only [Bool.or_eq_true, Bool.and_eq_true, decide_eq_true_eq, Bool.not_eq_true', decide_eq_false_iff_not]
                  omega) ?_
                refine WC.skip ?_
                refine tkN ?_
                refine hK63 _ _ ?_
                clear hK63
                refine WC.seq (fun K81 hK81 => ?_)
                refine WC.region ?_
                refine WL.val rfl rfl rfl (Run.field Try.runUnderlying40 rfl rfl rfl Try.sizeOf3 rfl) ?_
                refine WL.val rfl rfl rfl (Run.loadL hs79 2 Try.isAgg3 rfl rfl rfl rfl) ?_
                refine WL.val rfl rfl rfl (Run.field Try.runUnderlying40 rfl rfl rfl Try.sizeOf3 rfl) ?_
                refine WL.val rfl rfl rfl (Run.loadL hs79 2 Try.isAgg3 rfl rfl rfl rfl) ?_
                refine WL.val rfl rfl rfl (Run.add rfl rfl rfl ?_) ?_
                · constructor <;> omega
                refine WL.val rfl rfl rfl (Run.lss rfl rfl rfl) ?_
                refine WL.val rfl rfl rfl (Run.move rfl rfl) ?_
                apply WL.meetOr 3 112 115 [(0, _), (2, _), (3, _), (4, _), (5, _), (6, _), (7, _), (8, _), (9, _), (10, _), (11, _), (12, _), (13, _), (14, _), (15, _), (16, _), (17, _), (18, _), (19, _), (20, _), (21, _), (22, _), (23, _), (24, _), (25, _), (26, _), (27, _), (28, _), (29, _), (34, _), (35, _), (36, _), (37, _), (38, _), (39, _), (51, _), (52, _), (53, _), (54, _), (55, _), (56, _), (57, _), (58, _), (59, _), (60, _), (61, _), (62, _), (63, _), (64, _), (65, _), (66, _), (67, _), (68, _), (69, _), (105, _)] rfl hs79
                · intro g82 J83
                  have qg82 := g82
                  try simp only [decide_eq_true_eq, decide_eq_false_iff_not, Bool.not_eq_true', Bool.not_eq_false'] at qg82
                  refine WL.val (wantF rfl g82) rfl rfl (Run.move rfl rfl) ?_
                  refine WL.val (wantF rfl g82) rfl rfl (Run.eql rfl rfl rfl) ?_
                  refine WL.val rfl rfl rfl (Run.pickF rfl rfl g82 rfl) ?_
                  exact WL.fin J83 hs79 rfl (orF g82) ⟨rfl, rfl, rfl, rfl, rfl, rfl, rfl, rfl, rfl, rfl, rfl, rfl, rfl, rfl, rfl, rfl, rfl, rfl, rfl, rfl, rfl, rfl, rfl, rfl, rfl, rfl, rfl, rfl, rfl, rfl, rfl, rfl, rfl, rfl, rfl, rfl, rfl, rfl, rfl, rfl, rfl, rfl, rfl, rfl, rfl, rfl, rfl, rfl, rfl, rfl, rfl, rfl, rfl, rfl, rfl, trivial⟩
                · intro g82 J83
                  refine WL.skip (wantNF rfl g82) rfl rfl ?_
                  refine WL.skip (wantNF rfl g82) rfl rfl ?_
                  refine WL.val rfl rfl rfl (Run.pickT rfl rfl g82 rfl) ?_
                  exact WL.fin J83 hs79 rfl (orT g82) ⟨rfl, rfl, rfl, rfl, rfl, rfl, rfl, rfl, rfl, rfl, rfl, rfl, rfl, rfl, rfl, rfl, rfl, rfl, rfl, rfl, rfl, rfl, rfl, rfl, rfl, rfl, rfl, rfl, rfl, rfl, rfl, rfl, rfl, rfl, rfl, rfl, rfl, rfl, rfl, rfl, rfl, rfl, rfl, rfl, rfl, rfl, rfl, rfl, rfl, rfl, rfl, rfl, rfl, rfl, rfl, trivial⟩
                · intro whs84 hs84
                  refine WL.val rfl rfl rfl (Run.move rfl rfl) ?_
                  apply WL.meetAnd 11 116 127 [(0, _), (2, _), (3, _), (4, _), (5, _), (6, _), (7, _), (8, _), (9, _), (10, _), (11, _), (12, _), (13, _), (14, _), (15, _), (16, _), (17, _), (18, _), (19, _), (20, _), (21, _), (22, _), (23, _), (24, _), (25, _), (26, _), (27, _), (28, _), (29, _), (34, _), (35, _), (36, _), (37, _), (38, _), (39, _), (51, _), (52, _), (53, _), (54, _), (55, _), (56, _), (57, _), (58, _), (59, _), (60, _), (61, _), (62, _), (63, _), (64, _), (65, _), (66, _), (67, _), (68, _), (69, _), (105, _)] rfl hs84
                  · intro g85 J86
                    have qg85 := g85
                    try simp only [decide_eq_true_eq, decide_eq_false_iff_not, Bool.not_eq_true', Bool.not_eq_false'] at qg85
                    refine WL.val (wantT rfl g85) rfl rfl (Run.field Try.runUnderlying40 rfl rfl rfl Try.sizeOf3 rfl) ?_
                    refine WL.val (wantT rfl g85) rfl rfl (Run.loadL hs84 2 Try.isAgg3 rfl rfl rfl rfl) ?_
                    refine WL.val (wantT rfl g85) rfl rfl (Run.field Try.runUnderlying40 rfl rfl rfl Try.sizeOf3 rfl) ?_
                    refine WL.val (wantT rfl g85) rfl rfl (Run.loadL hs84 2 Try.isAgg3 rfl rfl rfl rfl) ?_
                    refine WL.val (wantT rfl g85) rfl rfl (Run.add rfl rfl rfl ?_) ?_
                    · constructor <;> omega
                    refine WL.val (wantT rfl g85) rfl rfl (Run.lss rfl rfl rfl) ?_
                    refine WL.val (wantT rfl g85) rfl rfl (Run.move rfl rfl) ?_
                    apply WL.meetOr 3 123 126 [(0, _), (2, _), (3, _), (4, _), (5, _), (6, _), (7, _), (8, _), (9, _), (10, _), (11, _), (12, _), (13, _), (14, _), (15, _), (16, _), (17, _), (18, _), (19, _), (20, _), (21, _), (22, _), (23, _), (24, _), (25, _), (26, _), (27, _), (28, _), (29, _), (34, _), (35, _), (36, _), (37, _), (38, _), (39, _), (51, _), (52, _), (53, _), (54, _), (55, _), (56, _), (57, _), (58, _), (59, _), (60, _), (61, _), (62, _), (63, _), (64, _), (65, _), (66, _), (67, _), (68, _), (69, _), (105, _), (116, _)] rfl hs84
                    · intro g87 J88
                      have qg87 := g87
                      try simp only [decide_eq_true_eq, decide_eq_false_iff_not, Bool.not_eq_true', Bool.not_eq_false'] at qg87
                      refine WL.val (wantF rfl g87) rfl rfl (Run.move rfl rfl) ?_
                      refine WL.val (wantF rfl g87) rfl rfl (Run.eql rfl rfl rfl) ?_
                      refine WL.val (wantT rfl g85) rfl rfl (Run.pickF rfl rfl g87 rfl) ?_
                      exact WL.fin J88 hs84 rfl (orF g87) ⟨rfl, rfl, rfl, rfl, rfl, rfl, rfl, rfl, rfl, rfl, rfl, rfl, rfl, rfl, rfl, rfl, rfl, rfl, rfl, rfl, rfl, rfl, rfl, rfl, rfl, rfl, rfl, rfl, rfl, rfl, rfl, rfl, rfl, rfl, rfl, rfl, rfl, rfl, rfl, rfl, rfl, rfl, rfl, rfl, rfl, rfl, rfl, rfl, rfl, rfl, rfl, rfl, rfl, rfl, rfl, rfl, trivial⟩
                    · intro g87 J88
                      refine WL.skip (wantNF rfl g87) rfl rfl ?_
                      refine WL.skip (wantNF rfl g87) rfl rfl ?_
                      refine WL.val (wantT rfl g85) rfl rfl (Run.pickT rfl rfl g87 rfl) ?_
                      exact WL.fin J88 hs84 rfl (orT g87) ⟨rfl, rfl, rfl, rfl, rfl, rfl, rfl, rfl, rfl, rfl, rfl, rfl, rfl, rfl, rfl, rfl, rfl, rfl, rfl, rfl, rfl, rfl, rfl, rfl, rfl, rfl, rfl, rfl, rfl, rfl, rfl, rfl, rfl, rfl, rfl, rfl, rfl, rfl, rfl, rfl, rfl, rfl, rfl, rfl, rfl, rfl, rfl, rfl, rfl, rfl, rfl, rfl, rfl, rfl, rfl, rfl, trivial⟩
                    · intro whs89 hs89
                      refine WL.val rfl rfl rfl (Run.pickT rfl rfl g85 rfl) ?_
                      exact WL.fin J86 hs89 rfl (andT g85) ⟨rfl, rfl, rfl, rfl, rfl, rfl, rfl, rfl, rfl, rfl, rfl, rfl, rfl, rfl, rfl, rfl, rfl, rfl, rfl, rfl, rfl, rfl, rfl, rfl, rfl, rfl, rfl, rfl, rfl, rfl, rfl, rfl, rfl, rfl, rfl, rfl, rfl, rfl, rfl, rfl, rfl, rfl, rfl, rfl, rfl, rfl, rfl, rfl, rfl, rfl, rfl, rfl, rfl, rfl, rfl, trivial⟩
                  · intro g85 J86
                    refine WL.skip (wantNT rfl g85) rfl rfl ?_
                    refine WL.skip (wantNT rfl g85) rfl rfl ?_
                    refine WL.skip (wantNT rfl g85) rfl rfl ?_
                    refine WL.skip (wantNT rfl g85) rfl rfl ?_
                    refine WL.skip (wantNT rfl g85) rfl rfl ?_
                    refine WL.skip (wantNT rfl g85) rfl rfl ?_
                    refine WL.skip (wantNT rfl g85) rfl rfl ?_
                    refine WL.skip rfl rfl rfl ?_
                    refine WL.skip rfl rfl rfl ?_
                    refine WL.skip (wantNT rfl g85) rfl rfl ?_
                    refine WL.val rfl rfl rfl (Run.pickF rfl rfl g85 rfl) ?_
                    exact WL.fin J86 hs84 rfl (andF g85) ⟨rfl, rfl, rfl, rfl, rfl, rfl, rfl, rfl, rfl, rfl, rfl, rfl, rfl, rfl, rfl, rfl, rfl, rfl, rfl, rfl, rfl, rfl, rfl, rfl, rfl, rfl, rfl, rfl, rfl, rfl, rfl, rfl, rfl, rfl, rfl, rfl, rfl, rfl, rfl, rfl, rfl, rfl, rfl, rfl, rfl, rfl, rfl, rfl, rfl, rfl, rfl, rfl, rfl, rfl, rfl, trivial⟩
                  · intro whs90 hs90
                    refine WL.val rfl rfl rfl (Run.move rfl rfl) ?_
                    apply WL.meetAnd 5 128 133 [(0, _), (2, _), (3, _), (4, _), (5, _), (6, _), (7, _), (8, _), (9, _), (10, _), (11, _), (12, _), (13, _), (14, _), (15, _), (16, _), (17, _), (18, _), (19, _), (20, _), (21, _), (22, _), (23, _), (24, _), (25, _), (26, _), (27, _), (28, _), (29, _), (34, _), (35, _), (36, _), (37, _), (38, _), (39, _), (51, _), (52, _), (53, _), (54, _), (55, _), (56, _), (57, _), (58, _), (59, _), (60, _), (61, _), (62, _), (63, _), (64, _), (65, _), (66, _), (67, _), (68, _), (69, _), (105, _)] rfl hs90
                    · intro g91 J92
                      have qg91 := g91
                      try simp only [decide_eq_true_eq, decide_eq_false_iff_not, Bool.not_eq_true', Bool.not_eq_false'] at qg91
                      refine WL.val (wantT rfl g91) rfl rfl (Run.move rfl rfl) ?_
                      refine WL.val (wantT rfl g91) rfl rfl (Run.move rfl rfl) ?_
                      refine WL.call (wantT rfl g91) rfl rfl (Run.call Try.call41 rfl rfl rfl) (c_impl_Beside _ _ _ _ _ _ _ _ _ (SlF.ofOwn ho14 (fun p_ hp_ => (hs90.own p_ (List.mem_append_right [_, _, _] (List.mem_append_right _ (List.mem_append_left _ hp_)))).1)) ?_) ?_
                      · first | assumption | rfl | omega
                      rintro _ whs93 ⟨rfl, hs93⟩
                      replace hs93 := hs90.call0 hs93
                      refine ⟨_, rfl, ?_⟩
                      refine WL.val (wantT rfl g91) rfl rfl (Run.eql rfl rfl rfl) ?_
                      refine WL.val rfl rfl rfl (Run.pickT rfl rfl g91 rfl) ?_
                      exact WL.fin J92 hs93 rfl (andT g91) ⟨rfl, rfl, rfl, rfl, rfl, rfl, rfl, rfl, rfl, rfl, rfl, rfl, rfl, rfl, rfl, rfl, rfl, rfl, rfl, rfl, rfl, rfl, rfl, rfl, rfl, rfl, rfl, rfl, rfl, rfl, rfl, rfl, rfl, rfl, rfl, rfl, rfl, rfl, rfl, rfl, rfl, rfl, rfl, rfl, rfl, rfl, rfl, rfl, rfl, rfl, rfl, rfl, rfl, rfl, rfl, trivial⟩
                    · intro g91 J92
                      refine WL.skip (wantNT rfl g91) rfl rfl ?_
                      refine WL.skip (wantNT rfl g91) rfl rfl ?_
                      refine WL.skip (wantNT rfl g91) rfl rfl ?_
                      refine WL.skip (wantNT rfl g91) rfl rfl ?_
                      refine WL.val rfl rfl rfl (Run.pickF rfl rfl g91 rfl) ?_
                      exact WL.fin J92 hs90 rfl (andF g91) ⟨rfl, rfl, rfl, rfl, rfl, rfl, rfl, rfl, rfl, rfl, rfl, rfl, rfl, rfl, rfl, rfl, rfl, rfl, rfl, rfl, rfl, rfl, rfl, rfl, rfl, rfl, rfl, rfl, rfl, rfl, rfl, rfl, rfl, rfl, rfl, rfl, rfl, rfl, rfl, rfl, rfl, rfl, rfl, rfl, rfl, rfl, rfl, rfl, rfl, rfl, rfl, rfl, rfl, rfl, rfl, trivial⟩
                    · intro whs94 hs94
                      refine WL.val rfl rfl rfl (Run.assign rfl rfl) ?_
                      refine WL.nil ?_
                      refine tkN ?_
                      refine hK81 _ _ ?_
                      clear hK81
                      refine WC.ret ?_
                      refine retV1 rfl (resV.tmp rfl) ?_
                      refine ⟨congrArg Ending.returned (congrArg Value.bool ?_), hs94.nil⟩
                      have hRx : besideL t9 p10 82 24 12 ≠ 0 → (placeR t9 24 12 p10).X + (placeR t9 24 12 p10).W < 24 := fun h_ => by
                        have h3_ := (hbR h_).2.2.x1
                        have h4_ := (hbR h_).2.2.w1
                        have h5_ := (hR h_).2
                        simp only at h3_
                        omega
                      have hDx : besideL t9 p10 68 24 12 ≠ 0 → (placeR t9 24 12 p10).Y + (placeR t9 24 12 p10).H < 12 := fun h_ => by
                        have h3_ := (hbD h_).2.2.y1
                        have h4_ := (hbD h_).2.2.h1
                        have h5_ := (hD h_).2
                        simp only at h3_
                        omega
                      simp only [Bool.or_eq_true, Bool.and_eq_true, decide_eq_true_eq]
                      omega
set_option maxHeartbeats 4000000 in
theorem c_laws_FnGrow (A_code : Option Addr) (n_code c_code : Nat) (code : List UInt8) (w : World) (f_code : SlF encB w A_code n_code code) (h1 : n_code ≤ 9223372036854775807) :
    Calls Try.prog 16 #[.slice A_code n_code c_code] w fun e w' => e = .returned (.bool true) ∧ St w [] [] w' := by
  have hl := f_code.len
  refine enter (vs := [.slice A_code n_code c_code]) 85 Try.func16 rfl Try.ntmps16 rfl rfl ?_
  have hs1 := St.init w
  refine WC.seq (fun K2 hK2 => ?_)
  refine WC.region ?_
  refine WL.val rfl rfl rfl (Run.assign rfl rfl) ?_
  refine WL.nil ?_
  refine tkN ?_
  refine hK2 _ _ ?_
  clear hK2
  refine WC.seq (fun K3 hK3 => ?_)
  refine WC.seq (fun K4 hK4 => ?_)
  refine WC.region ?_
  refine WL.val rfl rfl rfl (Run.move rfl rfl) ?_
  refine WL.val rfl rfl rfl (Run.lenSl Try.runUnderlying45 rfl rfl) ?_
  refine WL.val rfl rfl rfl (Run.gtr rfl rfl rfl) ?_
  refine WL.nil ?_
  refine tkN ?_
  refine hK4 _ _ ?_
  clear hK4
  refine WC.cond rfl (fun h5 => ?_) (fun h5 => ?_)
  · have qh5 := h5
    try simp only [decide_eq_true_eq, decide_eq_false_iff_not, Bool.not_eq_true', Bool.not_eq_false', Bool.and_eq_true, Bool.or_eq_false_iff, within_iff, within_not] at qh5
    refine WC.seq (fun K6 hK6 => ?_)
    refine WC.region ?_
    refine WL.val rfl rfl rfl (Run.assign rfl rfl) ?_
    refine WL.nil ?_
    refine tkN ?_
    refine hK6 _ _ ?_
    clear hK6
    refine WC.ret ?_
    refine tkR ?_
    clear hK3
    refine retV1 rfl (resV.tmp rfl) ?_
    refine ⟨congrArg Ending.returned (congrArg Value.bool ?_), hs1.nil⟩
    rfl
  · have qh5 := h5
    try simp only [decide_eq_true_eq, decide_eq_false_iff_not, Bool.not_eq_true', Bool.not_eq_false', Bool.and_eq_true, Bool.or_eq_false_iff, within_iff, within_not] at qh5
    refine WC.skip ?_
    refine tkN ?_
    refine hK3 _ _ ?_
    clear hK3
    refine WC.seq (fun K7 hK7 => ?_)
    refine WC.region ?_
    refine WL.val rfl rfl rfl (Run.move rfl rfl) ?_
    refine WL.call rfl rfl rfl (Run.call Try.call38 rfl rfl rfl) (c_spec_MakeTree _ _ _ _ _ (SlF.st0 f_code hs1) ?_) ?_
    · first | assumption | rfl | omega
    rintro _ whs8 ⟨t9, p10, A11, c12, L113, rfl, hs8, ho14, hm15, hp16, hl17, hz18⟩
    replace hs8 := hs1.callF hs8
    refine ⟨_, rfl, ?_⟩
    refine WL.val rfl rfl rfl (Run.move rfl rfl) ?_
    refine WL.val rfl rfl rfl (Run.extract rfl rfl rfl) ?_
    have hfa := facts_of (hm15).1
    have hto := (hm15).ok
    have hlv := hfa.lv
    have hlvl := congrArg List.length hfa.lv
    have hfn := hfa.nodes
    have hfp := hfa.pos
    have hm_ := hm15
    have hp_ := hp16
    have hl7_ := hl17
    have hpat := atL_some hp_
    have hpla := placeAt_iff.2 ⟨hfa.ok, hpat⟩
    refine WL.val rfl rfl rfl (Run.extract rfl rfl rfl) ?_
    refine WL.val rfl rfl rfl (Run.assign rfl rfl) ?_
    refine WL.val rfl rfl rfl (Run.assign rfl rfl) ?_
    refine WL.nil ?_
    refine tkN ?_
    refine hK7 _ _ ?_
    clear hK7
    refine WC.seq (fun K19 hK19 => ?_)
    refine WC.region ?_
    refine WL.val rfl rfl rfl (Run.move rfl rfl) ?_
    refine WL.call rfl rfl rfl (Run.call Try.call51 rfl rfl rfl) (c_spec_MakeNum _ _ _ _ _ _ (SlF.st0 f_code hs8) ?_) ?_
    · first | assumption | rfl | omega
    rintro _ whs20 ⟨r21, rfl, hs20, hr22⟩
    replace hs20 := hs8.callF hs20
    refine ⟨_, rfl, ?_⟩
    rw [List.nil_append] at hs20
    have hr_ := hr22
    refine WL.val rfl rfl rfl (Run.sub rfl rfl rfl ?_) ?_
    · constructor <;> omega
    refine WL.val rfl rfl rfl (Run.assign rfl rfl) ?_
    refine WL.nil ?_
    refine tkN ?_
    refine hK19 _ _ ?_
    clear hK19
    refine WC.seq (fun K23 hK23 => ?_)
    refine WC.region ?_
    refine WL.val rfl rfl rfl (Run.move rfl rfl) ?_
    refine WL.val rfl rfl rfl (Run.move rfl rfl) ?_
    refine WL.val rfl rfl rfl (Run.move rfl rfl) ?_
    refine WL.call rfl rfl rfl (Run.call Try.call49 rfl rfl rfl) (c_impl_Grow _ _ _ _ _ _ _ _ _ _ (SlF.ofOwn ho14 (fun p_ hp_ => (hs20.own p_ (List.mem_append_left _ hp_)).1)) ?_) ?_
    · first | assumption | rfl | omega
    rintro _ whs24 ⟨A25, c26, L127, rfl, hs24, ho28⟩
    replace hs24 := hs20.callF hs24
    refine ⟨_, rfl, ?_⟩
    refine WL.val rfl rfl rfl (Run.move rfl rfl) ?_
    refine WL.val rfl rfl rfl (Run.extract rfl rfl rfl) ?_
    refine WL.val rfl rfl rfl (Run.extract rfl rfl rfl) ?_
    refine WL.val rfl rfl rfl (Run.assign rfl rfl) ?_
    refine WL.val rfl rfl rfl (Run.assign rfl rfl) ?_
    refine WL.nil ?_
    refine tkN ?_
    refine hK23 _ _ ?_
    clear hK23
    refine WC.seq (fun K29 hK29 => ?_)
    refine WC.region ?_
    refine WL.val rfl rfl rfl (Run.move rfl rfl) ?_
    refine WL.val rfl rfl rfl (Run.move rfl rfl) ?_
    refine WL.val rfl rfl rfl (Run.move rfl rfl) ?_
    refine WL.call rfl rfl rfl (Run.call Try.call48 rfl rfl rfl) (c_spec_Grow _ _ _ _ _ _ _ _ _ _ (SlF.ofOwn ho14 (fun p_ hp_ => (hs24.own p_ (List.mem_append_right _ (List.mem_append_left _ hp_))).1)) ?_) ?_
    · first | assumption | rfl | omega
    rintro _ whs30 ⟨A31, c32, L133, rfl, hs30, ho34⟩
    replace hs30 := hs24.callF hs30
    refine ⟨_, rfl, ?_⟩
    refine WL.val rfl rfl rfl (Run.move rfl rfl) ?_
    refine WL.val rfl rfl rfl (Run.extract rfl rfl rfl) ?_
    refine WL.val rfl rfl rfl (Run.extract rfl rfl rfl) ?_
    refine WL.val rfl rfl rfl (Run.assign rfl rfl) ?_
    refine WL.val rfl rfl rfl (Run.assign rfl rfl) ?_
    refine WL.nil ?_
    refine tkN ?_
    refine hK29 _ _ ?_
    clear hK29
    refine WC.seq (fun K35 hK35 => ?_)
    refine WC.region ?_
    refine WL.val rfl rfl rfl (Run.move rfl rfl) ?_
    refine WL.val rfl rfl rfl (Run.move rfl rfl) ?_
    refine WL.call rfl rfl rfl (Run.call Try.call36 rfl rfl rfl) (c_impl_PlaceOf _ _ _ _ _ _ _ _ (SlF.ofOwn ho14 (fun p_ hp_ => (hs30.own p_ (List.mem_append_right _ (List.mem_append_right _ (List.mem_append_left _ hp_)))).1)) ?_) ?_
    · first | assumption | rfl | omega
    rintro _ whs36 ⟨rfl, hs36⟩
    replace hs36 := hs30.call0 hs36
    refine ⟨_, rfl, ?_⟩
    refine WL.val rfl rfl rfl (Run.move rfl rfl) ?_
    refine WL.val rfl rfl rfl (Run.extract rfl rfl rfl) ?_
    have hgl := growL_len t9 p10 false (r21 - 4) 24 12
    have hw := placeR_within hpla
    have hw1 := hw.w1
    have hyes : growOk t9 p10 false (r21 - 4) 24 12 = true → (placeR t9 24 12 p10).W < 24 ∧ placesOk (growL t9 p10 false (r21 - 4) 24 12) 24 12 = true ∧ panesL (growL t9 p10 false (r21 - 4) 24 12) = panesL t9 ∧ 1 < (panesL t9).length := fun h_ => growOk_facts h_
    have hnoo : growOk t9 p10 false (r21 - 4) 24 12 = false → growL t9 p10 false (r21 - 4) 24 12 = [] := fun h_ => by simp [growL, h_]
    refine WL.val rfl rfl rfl (Run.extract rfl rfl rfl) ?_
    refine WL.alloc hs36 Try.zeroValue40 rfl rfl rfl rfl rfl (fun b37 whs38 hs38 => ?_)
    refine WL.storeA hs38 0 Try.sizeOf40 rfl rfl rfl rfl rfl rfl rfl rfl rfl (Nat.le_of_ble_eq_true rfl) (.inl (Nat.le_of_ble_eq_true rfl)) (fun whs39 hs39 => ?_)
    refine WL.val rfl rfl rfl (Run.assign rfl rfl) ?_
    refine WL.nil ?_
    refine tkN ?_
    refine hK35 _ _ ?_
    clear hK35
    refine WC.seq (fun K40 hK40 => ?_)
    refine WC.seq (fun K41 hK41 => ?_)
    refine WC.region ?_
    refine WL.val rfl rfl rfl (Run.move rfl rfl) ?_
    refine WL.val rfl rfl rfl (Run.move rfl rfl) ?_
    refine WL.val rfl rfl rfl (Run.neqB Try.runUnderlying4 rfl rfl rfl) ?_
    refine WL.val rfl rfl rfl (Run.move rfl rfl) ?_
    apply WL.meetOr 7 48 55 [(0, _), (2, _), (3, _), (4, _), (5, _), (6, _), (7, _), (9, _), (10, _), (14, _), (15, _), (16, _), (17, _), (18, _), (19, _), (20, _), (21, _), (22, _), (23, _), (24, _), (25, _), (26, _), (27, _), (28, _), (29, _), (30, _), (31, _), (32, _), (33, _), (34, _), (35, _), (36, _), (37, _), (38, _), (39, _), (40, _), (41, _), (42, _), (43, _), (44, _)] rfl hs39
    · intro g42 J43
      have qg42 := g42
      try simp only [decide_eq_true_eq, decide_eq_false_iff_not, Bool.not_eq_true', Bool.not_eq_false'] at qg42
      refine WL.val (wantF rfl g42) rfl rfl (Run.move rfl rfl) ?_
      refine WL.val (wantF rfl g42) rfl rfl (Run.move rfl rfl) ?_
      apply WL.meetAnd 4 50 54 [(0, _), (2, _), (3, _), (4, _), (5, _), (6, _), (7, _), (9, _), (10, _), (14, _), (15, _), (16, _), (17, _), (18, _), (19, _), (20, _), (21, _), (22, _), (23, _), (24, _), (25, _), (26, _), (27, _), (28, _), (29, _), (30, _), (31, _), (32, _), (33, _), (34, _), (35, _), (36, _), (37, _), (38, _), (39, _), (40, _), (41, _), (42, _), (43, _), (44, _), (48, _)] rfl hs39
      · intro g44 J45
        have qg44 := g44
        try simp only [decide_eq_true_eq, decide_eq_false_iff_not, Bool.not_eq_true', Bool.not_eq_false'] at qg44
        refine WL.val (wantT rfl g44) rfl rfl (Run.field Try.runUnderlying40 rfl rfl rfl Try.sizeOf3 rfl) ?_
        refine WL.val (wantT rfl g44) rfl rfl (Run.loadL hs39 0 Try.isAgg3 rfl rfl rfl rfl) ?_
        refine WL.val (wantT rfl g44) rfl rfl (Run.eql rfl rfl rfl) ?_
        refine WL.val (wantF rfl g42) rfl rfl (Run.pickT rfl rfl g44 rfl) ?_
        exact WL.fin J45 hs39 rfl (andT g44) ⟨rfl, rfl, rfl, rfl, rfl, rfl, rfl, rfl, rfl, rfl, rfl, rfl, rfl, rfl, rfl, rfl, rfl, rfl, rfl, rfl, rfl, rfl, rfl, rfl, rfl, rfl, rfl, rfl, rfl, rfl, rfl, rfl, rfl, rfl, rfl, rfl, rfl, rfl, rfl, rfl, rfl, trivial⟩
      · intro g44 J45
        refine WL.skip (wantNT rfl g44) rfl rfl ?_
        refine WL.skip (wantNT rfl g44) rfl rfl ?_
        refine WL.skip (wantNT rfl g44) rfl rfl ?_
        refine WL.val (wantF rfl g42) rfl rfl (Run.pickF rfl rfl g44 rfl) ?_
        exact WL.fin J45 hs39 rfl (andF g44) ⟨rfl, rfl, rfl, rfl, rfl, rfl, rfl, rfl, rfl, rfl, rfl, rfl, rfl, rfl, rfl, rfl, rfl, rfl, rfl, rfl, rfl, rfl, rfl, rfl, rfl, rfl, rfl, rfl, rfl, rfl, rfl, rfl, rfl, rfl, rfl, rfl, rfl, rfl, rfl, rfl, rfl, trivial⟩
      · intro whs46 hs46
        refine WL.val rfl rfl rfl (Run.pickF rfl rfl g42 rfl) ?_
        exact WL.fin J43 hs46 rfl (orF g42) ⟨rfl, rfl, rfl, rfl, rfl, rfl, rfl, rfl, rfl, rfl, rfl, rfl, rfl, rfl, rfl, rfl, rfl, rfl, rfl, rfl, rfl, rfl, rfl, rfl, rfl, rfl, rfl, rfl, rfl, rfl, rfl, rfl, rfl, rfl, rfl, rfl, rfl, rfl, rfl, rfl, trivial⟩
    · intro g42 J43
      refine WL.skip (wantNF rfl g42) rfl rfl ?_
      refine WL.skip (wantNF rfl g42) rfl rfl ?_
      refine WL.skip rfl rfl rfl ?_
      refine WL.skip rfl rfl rfl ?_
      refine WL.skip rfl rfl rfl ?_
      refine WL.skip (wantNF rfl g42) rfl rfl ?_
      refine WL.val rfl rfl rfl (Run.pickT rfl rfl g42 rfl) ?_
      exact WL.fin J43 hs39 rfl (orT g42) ⟨rfl, rfl, rfl, rfl, rfl, rfl, rfl, rfl, rfl, rfl, rfl, rfl, rfl, rfl, rfl, rfl, rfl, rfl, rfl, rfl, rfl, rfl, rfl, rfl, rfl, rfl, rfl, rfl, rfl, rfl, rfl, rfl, rfl, rfl, rfl, rfl, rfl, rfl, rfl, rfl, trivial⟩
    · intro whs47 hs47
      refine WL.nil ?_
      refine tkN ?_
      refine hK41 _ _ ?_
      clear hK41
      refine WC.condF rfl (by
        cases hgo_ : growOk t9 p10 false (r21 - 4) 24 12 with
        | false => simp
        | true => have := (hyes hgo_).1; simp; omega) ?_
      refine WC.skip ?_
      refine tkN ?_
      refine hK40 _ _ ?_
      clear hK40
      refine WC.seq (fun K49 hK49 => ?_)
      refine WC.seq (fun K50 hK50 => ?_)
      refine WC.region ?_
      refine WL.val rfl rfl rfl (Run.move rfl rfl) ?_
      refine WL.val rfl rfl rfl (Run.not rfl rfl) ?_
      refine WL.nil ?_
      refine tkN ?_
      refine hK50 _ _ ?_
      clear hK50
      refine WC.cond rfl (fun h51 => ?_) (fun h51 => ?_)
      · have qh51 := h51
        try simp only [decide_eq_true_eq, decide_eq_false_iff_not, Bool.not_eq_true', Bool.not_eq_false', Bool.and_eq_true, Bool.or_eq_false_iff, within_iff, within_not] at qh51
        have hgo : growOk t9 p10 false (r21 - 4) 24 12 = false := by simpa using h51
        refine WC.seq (fun K52 hK52 => ?_)
        refine WC.region ?_
        refine WL.val rfl rfl rfl (Run.move rfl rfl) ?_
        refine WL.val rfl rfl rfl (Run.lenSl Try.runUnderlying25 rfl rfl) ?_
        refine WL.val rfl rfl rfl (Run.eql rfl rfl rfl) ?_
        refine WL.val rfl rfl rfl (Run.move rfl rfl) ?_
        apply WL.meetAnd 4 61 65 [(0, _), (2, _), (3, _), (4, _), (5, _), (6, _), (7, _), (9, _), (10, _), (14, _), (15, _), (16, _), (17, _), (18, _), (19, _), (20, _), (21, _), (22, _), (23, _), (24, _), (25, _), (26, _), (27, _), (28, _), (29, _), (30, _), (31, _), (32, _), (33, _), (34, _), (35, _), (36, _), (37, _), (38, _), (39, _), (40, _), (41, _), (42, _), (43, _), (44, _), (55, _), (56, _), (57, _)] rfl hs47
        · intro g53 J54
          have qg53 := g53
          try simp only [decide_eq_true_eq, decide_eq_false_iff_not, Bool.not_eq_true', Bool.not_eq_false'] at qg53
          refine WL.val (wantT rfl g53) rfl rfl (Run.field Try.runUnderlying40 rfl rfl rfl Try.sizeOf3 rfl) ?_
          refine WL.val (wantT rfl g53) rfl rfl (Run.loadL hs47 0 Try.isAgg3 rfl rfl rfl rfl) ?_
          refine WL.val (wantT rfl g53) rfl rfl (Run.geq rfl rfl rfl) ?_
          refine WL.val rfl rfl rfl (Run.pickT rfl rfl g53 rfl) ?_
          exact WL.fin J54 hs47 rfl (andT g53) ⟨rfl, rfl, rfl, rfl, rfl, rfl, rfl, rfl, rfl, rfl, rfl, rfl, rfl, rfl, rfl, rfl, rfl, rfl, rfl, rfl, rfl, rfl, rfl, rfl, rfl, rfl, rfl, rfl, rfl, rfl, rfl, rfl, rfl, rfl, rfl, rfl, rfl, rfl, rfl, rfl, rfl, rfl, rfl, trivial⟩
        · intro g53 J54
          refine WL.skip (wantNT rfl g53) rfl rfl ?_
          refine WL.skip (wantNT rfl g53) rfl rfl ?_
          refine WL.skip (wantNT rfl g53) rfl rfl ?_
          refine WL.val rfl rfl rfl (Run.pickF rfl rfl g53 rfl) ?_
          exact WL.fin J54 hs47 rfl (andF g53) ⟨rfl, rfl, rfl, rfl, rfl, rfl, rfl, rfl, rfl, rfl, rfl, rfl, rfl, rfl, rfl, rfl, rfl, rfl, rfl, rfl, rfl, rfl, rfl, rfl, rfl, rfl, rfl, rfl, rfl, rfl, rfl, rfl, rfl, rfl, rfl, rfl, rfl, rfl, rfl, rfl, rfl, rfl, rfl, trivial⟩
        · intro whs55 hs55
          refine WL.val rfl rfl rfl (Run.assign rfl rfl) ?_
          refine WL.nil ?_
          refine tkN ?_
          refine hK52 _ _ ?_
          clear hK52
          refine WC.ret ?_
          refine tkR ?_
          clear hK49
          refine retV1 rfl (resV.tmp rfl) ?_
          refine ⟨congrArg Ending.returned (congrArg Value.bool ?_), hs55.nil⟩
          simp [hnoo hgo]; omega
      · have qh51 := h51
        try simp only [decide_eq_true_eq, decide_eq_false_iff_not, Bool.not_eq_true', Bool.not_eq_false', Bool.and_eq_true, Bool.or_eq_false_iff, within_iff, within_not] at qh51
        have hgo : growOk t9 p10 false (r21 - 4) 24 12 = true := by simpa using h51
        have hyy := hyes hgo
        have hlg : leavesL (growL t9 p10 false (r21 - 4) 24 12) = panesL t9 := by rw [leaves_ok (places_tree hyy.2.1), hyy.2.2.1]
        have hlgl := congrArg List.length hlg
        have hlab : leavesL (growL t9 p10 false (r21 - 4) 24 12) = leavesL t9 := hlg.trans hlv.symm
        refine WC.skip ?_
        refine tkN ?_
        refine hK49 _ _ ?_
        clear hK49
        refine WC.seq (fun K56 hK56 => ?_)
        refine WC.region ?_
        refine WL.val rfl rfl rfl (Run.move rfl rfl) ?_
        refine WL.call rfl rfl rfl (Run.call Try.call39 rfl rfl rfl) (c_impl_Places _ _ _ _ _ _ _ (SlF.ofOwn ho28 (fun p_ hp_ => (hs47.own p_ (List.mem_append_right [_] (List.mem_append_right _ (List.mem_append_left _ hp_)))).1)) ?_) ?_
        · first | assumption | rfl | omega
        rintro _ whs57 ⟨A58, c59, L160, rfl, hs57, ho61⟩
        replace hs57 := hs47.callF hs57
        refine ⟨_, rfl, ?_⟩
        replace hs57 := St.back [_] hs57
        refine WL.val rfl rfl rfl (Run.move rfl rfl) ?_
        refine WL.val rfl rfl rfl (Run.extract rfl rfl rfl) ?_
        refine WL.val rfl rfl rfl (Run.extract rfl rfl rfl) ?_
        refine WL.val rfl rfl rfl (Run.assign rfl rfl) ?_
        refine WL.val rfl rfl rfl (Run.assign rfl rfl) ?_
        refine WL.nil ?_
        refine tkN ?_
        refine hK56 _ _ ?_
        clear hK56
        refine WC.seq (fun K62 hK62 => ?_)
        refine WC.region ?_
        refine WL.val rfl rfl rfl (Run.move rfl rfl) ?_
        refine WL.val rfl rfl rfl (Run.move rfl rfl) ?_
        apply WL.meetAnd 6 72 78 [(0, _), (2, _), (3, _), (4, _), (5, _), (6, _), (7, _), (9, _), (10, _), (13, _), (14, _), (15, _), (16, _), (17, _), (18, _), (19, _), (20, _), (21, _), (22, _), (23, _), (24, _), (25, _), (26, _), (27, _), (28, _), (29, _), (30, _), (31, _), (32, _), (33, _), (34, _), (35, _), (36, _), (37, _), (38, _), (39, _), (40, _), (41, _), (42, _), (43, _), (44, _), (55, _), (56, _), (57, _), (66, _), (67, _), (68, _), (69, _), (70, _)] rfl hs57
        · intro g63 J64
          have qg63 := g63
          try simp only [decide_eq_true_eq, decide_eq_false_iff_not, Bool.not_eq_true', Bool.not_eq_false'] at qg63
          refine WL.val (wantT rfl g63) rfl rfl (Run.move rfl rfl) ?_
          refine WL.call (wantT rfl g63) rfl rfl (Run.call Try.call25 rfl rfl rfl) (c_impl_Leaves _ _ _ _ _ (SlF.ofOwn ho28 (fun p_ hp_ => (hs57.own p_ (List.mem_append_right [_] (List.mem_append_right _ (List.mem_append_right _ (List.mem_append_left _ hp_))))).1)) ?_) ?_
          · first | assumption | rfl | omega
          rintro _ whs65 ⟨A66, c67, L168, rfl, hs65, ho69⟩
          replace hs65 := hs57.callF hs65
          refine ⟨_, rfl, ?_⟩
          replace hs65 := St.back [_] hs65
          refine WL.val (wantT rfl g63) rfl rfl (Run.move rfl rfl) ?_
          refine WL.call (wantT rfl g63) rfl rfl (Run.call Try.call25 rfl rfl rfl) (c_impl_Leaves _ _ _ _ _ (SlF.ofOwn ho14 (fun p_ hp_ => (hs65.own p_ (List.mem_append_right [_] (List.mem_append_right _ (List.mem_append_right _ (List.mem_append_right _ (List.mem_append_right _ (List.mem_append_left _ hp_))))))).1)) ?_) ?_
          · first | assumption | rfl | omega
          rintro _ whs70 ⟨A71, c72, L173, rfl, hs70, ho74⟩
          replace hs70 := hs65.callF hs70
          refine ⟨_, rfl, ?_⟩
          replace hs70 := St.back [_] hs70
          refine WL.call (wantT rfl g63) rfl rfl (Run.call Try.call52 rfl rfl rfl) (c_laws_sameInts _ _ _ _ _ _ _ _ _ (SlF.ofOwn ho69 (fun p_ hp_ => (hs70.own p_ (List.mem_append_right [_] (List.mem_append_right _ (List.mem_append_left _ hp_)))).1)) (SlF.ofOwn ho74 (fun p_ hp_ => (hs70.own p_ (List.mem_append_right [_] (List.mem_append_left _ hp_))).1)) ?_ ?_) ?_
          · first | assumption | rfl | omega
          · first | assumption | rfl | omega
          rintro _ whs75 ⟨rfl, hs75⟩
          replace hs75 := hs70.call0 hs75
          refine ⟨_, rfl, ?_⟩
          refine WL.val rfl rfl rfl (Run.pickT rfl rfl g63 rfl) ?_
          exact WL.fin J64 (St.drop (St.perm (St.drop (St.perm hs75 (L' := L173 ++ _) (perm_front (A := [_]) (List.Perm.refl _))) (List.sublist_append_right L173 _)) (L' := L168 ++ _) (perm_front (A := [_]) (List.Perm.refl _))) (List.sublist_append_right L168 _)) rfl (andT g63) ⟨rfl, rfl, rfl, rfl, rfl, rfl, rfl, rfl, rfl, rfl, rfl, rfl, rfl, rfl, rfl, rfl, rfl, rfl, rfl, rfl, rfl, rfl, rfl, rfl, rfl, rfl, rfl, rfl, rfl, rfl, rfl, rfl, rfl, rfl, rfl, rfl, rfl, rfl, rfl, rfl, rfl, rfl, rfl, rfl, rfl, rfl, rfl, rfl, rfl, trivial⟩
        · intro g63 J64
          refine WL.skip (wantNT rfl g63) rfl rfl ?_
          refine WL.skip (wantNT rfl g63) rfl rfl ?_
          refine WL.skip (wantNT rfl g63) rfl rfl ?_
          refine WL.skip (wantNT rfl g63) rfl rfl ?_
          refine WL.skip (wantNT rfl g63) rfl rfl ?_
          refine WL.val rfl rfl rfl (Run.pickF rfl rfl g63 rfl) ?_
          exact WL.fin J64 hs57 rfl (andF g63) ⟨rfl, rfl, rfl, rfl, rfl, rfl, rfl, rfl, rfl, rfl, rfl, rfl, rfl, rfl, rfl, rfl, rfl, rfl, rfl, rfl, rfl, rfl, rfl, rfl, rfl, rfl, rfl, rfl, rfl, rfl, rfl, rfl, rfl, rfl, rfl, rfl, rfl, rfl, rfl, rfl, rfl, rfl, rfl, rfl, rfl, rfl, rfl, rfl, rfl, trivial⟩
        · intro whs76 hs76
          refine WL.val rfl rfl rfl (Run.move rfl rfl) ?_
          apply WL.meetAnd 5 79 84 [(0, _), (2, _), (3, _), (4, _), (5, _), (6, _), (7, _), (9, _), (10, _), (13, _), (14, _), (15, _), (16, _), (17, _), (18, _), (19, _), (20, _), (21, _), (22, _), (23, _), (24, _), (25, _), (26, _), (27, _), (28, _), (29, _), (30, _), (31, _), (32, _), (33, _), (34, _), (35, _), (36, _), (37, _), (38, _), (39, _), (40, _), (41, _), (42, _), (43, _), (44, _), (55, _), (56, _), (57, _), (66, _), (67, _), (68, _), (69, _), (70, _)] rfl hs76
          · intro g77 J78
            have qg77 := g77
            try simp only [decide_eq_true_eq, decide_eq_false_iff_not, Bool.not_eq_true', Bool.not_eq_false'] at qg77
            refine WL.val (wantT rfl g77) rfl rfl (Run.move rfl rfl) ?_
            refine WL.call (wantT rfl g77) rfl rfl (Run.call Try.call25 rfl rfl rfl) (c_impl_Leaves _ _ _ _ _ (SlF.ofOwn ho14 (fun p_ hp_ => (hs76.own p_ (List.mem_append_right [_] (List.mem_append_right _ (List.mem_append_right _ (List.mem_append_right _ (List.mem_append_left _ hp_)))))).1)) ?_) ?_
            · first | assumption | rfl | omega
            rintro _ whs79 ⟨A80, c81, L182, rfl, hs79, ho83⟩
            replace hs79 := hs76.callF hs79
            refine ⟨_, rfl, ?_⟩
            replace hs79 := St.back [_] hs79
            refine WL.val (wantT rfl g77) rfl rfl (Run.lenSl Try.runUnderlying31 rfl rfl) ?_
            refine WL.val (wantT rfl g77) rfl rfl (Run.gtr rfl rfl rfl) ?_
            refine WL.val rfl rfl rfl (Run.pickT rfl rfl g77 rfl) ?_
            exact WL.fin J78 (St.drop (St.perm hs79 (L' := L182 ++ _) (perm_front (A := [_]) (List.Perm.refl _))) (List.sublist_append_right L182 _)) rfl (andT g77) ⟨rfl, rfl, rfl, rfl, rfl, rfl, rfl, rfl, rfl, rfl, rfl, rfl, rfl, rfl, rfl, rfl, rfl, rfl, rfl, rfl, rfl, rfl, rfl, rfl, rfl, rfl, rfl, rfl, rfl, rfl, rfl, rfl, rfl, rfl, rfl, rfl, rfl, rfl, rfl, rfl, rfl, rfl, rfl, rfl, rfl, rfl, rfl, rfl, rfl, trivial⟩
          · intro g77 J78
            refine WL.skip (wantNT rfl g77) rfl rfl ?_
            refine WL.skip (wantNT rfl g77) rfl rfl ?_
            refine WL.skip (wantNT rfl g77) rfl rfl ?_
            refine WL.skip (wantNT rfl g77) rfl rfl ?_
            refine WL.val rfl rfl rfl (Run.pickF rfl rfl g77 rfl) ?_
            exact WL.fin J78 hs76 rfl (andF g77) ⟨rfl, rfl, rfl, rfl, rfl, rfl, rfl, rfl, rfl, rfl, rfl, rfl, rfl, rfl, rfl, rfl, rfl, rfl, rfl, rfl, rfl, rfl, rfl, rfl, rfl, rfl, rfl, rfl, rfl, rfl, rfl, rfl, rfl, rfl, rfl, rfl, rfl, rfl, rfl, rfl, rfl, rfl, rfl, rfl, rfl, rfl, rfl, rfl, rfl, trivial⟩
          · intro whs84 hs84
            refine WL.val rfl rfl rfl (Run.assign rfl rfl) ?_
            refine WL.nil ?_
            refine tkN ?_
            refine hK62 _ _ ?_
            clear hK62
            refine WC.ret ?_
            refine retV1 rfl (resV.tmp rfl) ?_
            refine ⟨congrArg Ending.returned (congrArg Value.bool ?_), hs84.nil⟩
            simp [hyy.2.1, hlg]; omega
end Go.Proofs.Ytghcicggamkjgaa
