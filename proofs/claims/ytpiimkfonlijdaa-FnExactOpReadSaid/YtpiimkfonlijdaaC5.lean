/- Walks of Go functions, printed by a program (wip/gen). -/
import Derived.Test.YtpiimkfonlijdaaC1
namespace Go.Proofs.Ytpiimkfonlijdaa
open Go Go.RowKit
set_option linter.unusedVariables false
set_option linter.unusedSimpArgs false
theorem c_impl_WordOk (s : ByteArray) (w : World) (hz : s.size ≤ 1099511627776) :
    Calls Try.prog 48 #[.string s] w fun e w' => e = .returned (.bool (wordOk s)) ∧ St w [] [] w' := by
  refine enter (vs := [.string s]) 5 Try.func48 rfl Try.ntmps48 rfl rfl ?_
  have hs1 := St.init w
  refine WC.seq (fun K2 hK2 => ?_)
  refine WC.region ?_
  refine WL.val rfl rfl rfl (Run.assign rfl rfl) ?_
  refine WL.nil ?_
  refine tkN ?_
  refine hK2 _ _ ?_
  clear hK2
  refine WC.seq (fun K3 hK3 => ?_)
  refine WC.region ?_
  refine WL.val rfl rfl rfl (Run.move rfl rfl) ?_
  refine WL.call rfl rfl rfl (Run.call Try.call92 rfl rfl rfl) (c_impl_isPlain _ _ _ _ ?_) ?_
  · first | assumption | rfl | omega
  rintro _ whs4 ⟨rfl, hs4⟩
  replace hs4 := hs1.call0 hs4
  refine ⟨_, rfl, ?_⟩
  refine WL.val rfl rfl rfl (Run.assign rfl rfl) ?_
  refine WL.nil ?_
  refine tkN ?_
  refine hK3 _ _ ?_
  clear hK3
  refine WC.ret ?_
  refine retV1 rfl (resV.tmp rfl) ?_
  refine ⟨congrArg Ending.returned ?_, hs4.nil⟩
  rfl
theorem c_spec_WordOk (s : ByteArray) (w : World) (hz : s.size ≤ 1099511627776) :
    Calls Try.prog 47 #[.string s] w fun e w' => e = .returned (.bool (wordOk s)) ∧ St w [] [] w' := by
  refine enter (vs := [.string s]) 40 Try.func47 rfl Try.ntmps47 rfl rfl ?_
  have hs1 := St.init w
  refine WC.seq (fun K2 hK2 => ?_)
  refine WC.region ?_
  refine WL.val rfl rfl rfl (Run.assign rfl rfl) ?_
  refine WL.nil ?_
  refine tkN ?_
  refine hK2 _ _ ?_
  clear hK2
  refine WC.seq (fun K3 hK3 => ?_)
  refine WC.seq (fun K4 hK4 => ?_)
  refine WC.region ?_
  refine WL.val rfl rfl rfl (Run.assign rfl rfl) ?_
  refine WL.nil ?_
  refine tkN ?_
  refine hK4 _ _ ?_
  clear hK4
  refine WC.block ?_
  refine WC.loopS [(0, _)] ⟨rfl, trivial⟩ hs1 (fun k_ f w' => ∃ (i : Nat), k_ = s.size - i ∧ (i ≤ s.size) ∧ (upto (plainB ByteArray.empty) s i) ∧ Sub [(3, .int .i64 i)] f) ((fun (i : Nat) => s.size - i) (0)) ?_ ?_
  · refine ⟨0, rfl, ?_, ?_, ⟨rfl, trivial⟩⟩
    · exact Nat.zero_le _
    · exact upto_zero
  · clear hs1
    rintro _ f w ⟨i, rfl, p0, p1, hG⟩ hF hs5
    refine WC.sub _ (hG.app hF) ?_
    clear hG hF
    refine WC.seq (fun K6 hK6 => ?_)
    refine WC.seq (fun K7 hK7 => ?_)
    refine WC.region ?_
    refine WL.val rfl rfl rfl (Run.move rfl rfl) ?_
    refine WL.val rfl rfl rfl (Run.move rfl rfl) ?_
    refine WL.val rfl rfl rfl (Run.lenStr Try.runUnderlying9 rfl rfl) ?_
    refine WL.val rfl rfl rfl (Run.lss rfl rfl rfl) ?_
    refine WL.nil ?_
    refine tkN ?_
    refine hK7 _ _ ?_
    clear hK7
    refine WC.cond rfl (fun h8 => ?_) (fun h8 => ?_)
    · have qh8 := h8
      try simp only [decide_eq_true_eq, decide_eq_false_iff_not] at qh8
      refine WC.skip ?_
      refine tkN ?_
      refine hK6 _ _ ?_
      clear hK6
      refine WC.seq (fun K9 hK9 => ?_)
      refine WC.block ?_
      refine WC.seq (fun K10 hK10 => ?_)
      refine WC.region ?_
      refine WL.val rfl rfl rfl (Run.move rfl rfl) ?_
      refine WL.val rfl rfl rfl (Run.move rfl rfl) ?_
      refine WL.val rfl rfl rfl (Run.idxStr Try.runUnderlying9 rfl rfl rfl ?_ ?_) ?_
      · omega
      · omega
      refine WL.val rfl rfl rfl (Run.lss rfl rfl rfl) ?_
      refine WL.val rfl rfl rfl (Run.move rfl rfl) ?_
      apply WL.meetOr 5 14 19 [(0, _), (3, _), (4, _), (5, _), (6, _), (7, _)] rfl hs5
      · intro g11 J12
        refine WL.val (wantF rfl g11) rfl rfl (Run.move rfl rfl) ?_
        refine WL.val (wantF rfl g11) rfl rfl (Run.move rfl rfl) ?_
        refine WL.val (wantF rfl g11) rfl rfl (Run.idxStr Try.runUnderlying9 rfl rfl rfl ?_ ?_) ?_
        · omega
        · omega
        refine WL.val (wantF rfl g11) rfl rfl (Run.gtr rfl rfl rfl) ?_
        refine WL.val rfl rfl rfl (Run.pickF rfl rfl g11 rfl) ?_
        exact WL.fin J12 hs5 rfl (orF g11) ⟨rfl, rfl, rfl, rfl, rfl, rfl, trivial⟩
      · intro g11 J12
        refine WL.skip (wantNF rfl g11) rfl rfl ?_
        refine WL.skip (wantNF rfl g11) rfl rfl ?_
        refine WL.skip (wantNF rfl g11) rfl rfl ?_
        refine WL.skip (wantNF rfl g11) rfl rfl ?_
        refine WL.val rfl rfl rfl (Run.pickT rfl rfl g11 rfl) ?_
        exact WL.fin J12 hs5 rfl (orT g11) ⟨rfl, rfl, rfl, rfl, rfl, rfl, trivial⟩
      · intro whs13 hs13
        refine WL.val rfl rfl rfl (Run.move rfl rfl) ?_
        apply WL.meetAnd 11 20 31 [(0, _), (3, _), (4, _), (5, _), (6, _), (7, _)] rfl hs13
        · intro g14 J15
          refine WL.val (wantT rfl g14) rfl rfl (Run.move rfl rfl) ?_
          refine WL.val (wantT rfl g14) rfl rfl (Run.move rfl rfl) ?_
          refine WL.val (wantT rfl g14) rfl rfl (Run.idxStr Try.runUnderlying9 rfl rfl rfl ?_ ?_) ?_
          · omega
          · omega
          refine WL.val (wantT rfl g14) rfl rfl (Run.lss rfl rfl rfl) ?_
          refine WL.val (wantT rfl g14) rfl rfl (Run.move rfl rfl) ?_
          apply WL.meetOr 5 25 30 [(0, _), (3, _), (4, _), (5, _), (6, _), (7, _), (20, _)] rfl hs13
          · intro g16 J17
            refine WL.val (wantF rfl g16) rfl rfl (Run.move rfl rfl) ?_
            refine WL.val (wantF rfl g16) rfl rfl (Run.move rfl rfl) ?_
            refine WL.val (wantF rfl g16) rfl rfl (Run.idxStr Try.runUnderlying9 rfl rfl rfl ?_ ?_) ?_
            · omega
            · omega
            refine WL.val (wantF rfl g16) rfl rfl (Run.gtr rfl rfl rfl) ?_
            refine WL.val (wantT rfl g14) rfl rfl (Run.pickF rfl rfl g16 rfl) ?_
            exact WL.fin J17 hs13 rfl (orF g16) ⟨rfl, rfl, rfl, rfl, rfl, rfl, rfl, trivial⟩
          · intro g16 J17
            refine WL.skip (wantNF rfl g16) rfl rfl ?_
            refine WL.skip (wantNF rfl g16) rfl rfl ?_
            refine WL.skip (wantNF rfl g16) rfl rfl ?_
            refine WL.skip (wantNF rfl g16) rfl rfl ?_
            refine WL.val (wantT rfl g14) rfl rfl (Run.pickT rfl rfl g16 rfl) ?_
            exact WL.fin J17 hs13 rfl (orT g16) ⟨rfl, rfl, rfl, rfl, rfl, rfl, rfl, trivial⟩
          · intro whs18 hs18
            refine WL.val rfl rfl rfl (Run.pickT rfl rfl g14 rfl) ?_
            exact WL.fin J15 hs18 rfl (andT g14) ⟨rfl, rfl, rfl, rfl, rfl, rfl, trivial⟩
        · intro g14 J15
          refine WL.skip (wantNT rfl g14) rfl rfl ?_
          refine WL.skip (wantNT rfl g14) rfl rfl ?_
          refine WL.skip (wantNT rfl g14) rfl rfl ?_
          refine WL.skip (wantNT rfl g14) rfl rfl ?_
          refine WL.skip (wantNT rfl g14) rfl rfl ?_
          refine WL.skip rfl rfl rfl ?_
          refine WL.skip rfl rfl rfl ?_
          refine WL.skip rfl rfl rfl ?_
          refine WL.skip rfl rfl rfl ?_
          refine WL.skip (wantNT rfl g14) rfl rfl ?_
          refine WL.val rfl rfl rfl (Run.pickF rfl rfl g14 rfl) ?_
          exact WL.fin J15 hs13 rfl (andF g14) ⟨rfl, rfl, rfl, rfl, rfl, rfl, trivial⟩
        · intro whs19 hs19
          refine WL.nil ?_
          refine tkN ?_
          refine hK10 _ _ ?_
          clear hK10
          refine WC.cond rfl (fun h20 => ?_) (fun h20 => ?_)
          · have qh20 := h20
            try simp only [decide_eq_true_eq, decide_eq_false_iff_not] at qh20
            refine WC.seq (fun K21 hK21 => ?_)
            refine WC.region ?_
            refine WL.val rfl rfl rfl (Run.assign rfl rfl) ?_
            refine WL.nil ?_
            refine tkN ?_
            refine hK21 _ _ ?_
            clear hK21
            refine WC.ret ?_
            refine ibR ?_
            refine tkR ?_
            refine tkR ?_
            refine ibR ?_
            refine tkR ?_
            clear hK9 hK3
            refine retV1 rfl (resV.tmp rfl) ?_
            refine ⟨congrArg Ending.returned ?_, hs19.nil⟩
            have e : plainB ByteArray.empty (sbyte s i) = false := by rw [plainB_empty]; simp only [Int.toNat_natCast] at qh20; exact wordB_not qh20
            simp [wordOk, isPlain, allB_false (by omega) e]
          · have qh20 := h20
            try simp only [decide_eq_true_eq, decide_eq_false_iff_not] at qh20
            refine WC.skip ?_
            refine ibN ?_
            refine tkN ?_
            refine hK9 _ _ ?_
            clear hK9
            refine WC.region ?_
            refine WL.val rfl rfl rfl (Run.move rfl rfl) ?_
            refine WL.val rfl rfl rfl (Run.add rfl rfl rfl ?_) ?_
            · constructor <;> omega
            refine WL.val rfl rfl rfl (Run.assign rfl rfl) ?_
            refine WL.nil ?_
            refine tkN ?_
            refine ⟨⟨rfl, trivial⟩, hs19, _, ?_, i + 1, rfl, ?_, ?_, ⟨rfl, trivial⟩⟩
            · omega
            · omega
            · refine upto_succ p1 ?_; rw [plainB_empty]; simp only [Int.toNat_natCast] at qh20; exact wordB_of qh20
    · have qh8 := h8
      try simp only [decide_eq_true_eq, decide_eq_false_iff_not] at qh8
      refine WC.exit ?_
      refine tkE ?_
      refine tkE ?_
      refine ibE ?_
      refine tkN ?_
      refine hK3 _ _ ?_
      clear hK3
      refine WC.seq (fun K22 hK22 => ?_)
      refine WC.region ?_
      refine WL.val rfl rfl rfl (Run.move rfl rfl) ?_
      refine WL.val rfl rfl rfl (Run.lenStr Try.runUnderlying9 rfl rfl) ?_
      refine WL.val rfl rfl rfl (Run.geq rfl rfl rfl) ?_
      refine WL.val rfl rfl rfl (Run.move rfl rfl) ?_
      apply WL.meetAnd 4 35 39 [(0, _), (3, _), (4, _), (5, _), (6, _), (7, _)] rfl hs5
      · intro g23 J24
        refine WL.val (wantT rfl g23) rfl rfl (Run.move rfl rfl) ?_
        refine WL.val (wantT rfl g23) rfl rfl (Run.lenStr Try.runUnderlying9 rfl rfl) ?_
        refine WL.val (wantT rfl g23) rfl rfl (Run.leq rfl rfl rfl) ?_
        refine WL.val rfl rfl rfl (Run.pickT rfl rfl g23 rfl) ?_
        exact WL.fin J24 hs5 rfl (andT g23) ⟨rfl, rfl, rfl, rfl, rfl, rfl, trivial⟩
      · intro g23 J24
        refine WL.skip (wantNT rfl g23) rfl rfl ?_
        refine WL.skip (wantNT rfl g23) rfl rfl ?_
        refine WL.skip (wantNT rfl g23) rfl rfl ?_
        refine WL.val rfl rfl rfl (Run.pickF rfl rfl g23 rfl) ?_
        exact WL.fin J24 hs5 rfl (andF g23) ⟨rfl, rfl, rfl, rfl, rfl, rfl, trivial⟩
      · intro whs25 hs25
        refine WL.val rfl rfl rfl (Run.assign rfl rfl) ?_
        refine WL.nil ?_
        refine tkN ?_
        refine hK22 _ _ ?_
        clear hK22
        refine WC.ret ?_
        refine retV1 rfl (resV.tmp rfl) ?_
        refine ⟨congrArg Ending.returned ?_, hs25.nil⟩
        simp only [wordOk, isPlain, allB_true p1 (by omega), Bool.true_and]; rfl
theorem c_spec_l16Has (k : Int) (w : World) :
    Calls Try.prog 45 #[i64 k] w fun e w' => ∃ b, e = .returned (.slice (some ⟨b, 0, none⟩) 6 6) ∧ St w [] [(b, .cells (hasL k).toArray 4 (0, 0))] w' := by
  refine enter (vs := [i64 k]) 27 Try.func45 rfl Try.ntmps45 rfl rfl ?_
  have hs1 := St.init w
  refine WC.seq (fun K2 hK2 => ?_)
  refine WC.region ?_
  refine WL.val rfl rfl rfl (Run.assign rfl rfl) ?_
  refine WL.nil ?_
  refine tkN ?_
  refine hK2 _ _ ?_
  clear hK2
  refine WC.seq (fun K3 hK3 => ?_)
  refine WC.seq (fun K4 hK4 => ?_)
  refine WC.region ?_
  refine WL.val rfl rfl rfl (Run.move rfl rfl) ?_
  refine WL.nil ?_
  refine tkN ?_
  refine hK4 _ _ ?_
  clear hK4
  refine WC.block ?_
  refine WC.seq (fun K5 hK5 => ?_)
  refine WC.seq (fun K6 hK6 => ?_)
  refine WC.region ?_
  refine WL.val rfl rfl rfl (Run.eql rfl rfl rfl) ?_
  refine WL.val rfl rfl rfl (Run.assign rfl rfl) ?_
  refine WL.nil ?_
  refine tkN ?_
  refine hK6 _ _ ?_
  clear hK6
  refine WC.cond rfl (fun h7 => ?_) (fun h7 => ?_)
  · have qh7 := h7
    try simp only [decide_eq_true_eq, decide_eq_false_iff_not, Bool.not_eq_true', Bool.not_eq_false', Bool.and_eq_true, Bool.or_eq_false_iff, within_iff, within_not] at qh7
    refine WC.skip ?_
    refine tkN ?_
    refine hK5 _ _ ?_
    clear hK5
    refine WC.condT rfl h7 ?_
    refine WC.seq (fun K9 hK9 => ?_)
    refine WC.region ?_
    refine WL.buildSlice hs1 Try.runUnderlying75 Try.sizeOf4 Try.zeroValue4 rfl rfl rfl rfl rfl rfl rfl rfl rfl rfl (fun b10 whs11 hs11 => ?_)
    refine WL.val rfl rfl rfl (Run.assign rfl rfl) ?_
    refine WL.nil ?_
    refine tkN ?_
    refine hK9 _ _ ?_
    clear hK9
    refine WC.ret ?_
    refine ibR ?_
    refine tkR ?_
    clear hK3
    refine retV1 rfl (resV.tmp rfl) ?_
    refine ⟨_, rfl, ?_⟩
    simp only [decide_eq_true_eq, decide_eq_false_iff_not] at *
    refine hs11.eq ?_
    simp [hasL, hasAt, has, cellsOf, *]
  · have qh7 := h7
    try simp only [decide_eq_true_eq, decide_eq_false_iff_not, Bool.not_eq_true', Bool.not_eq_false', Bool.and_eq_true, Bool.or_eq_false_iff, within_iff, within_not] at qh7
    refine WC.region ?_
    refine WL.val rfl rfl rfl (Run.eql rfl rfl rfl) ?_
    refine WL.val rfl rfl rfl (Run.assign rfl rfl) ?_
    refine WL.nil ?_
    refine tkN ?_
    refine hK5 _ _ ?_
    clear hK5
    refine WC.cond rfl (fun h12 => ?_) (fun h12 => ?_)
    · have qh12 := h12
      try simp only [decide_eq_true_eq, decide_eq_false_iff_not, Bool.not_eq_true', Bool.not_eq_false', Bool.and_eq_true, Bool.or_eq_false_iff, within_iff, within_not] at qh12
      refine WC.seq (fun K13 hK13 => ?_)
      refine WC.region ?_
      refine WL.buildSlice hs1 Try.runUnderlying75 Try.sizeOf4 Try.zeroValue4 rfl rfl rfl rfl rfl rfl rfl rfl rfl rfl (fun b14 whs15 hs15 => ?_)
      refine WL.val rfl rfl rfl (Run.assign rfl rfl) ?_
      refine WL.nil ?_
      refine tkN ?_
      refine hK13 _ _ ?_
      clear hK13
      refine WC.ret ?_
      refine ibR ?_
      refine tkR ?_
      clear hK3
      refine retV1 rfl (resV.tmp rfl) ?_
      refine ⟨_, rfl, ?_⟩
      simp only [decide_eq_true_eq, decide_eq_false_iff_not] at *
      refine hs15.eq ?_
      simp [hasL, hasAt, has, cellsOf, *]
    · have qh12 := h12
      try simp only [decide_eq_true_eq, decide_eq_false_iff_not, Bool.not_eq_true', Bool.not_eq_false', Bool.and_eq_true, Bool.or_eq_false_iff, within_iff, within_not] at qh12
      refine WC.seq (fun K16 hK16 => ?_)
      refine WC.region ?_
      refine WL.val rfl rfl rfl (Run.eql rfl rfl rfl) ?_
      refine WL.val rfl rfl rfl (Run.assign rfl rfl) ?_
      refine WL.nil ?_
      refine tkN ?_
      refine hK16 _ _ ?_
      clear hK16
      refine WC.cond rfl (fun h17 => ?_) (fun h17 => ?_)
      · have qh17 := h17
        try simp only [decide_eq_true_eq, decide_eq_false_iff_not, Bool.not_eq_true', Bool.not_eq_false', Bool.and_eq_true, Bool.or_eq_false_iff, within_iff, within_not] at qh17
        refine WC.seq (fun K18 hK18 => ?_)
        refine WC.region ?_
        refine WL.buildSlice hs1 Try.runUnderlying75 Try.sizeOf4 Try.zeroValue4 rfl rfl rfl rfl rfl rfl rfl rfl rfl rfl (fun b19 whs20 hs20 => ?_)
        refine WL.val rfl rfl rfl (Run.assign rfl rfl) ?_
        refine WL.nil ?_
        refine tkN ?_
        refine hK18 _ _ ?_
        clear hK18
        refine WC.ret ?_
        refine ibR ?_
        refine tkR ?_
        clear hK3
        refine retV1 rfl (resV.tmp rfl) ?_
        refine ⟨_, rfl, ?_⟩
        simp only [decide_eq_true_eq, decide_eq_false_iff_not] at *
        refine hs20.eq ?_
        simp [hasL, hasAt, has, cellsOf, *]
      · have qh17 := h17
        try simp only [decide_eq_true_eq, decide_eq_false_iff_not, Bool.not_eq_true', Bool.not_eq_false', Bool.and_eq_true, Bool.or_eq_false_iff, within_iff, within_not] at qh17
        refine WC.seq (fun K21 hK21 => ?_)
        refine WC.region ?_
        refine WL.val rfl rfl rfl (Run.eql rfl rfl rfl) ?_
        refine WL.val rfl rfl rfl (Run.assign rfl rfl) ?_
        refine WL.nil ?_
        refine tkN ?_
        refine hK21 _ _ ?_
        clear hK21
        refine WC.cond rfl (fun h22 => ?_) (fun h22 => ?_)
        · have qh22 := h22
          try simp only [decide_eq_true_eq, decide_eq_false_iff_not, Bool.not_eq_true', Bool.not_eq_false', Bool.and_eq_true, Bool.or_eq_false_iff, within_iff, within_not] at qh22
          refine WC.seq (fun K23 hK23 => ?_)
          refine WC.region ?_
          refine WL.buildSlice hs1 Try.runUnderlying75 Try.sizeOf4 Try.zeroValue4 rfl rfl rfl rfl rfl rfl rfl rfl rfl rfl (fun b24 whs25 hs25 => ?_)
          refine WL.val rfl rfl rfl (Run.assign rfl rfl) ?_
          refine WL.nil ?_
          refine tkN ?_
          refine hK23 _ _ ?_
          clear hK23
          refine WC.ret ?_
          refine ibR ?_
          refine tkR ?_
          clear hK3
          refine retV1 rfl (resV.tmp rfl) ?_
          refine ⟨_, rfl, ?_⟩
          simp only [decide_eq_true_eq, decide_eq_false_iff_not] at *
          refine hs25.eq ?_
          simp [hasL, hasAt, has, cellsOf, *]
        · have qh22 := h22
          try simp only [decide_eq_true_eq, decide_eq_false_iff_not, Bool.not_eq_true', Bool.not_eq_false', Bool.and_eq_true, Bool.or_eq_false_iff, within_iff, within_not] at qh22
          refine WC.seq (fun K26 hK26 => ?_)
          refine WC.seq (fun K27 hK27 => ?_)
          refine WC.region ?_
          refine WL.val rfl rfl rfl (Run.eql rfl rfl rfl) ?_
          refine WL.val rfl rfl rfl (Run.assign rfl rfl) ?_
          refine WL.nil ?_
          refine tkN ?_
          refine hK27 _ _ ?_
          clear hK27
          refine WC.cond rfl (fun h28 => ?_) (fun h28 => ?_)
          · have qh28 := h28
            try simp only [decide_eq_true_eq, decide_eq_false_iff_not, Bool.not_eq_true', Bool.not_eq_false', Bool.and_eq_true, Bool.or_eq_false_iff, within_iff, within_not] at qh28
            refine WC.skip ?_
            refine tkN ?_
            refine hK26 _ _ ?_
            clear hK26
            refine WC.condT rfl h28 ?_
            refine WC.seq (fun K30 hK30 => ?_)
            refine WC.region ?_
            refine WL.buildSlice hs1 Try.runUnderlying75 Try.sizeOf4 Try.zeroValue4 rfl rfl rfl rfl rfl rfl rfl rfl rfl rfl (fun b31 whs32 hs32 => ?_)
            refine WL.val rfl rfl rfl (Run.assign rfl rfl) ?_
            refine WL.nil ?_
            refine tkN ?_
            refine hK30 _ _ ?_
            clear hK30
            refine WC.ret ?_
            refine ibR ?_
            refine tkR ?_
            clear hK3
            refine retV1 rfl (resV.tmp rfl) ?_
            refine ⟨_, rfl, ?_⟩
            simp only [decide_eq_true_eq, decide_eq_false_iff_not] at *
            refine hs32.eq ?_
            simp [hasL, hasAt, has, cellsOf, *]
          · have qh28 := h28
            try simp only [decide_eq_true_eq, decide_eq_false_iff_not, Bool.not_eq_true', Bool.not_eq_false', Bool.and_eq_true, Bool.or_eq_false_iff, within_iff, within_not] at qh28
            refine WC.seq (fun K33 hK33 => ?_)
            refine WC.region ?_
            refine WL.val rfl rfl rfl (Run.eql rfl rfl rfl) ?_
            refine WL.val rfl rfl rfl (Run.assign rfl rfl) ?_
            refine WL.nil ?_
            refine tkN ?_
            refine hK33 _ _ ?_
            clear hK33
            refine WC.cond rfl (fun h34 => ?_) (fun h34 => ?_)
            · have qh34 := h34
              try simp only [decide_eq_true_eq, decide_eq_false_iff_not, Bool.not_eq_true', Bool.not_eq_false', Bool.and_eq_true, Bool.or_eq_false_iff, within_iff, within_not] at qh34
              refine WC.skip ?_
              refine tkN ?_
              refine hK26 _ _ ?_
              clear hK26
              refine WC.condT rfl h34 ?_
              refine WC.seq (fun K36 hK36 => ?_)
              refine WC.region ?_
              refine WL.buildSlice hs1 Try.runUnderlying75 Try.sizeOf4 Try.zeroValue4 rfl rfl rfl rfl rfl rfl rfl rfl rfl rfl (fun b37 whs38 hs38 => ?_)
              refine WL.val rfl rfl rfl (Run.assign rfl rfl) ?_
              refine WL.nil ?_
              refine tkN ?_
              refine hK36 _ _ ?_
              clear hK36
              refine WC.ret ?_
              refine ibR ?_
              refine tkR ?_
              clear hK3
              refine retV1 rfl (resV.tmp rfl) ?_
              refine ⟨_, rfl, ?_⟩
              simp only [decide_eq_true_eq, decide_eq_false_iff_not] at *
              refine hs38.eq ?_
              simp [hasL, hasAt, has, cellsOf, *]
            · have qh34 := h34
              try simp only [decide_eq_true_eq, decide_eq_false_iff_not, Bool.not_eq_true', Bool.not_eq_false', Bool.and_eq_true, Bool.or_eq_false_iff, within_iff, within_not] at qh34
              refine WC.seq (fun K39 hK39 => ?_)
              refine WC.region ?_
              refine WL.val rfl rfl rfl (Run.eql rfl rfl rfl) ?_
              refine WL.val rfl rfl rfl (Run.assign rfl rfl) ?_
              refine WL.nil ?_
              refine tkN ?_
              refine hK39 _ _ ?_
              clear hK39
              refine WC.cond rfl (fun h40 => ?_) (fun h40 => ?_)
              · have qh40 := h40
                try simp only [decide_eq_true_eq, decide_eq_false_iff_not, Bool.not_eq_true', Bool.not_eq_false', Bool.and_eq_true, Bool.or_eq_false_iff, within_iff, within_not] at qh40
                refine WC.skip ?_
                refine tkN ?_
                refine hK26 _ _ ?_
                clear hK26
                refine WC.condT rfl h40 ?_
                refine WC.seq (fun K42 hK42 => ?_)
                refine WC.region ?_
                refine WL.buildSlice hs1 Try.runUnderlying75 Try.sizeOf4 Try.zeroValue4 rfl rfl rfl rfl rfl rfl rfl rfl rfl rfl (fun b43 whs44 hs44 => ?_)
                refine WL.val rfl rfl rfl (Run.assign rfl rfl) ?_
                refine WL.nil ?_
                refine tkN ?_
                refine hK42 _ _ ?_
                clear hK42
                refine WC.ret ?_
                refine ibR ?_
                refine tkR ?_
                clear hK3
                refine retV1 rfl (resV.tmp rfl) ?_
                refine ⟨_, rfl, ?_⟩
                simp only [decide_eq_true_eq, decide_eq_false_iff_not] at *
                refine hs44.eq ?_
                simp [hasL, hasAt, has, cellsOf, *]
              · have qh40 := h40
                try simp only [decide_eq_true_eq, decide_eq_false_iff_not, Bool.not_eq_true', Bool.not_eq_false', Bool.and_eq_true, Bool.or_eq_false_iff, within_iff, within_not] at qh40
                refine WC.region ?_
                refine WL.val rfl rfl rfl (Run.eql rfl rfl rfl) ?_
                refine WL.val rfl rfl rfl (Run.assign rfl rfl) ?_
                refine WL.nil ?_
                refine tkN ?_
                refine hK26 _ _ ?_
                clear hK26
                refine WC.cond rfl (fun h45 => ?_) (fun h45 => ?_)
                · have qh45 := h45
                  try simp only [decide_eq_true_eq, decide_eq_false_iff_not, Bool.not_eq_true', Bool.not_eq_false', Bool.and_eq_true, Bool.or_eq_false_iff, within_iff, within_not] at qh45
                  refine WC.seq (fun K46 hK46 => ?_)
                  refine WC.region ?_
                  refine WL.buildSlice hs1 Try.runUnderlying75 Try.sizeOf4 Try.zeroValue4 rfl rfl rfl rfl rfl rfl rfl rfl rfl rfl (fun b47 whs48 hs48 => ?_)
                  refine WL.val rfl rfl rfl (Run.assign rfl rfl) ?_
                  refine WL.nil ?_
                  refine tkN ?_
                  refine hK46 _ _ ?_
                  clear hK46
                  refine WC.ret ?_
                  refine ibR ?_
                  refine tkR ?_
                  clear hK3
                  refine retV1 rfl (resV.tmp rfl) ?_
                  refine ⟨_, rfl, ?_⟩
                  simp only [decide_eq_true_eq, decide_eq_false_iff_not] at *
                  refine hs48.eq ?_
                  simp [hasL, hasAt, has, cellsOf, *]
                · have qh45 := h45
                  try simp only [decide_eq_true_eq, decide_eq_false_iff_not, Bool.not_eq_true', Bool.not_eq_false', Bool.and_eq_true, Bool.or_eq_false_iff, within_iff, within_not] at qh45
                  refine WC.seq (fun K49 hK49 => ?_)
                  refine WC.region ?_
                  refine WL.val rfl rfl rfl (Run.eql rfl rfl rfl) ?_
                  refine WL.val rfl rfl rfl (Run.assign rfl rfl) ?_
                  refine WL.nil ?_
                  refine tkN ?_
                  refine hK49 _ _ ?_
                  clear hK49
                  refine WC.cond rfl (fun h50 => ?_) (fun h50 => ?_)
                  · have qh50 := h50
                    try simp only [decide_eq_true_eq, decide_eq_false_iff_not, Bool.not_eq_true', Bool.not_eq_false', Bool.and_eq_true, Bool.or_eq_false_iff, within_iff, within_not] at qh50
                    refine WC.seq (fun K51 hK51 => ?_)
                    refine WC.region ?_
                    refine WL.buildSlice hs1 Try.runUnderlying75 Try.sizeOf4 Try.zeroValue4 rfl rfl rfl rfl rfl rfl rfl rfl rfl rfl (fun b52 whs53 hs53 => ?_)
                    refine WL.val rfl rfl rfl (Run.assign rfl rfl) ?_
                    refine WL.nil ?_
                    refine tkN ?_
                    refine hK51 _ _ ?_
                    clear hK51
                    refine WC.ret ?_
                    refine ibR ?_
                    refine tkR ?_
                    clear hK3
                    refine retV1 rfl (resV.tmp rfl) ?_
                    refine ⟨_, rfl, ?_⟩
                    simp only [decide_eq_true_eq, decide_eq_false_iff_not] at *
                    refine hs53.eq ?_
                    simp [hasL, hasAt, has, cellsOf, *]
                  · have qh50 := h50
                    try simp only [decide_eq_true_eq, decide_eq_false_iff_not, Bool.not_eq_true', Bool.not_eq_false', Bool.and_eq_true, Bool.or_eq_false_iff, within_iff, within_not] at qh50
                    refine WC.seq (fun K54 hK54 => ?_)
                    refine WC.region ?_
                    refine WL.val rfl rfl rfl (Run.eql rfl rfl rfl) ?_
                    refine WL.val rfl rfl rfl (Run.assign rfl rfl) ?_
                    refine WL.nil ?_
                    refine tkN ?_
                    refine hK54 _ _ ?_
                    clear hK54
                    refine WC.cond rfl (fun h55 => ?_) (fun h55 => ?_)
                    · have qh55 := h55
                      try simp only [decide_eq_true_eq, decide_eq_false_iff_not, Bool.not_eq_true', Bool.not_eq_false', Bool.and_eq_true, Bool.or_eq_false_iff, within_iff, within_not] at qh55
                      refine WC.seq (fun K56 hK56 => ?_)
                      refine WC.region ?_
                      refine WL.buildSlice hs1 Try.runUnderlying75 Try.sizeOf4 Try.zeroValue4 rfl rfl rfl rfl rfl rfl rfl rfl rfl rfl (fun b57 whs58 hs58 => ?_)
                      refine WL.val rfl rfl rfl (Run.assign rfl rfl) ?_
                      refine WL.nil ?_
                      refine tkN ?_
                      refine hK56 _ _ ?_
                      clear hK56
                      refine WC.ret ?_
                      refine ibR ?_
                      refine tkR ?_
                      clear hK3
                      refine retV1 rfl (resV.tmp rfl) ?_
                      refine ⟨_, rfl, ?_⟩
                      simp only [decide_eq_true_eq, decide_eq_false_iff_not] at *
                      refine hs58.eq ?_
                      simp [hasL, hasAt, has, cellsOf, *]
                    · have qh55 := h55
                      try simp only [decide_eq_true_eq, decide_eq_false_iff_not, Bool.not_eq_true', Bool.not_eq_false', Bool.and_eq_true, Bool.or_eq_false_iff, within_iff, within_not] at qh55
                      refine WC.skip ?_
                      refine ibN ?_
                      refine tkN ?_
                      refine hK3 _ _ ?_
                      clear hK3
                      refine WC.seq (fun K59 hK59 => ?_)
                      refine WC.region ?_
                      refine WL.buildSlice hs1 Try.runUnderlying75 Try.sizeOf4 Try.zeroValue4 rfl rfl rfl rfl rfl rfl rfl rfl rfl rfl (fun b60 whs61 hs61 => ?_)
                      refine WL.val rfl rfl rfl (Run.assign rfl rfl) ?_
                      refine WL.nil ?_
                      refine tkN ?_
                      refine hK59 _ _ ?_
                      clear hK59
                      refine WC.ret ?_
                      refine retV1 rfl (resV.tmp rfl) ?_
                      refine ⟨_, rfl, ?_⟩
                      simp only [decide_eq_true_eq, decide_eq_false_iff_not] at *
                      refine hs61.eq ?_
                      simp [hasL, hasAt, has, cellsOf, *]
theorem c_laws_szOp (o_Kind : Int) (o_A : Int) (o_B : Int) (o_C : Int) (o_Name : ByteArray) (o_Text : ByteArray) (o_Dir : ByteArray) (A_o_Data : Option Addr) (n_o_Data c_o_Data : Nat) (o_Data : List UInt8) (left : Int) (w : World) (f_o_Data : SlF encB w A_o_Data n_o_Data o_Data) (h1 : 0 ≤ left) (h2 : left ≤ 1048576) (h3 : o_Name.size ≤ 9223372036854775807) (h4 : o_Text.size ≤ 9223372036854775807) (h5 : o_Dir.size ≤ 9223372036854775807) (h6 : n_o_Data ≤ 9223372036854775807) :
    Calls Try.prog 10 #[.agg #[i64 o_Kind, i64 o_A, i64 o_B, i64 o_C, .string o_Name, .string o_Text, .string o_Dir, .slice A_o_Data n_o_Data c_o_Data], i64 left] w fun e w' => e = .returned (.int .i64 (szR left (o_Name.size + o_Text.size + o_Dir.size + n_o_Data))) ∧ St w [] [] w' := by
  refine enter (vs := [.agg #[i64 o_Kind, i64 o_A, i64 o_B, i64 o_C, .string o_Name, .string o_Text, .string o_Dir, .slice A_o_Data n_o_Data c_o_Data], i64 left]) 33 Try.func10 rfl Try.ntmps10 rfl rfl ?_
  have hs1 := St.init w
  refine WC.seq (fun K2 hK2 => ?_)
  refine WC.region ?_
  refine WL.box hs1 rfl rfl rfl rfl rfl rfl (fun b3 whs4 hs4 => ?_)
  refine WL.val rfl rfl rfl (Run.assign rfl rfl) ?_
  refine WL.nil ?_
  refine tkN ?_
  refine hK2 _ _ ?_
  clear hK2
  refine WC.seq (fun K5 hK5 => ?_)
  refine WC.region ?_
  refine WL.val rfl rfl rfl (Run.move rfl rfl) ?_
  refine WL.val rfl rfl rfl (Run.field Try.runUnderlying24 rfl rfl rfl Try.sizeOf9 rfl) ?_
  refine WL.val rfl rfl rfl (Run.loadL hs4 0 Try.isAgg9 rfl rfl rfl rfl) ?_
  refine WL.val rfl rfl rfl (Run.lenStr Try.runUnderlying9 rfl rfl) ?_
  refine WL.val rfl rfl rfl (Run.sub rfl rfl rfl ?_) ?_
  · constructor <;> omega
  refine WL.val rfl rfl rfl (Run.assign rfl rfl) ?_
  refine WL.nil ?_
  refine tkN ?_
  refine hK5 _ _ ?_
  clear hK5
  refine WC.seq (fun K6 hK6 => ?_)
  refine WC.seq (fun K7 hK7 => ?_)
  refine WC.region ?_
  refine WL.val rfl rfl rfl (Run.move rfl rfl) ?_
  refine WL.val rfl rfl rfl (Run.lss rfl rfl rfl) ?_
  refine WL.nil ?_
  refine tkN ?_
  refine hK7 _ _ ?_
  clear hK7
  refine WC.cond rfl (fun h8 => ?_) (fun h8 => ?_)
  · have qh8 := h8
    try simp only [decide_eq_true_eq, decide_eq_false_iff_not, Bool.not_eq_true', Bool.not_eq_false', Bool.and_eq_true, Bool.or_eq_false_iff, within_iff, within_not] at qh8
    refine WC.seq (fun K9 hK9 => ?_)
    refine WC.region ?_
    refine WL.val rfl rfl rfl (Run.assign rfl rfl) ?_
    refine WL.nil ?_
    refine tkN ?_
    refine hK9 _ _ ?_
    clear hK9
    refine WC.ret ?_
    refine tkR ?_
    clear hK6
    refine retV1 rfl (resV.tmp rfl) ?_
    refine ⟨congrArg Ending.returned ?_, hs4.nil⟩
    simp only [szR] at *; (repeat' split at *) <;> first | rfl | omega | (congr 1; omega)
  · have qh8 := h8
    try simp only [decide_eq_true_eq, decide_eq_false_iff_not, Bool.not_eq_true', Bool.not_eq_false', Bool.and_eq_true, Bool.or_eq_false_iff, within_iff, within_not] at qh8
    refine WC.skip ?_
    refine tkN ?_
    refine hK6 _ _ ?_
    clear hK6
    refine WC.seq (fun K10 hK10 => ?_)
    refine WC.region ?_
    refine WL.val rfl rfl rfl (Run.move rfl rfl) ?_
    refine WL.val rfl rfl rfl (Run.field Try.runUnderlying24 rfl rfl rfl Try.sizeOf9 rfl) ?_
    refine WL.val rfl rfl rfl (Run.loadL hs4 0 Try.isAgg9 rfl rfl rfl rfl) ?_
    refine WL.val rfl rfl rfl (Run.lenStr Try.runUnderlying9 rfl rfl) ?_
    refine WL.val rfl rfl rfl (Run.sub rfl rfl rfl ?_) ?_
    · constructor <;> omega
    refine WL.val rfl rfl rfl (Run.assign rfl rfl) ?_
    refine WL.nil ?_
    refine tkN ?_
    refine hK10 _ _ ?_
    clear hK10
    refine WC.seq (fun K11 hK11 => ?_)
    refine WC.seq (fun K12 hK12 => ?_)
    refine WC.region ?_
    refine WL.val rfl rfl rfl (Run.move rfl rfl) ?_
    refine WL.val rfl rfl rfl (Run.lss rfl rfl rfl) ?_
    refine WL.nil ?_
    refine tkN ?_
    refine hK12 _ _ ?_
    clear hK12
    refine WC.cond rfl (fun h13 => ?_) (fun h13 => ?_)
    · have qh13 := h13
      try simp only [decide_eq_true_eq, decide_eq_false_iff_not, Bool.not_eq_true', Bool.not_eq_false', Bool.and_eq_true, Bool.or_eq_false_iff, within_iff, within_not] at qh13
      refine WC.seq (fun K14 hK14 => ?_)
      refine WC.region ?_
      refine WL.val rfl rfl rfl (Run.assign rfl rfl) ?_
      refine WL.nil ?_
      refine tkN ?_
      refine hK14 _ _ ?_
      clear hK14
      refine WC.ret ?_
      refine tkR ?_
      clear hK11
      refine retV1 rfl (resV.tmp rfl) ?_
      refine ⟨congrArg Ending.returned ?_, hs4.nil⟩
      simp only [szR] at *; (repeat' split at *) <;> first | rfl | omega | (congr 1; omega)
    · have qh13 := h13
      try simp only [decide_eq_true_eq, decide_eq_false_iff_not, Bool.not_eq_true', Bool.not_eq_false', Bool.and_eq_true, Bool.or_eq_false_iff, within_iff, within_not] at qh13
      refine WC.skip ?_
      refine tkN ?_
      refine hK11 _ _ ?_
      clear hK11
      refine WC.seq (fun K15 hK15 => ?_)
      refine WC.region ?_
      refine WL.val rfl rfl rfl (Run.move rfl rfl) ?_
      refine WL.val rfl rfl rfl (Run.field Try.runUnderlying24 rfl rfl rfl Try.sizeOf9 rfl) ?_
      refine WL.val rfl rfl rfl (Run.loadL hs4 0 Try.isAgg9 rfl rfl rfl rfl) ?_
      refine WL.val rfl rfl rfl (Run.lenStr Try.runUnderlying9 rfl rfl) ?_
      refine WL.val rfl rfl rfl (Run.sub rfl rfl rfl ?_) ?_
      · constructor <;> omega
      refine WL.val rfl rfl rfl (Run.assign rfl rfl) ?_
      refine WL.nil ?_
      refine tkN ?_
      refine hK15 _ _ ?_
      clear hK15
      refine WC.seq (fun K16 hK16 => ?_)
      refine WC.seq (fun K17 hK17 => ?_)
      refine WC.region ?_
      refine WL.val rfl rfl rfl (Run.move rfl rfl) ?_
      refine WL.val rfl rfl rfl (Run.lss rfl rfl rfl) ?_
      refine WL.nil ?_
      refine tkN ?_
      refine hK17 _ _ ?_
      clear hK17
      refine WC.cond rfl (fun h18 => ?_) (fun h18 => ?_)
      · have qh18 := h18
        try simp only [decide_eq_true_eq, decide_eq_false_iff_not, Bool.not_eq_true', Bool.not_eq_false', Bool.and_eq_true, Bool.or_eq_false_iff, within_iff, within_not] at qh18
        refine WC.seq (fun K19 hK19 => ?_)
        refine WC.region ?_
        refine WL.val rfl rfl rfl (Run.assign rfl rfl) ?_
        refine WL.nil ?_
        refine tkN ?_
        refine hK19 _ _ ?_
        clear hK19
        refine WC.ret ?_
        refine tkR ?_
        clear hK16
        refine retV1 rfl (resV.tmp rfl) ?_
        refine ⟨congrArg Ending.returned ?_, hs4.nil⟩
        simp only [szR] at *; (repeat' split at *) <;> first | rfl | omega | (congr 1; omega)
      · have qh18 := h18
        try simp only [decide_eq_true_eq, decide_eq_false_iff_not, Bool.not_eq_true', Bool.not_eq_false', Bool.and_eq_true, Bool.or_eq_false_iff, within_iff, within_not] at qh18
        refine WC.skip ?_
        refine tkN ?_
        refine hK16 _ _ ?_
        clear hK16
        refine WC.seq (fun K20 hK20 => ?_)
        refine WC.region ?_
        refine WL.val rfl rfl rfl (Run.field Try.runUnderlying24 rfl rfl rfl Try.sizeOf22 rfl) ?_
        refine WL.val rfl rfl rfl (Run.loadL hs4 0 Try.isAgg22 rfl rfl rfl rfl) ?_
        refine WL.val rfl rfl rfl (Run.move rfl rfl) ?_
        refine WL.call rfl rfl rfl (Run.call Try.call44 rfl rfl rfl) (c_laws_szByteS _ _ _ _ _ _ (SlF.st0 f_o_Data hs4) ?_ ?_ ?_) ?_
        · first | assumption | rfl | omega
        · first | assumption | rfl | omega
        · first | assumption | rfl | omega
        rintro _ whs21 ⟨rfl, hs21⟩
        replace hs21 := hs4.call0 hs21
        refine ⟨_, rfl, ?_⟩
        refine WL.val rfl rfl rfl (Run.assign rfl rfl) ?_
        refine WL.nil ?_
        refine tkN ?_
        refine hK20 _ _ ?_
        clear hK20
        refine WC.seq (fun K22 hK22 => ?_)
        refine WC.seq (fun K23 hK23 => ?_)
        refine WC.region ?_
        refine WL.val rfl rfl rfl (Run.move rfl rfl) ?_
        refine WL.val rfl rfl rfl (Run.lss rfl rfl rfl) ?_
        refine WL.nil ?_
        refine tkN ?_
        refine hK23 _ _ ?_
        clear hK23
        refine WC.cond rfl (fun h24 => ?_) (fun h24 => ?_)
        · have qh24 := h24
          try simp only [decide_eq_true_eq, decide_eq_false_iff_not, Bool.not_eq_true', Bool.not_eq_false', Bool.and_eq_true, Bool.or_eq_false_iff, within_iff, within_not] at qh24
          refine WC.seq (fun K25 hK25 => ?_)
          refine WC.region ?_
          refine WL.val rfl rfl rfl (Run.assign rfl rfl) ?_
          refine WL.nil ?_
          refine tkN ?_
          refine hK25 _ _ ?_
          clear hK25
          refine WC.ret ?_
          refine tkR ?_
          clear hK22
          refine retV1 rfl (resV.tmp rfl) ?_
          refine ⟨congrArg Ending.returned ?_, hs21.nil⟩
          simp only [szR] at *; (repeat' split at *) <;> first | rfl | omega | (congr 1; omega)
        · have qh24 := h24
          try simp only [decide_eq_true_eq, decide_eq_false_iff_not, Bool.not_eq_true', Bool.not_eq_false', Bool.and_eq_true, Bool.or_eq_false_iff, within_iff, within_not] at qh24
          refine WC.skip ?_
          refine tkN ?_
          refine hK22 _ _ ?_
          clear hK22
          refine WC.seq (fun K26 hK26 => ?_)
          refine WC.region ?_
          refine WL.val rfl rfl rfl (Run.move rfl rfl) ?_
          refine WL.val rfl rfl rfl (Run.assign rfl rfl) ?_
          refine WL.nil ?_
          refine tkN ?_
          refine hK26 _ _ ?_
          clear hK26
          refine WC.ret ?_
          refine retV1 rfl (resV.tmp rfl) ?_
          refine ⟨congrArg Ending.returned ?_, hs21.nil⟩
          simp only [szR] at *; (repeat' split at *) <;> first | rfl | omega | (congr 1; omega)
end Go.Proofs.Ytpiimkfonlijdaa
