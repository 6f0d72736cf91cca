/- Walks of Go functions, printed by a program (wip/gen). -/
import Derived.Test.YtlmcekfdlgkffaaP2
namespace Go.Proofs.Ytlmcekfdlgkffaa
open Go Go.RowKit
set_option linter.unusedVariables false
set_option linter.unusedSimpArgs false
theorem c_impl_RuneBegin (A_b : Option Addr) (n_b c_b : Nat) (b : List UInt8) (w : World) (f_b : SlF encB w A_b n_b b) (hc : n_b ≤ c_b) (hn : n_b ≤ 549755813888) :
    Calls Try.prog 137 #[.slice A_b n_b c_b] w fun e w' => e = .returned (.bool (runeBeg b)) ∧ St w [] [] w' := by
 have hbl := f_b.len
 have hb0 : (gat encB b (Int.toNat 0)).toNat < 2 ^ 8 := (gat encB b 0).toNat_lt
 refine enter (vs := [.slice A_b n_b c_b]) 47 Try.func137 rfl Try.ntmps137 rfl rfl ?_
 have hs1 := St.init w
 refine WC.rr tbk hs1 [] rfl trivial ?_
 refine WC.seq (fun K2 hK2 => ?_)
 refine WC.rr tbk hs1 [] rfl trivial ?_
 refine WC.block ?_
 refine WC.rr tbk hs1 [] rfl trivial ?_
 refine WC.cD rfl (fun qh3 => ?_) (fun qh3 => ?_)
 ·refine WC.sr ?_
  refine WL.run tbk 1 hs1 [] rfl trivial ?_
  refine WL.val rfl rfl rfl (Run.idx Try.runUnderlying23 Try.sizeOf5 rfl rfl rfl ?_ ?_ ?_) ?_
  · exact SlF.some_ (SlF.st0 f_b hs1)
  · omega
  · omega
  refine WL.val rfl rfl rfl (Run.load Try.isAgg5 rfl rfl (SlF.one1 (SlF.st0 f_b hs1) ?_ rfl)) ?_
  · omega
  refine WL.run tbk 1 hs1 [] rfl ⟨(u8_in _), trivial⟩ ?_
  refine WL.call rfl rfl rfl (Run.call Try.call72 rfl rfl rfl) (c_impl_within _ _ _ _) ?_
  rintro _ whs4 ⟨rfl, hs4⟩
  replace hs4 := hs1.call0 hs4
  refine ⟨_, rfl, ?_⟩
  refine WL.run tbk 1 hs4 [] rfl trivial ?_
  refine WL.nil ?_
  refine WC.ret ?_
  refine ibR (tkR ?_)
  clear hK2
  refine retV1 rfl (resV.tmp rfl) ?_
  refine ⟨congrArg Ending.returned ?_, hs4.nil⟩
  obtain ⟨x, rfl⟩ : ∃ x, b = [x] := List.length_eq_one_iff.1 (by omega)
  rfl
 ·refine WC.rr tbk hs1 [] rfl trivial ?_
  refine WC.cD rfl (fun qh5 => ?_) (fun qh5 => ?_)
  ·have htl := tlV_bnd (l := b.drop 1) (by rw [List.length_drop]; omega)
   refine WC.sr ?_
   refine WL.run tbk 1 hs1 [] rfl trivial ?_
   refine WL.val rfl rfl rfl (Run.sliceL (1) Try.runUnderlying23 Try.sizeOf5 rfl rfl rfl ?_ ?_) ?_
   · first | rfl | (omega)
   · refine ⟨?_, ?_, ?_⟩ <;> (omega)
   refine WL.call rfl rfl rfl (Run.call Try.call183 rfl rfl rfl) (c_impl_tails _ _ _ _ _ (SlF.cutL (1) (SlF.st0 f_b hs1) (by refine ⟨?_, ?_, ?_⟩ <;> (omega))) ?_) ?_
   · first | assumption | rfl | omega
   rintro _ whs6 ⟨rfl, hs6⟩
   replace hs6 := hs1.call0 hs6
   refine ⟨_, rfl, ?_⟩
   refine WL.run tbk 5 hs6 [] rfl trivial ?_
   refine WL.nil ?_
   refine WC.sr ?_
   refine WL.run tbk 1 hs6 [] rfl trivial ?_
   refine WL.val rfl rfl rfl (Run.idx Try.runUnderlying23 Try.sizeOf5 rfl rfl rfl ?_ ?_ ?_) ?_
   · exact SlF.some_ (SlF.st0 f_b hs6)
   · omega
   · omega
   refine WL.val rfl rfl rfl (Run.load Try.isAgg5 rfl rfl (SlF.one1 (SlF.st0 f_b hs6) ?_ rfl)) ?_
   · omega
   refine WL.run tbk 7 hs6 [] rfl ⟨by omega, by omega, by omega, by omega, (u8_in _), trivial⟩ ?_
   refine WL.nil ?_
   refine WC.sr ?_
   refine WL.run tbk 2 hs6 [] rfl trivial ?_
   apply WL.gA 4 Acts.nil hs6 rfl
   ·intro g7 J8
    have qg7 := g7
    try simp only [bf, within_iff, within_not] at qg7
    refine WL.runA tbk 1 (Acts.nil.cons (j := 1) rfl g7) hs6 [] rfl trivial ?_
    refine WL.val (wantT rfl g7) rfl rfl (Run.idx Try.runUnderlying23 Try.sizeOf5 rfl rfl rfl ?_ ?_ ?_) ?_
    · exact SlF.some_ (SlF.st0 f_b hs6)
    · omega
    · omega
    refine WL.val (wantT rfl g7) rfl rfl (Run.load Try.isAgg5 rfl rfl (SlF.one1 (SlF.st0 f_b hs6) ?_ rfl)) ?_
    · omega
    refine WL.runA tbk 1 (Acts.nil.cons (j := 1) rfl g7) hs6 [] rfl trivial ?_
    exact WL.eA 4 Acts.nil J8 hs6 g7 rfl rfl
   ·intro _ hs9
    refine WL.run tbk 1 hs9 [] rfl trivial ?_
    refine WL.pA tbk 2 Acts.nil hs9 [] rfl rfl rfl rfl (fun g_ => trivial) ?_
    refine WL.run tbk 1 hs9 [] rfl trivial ?_
    apply WL.gA 2 Acts.nil hs9 rfl
    ·intro g10 J11
     have qg10 := g10
     try simp only [bf, within_iff, within_not] at qg10
     refine WL.runA tbk 1 (Acts.nil.cons (j := 11) rfl g10) hs9 [] rfl trivial ?_
     refine WL.call (wantT rfl g10) rfl rfl (Run.call Try.call119 rfl rfl rfl) (c_impl_Shows _ _) ?_
     rintro _ whs12 ⟨rfl, hs12⟩
     replace hs12 := hs9.call0 hs12
     refine ⟨_, rfl, ?_⟩
     exact WL.eA 2 Acts.nil J11 hs12 g10 rfl rfl
    ·intro _ hs13
     refine WL.run tbk 1 hs13 [] rfl trivial ?_
     refine WL.nil ?_
     refine WC.ret ?_
     refine ibR (tkR ?_)
     clear hK2
     refine retV1 rfl (resV.tmp rfl) ?_
     refine ⟨congrArg Ending.returned ?_, hs13.nil⟩
     exact congrArg Value.bool (beg_two (by omega))
  ·refine WC.skip ?_
   refine hK2 _ _ ?_
   refine WC.rr tbk hs1 [] rfl trivial ?_
   refine WC.ret ?_
   refine retV1 rfl (resV.tmp rfl) ?_
   refine ⟨congrArg Ending.returned ?_, hs1.nil⟩
   have h9 : ¬ (b.length = 1 ∨ b.length = 2) := by omega
   rw [beg_len h9]
theorem c_spec_RuneBegin (A_b : Option Addr) (n_b c_b : Nat) (b : List UInt8) (w : World) (f_b : SlF encB w A_b n_b b) (hc : n_b ≤ c_b) (hn : n_b ≤ 549755813888) :
    Calls Try.prog 135 #[.slice A_b n_b c_b] w fun e w' => e = .returned (.bool (runeBeg b)) ∧ St w [] [] w' := by
 have hbl := f_b.len
 refine enter (vs := [.slice A_b n_b c_b]) 53 Try.func135 rfl Try.ntmps135 rfl rfl ?_
 have hs1 := St.init w
 refine WC.rr tbk hs1 [] rfl trivial ?_
 refine WC.seq (fun K2 hK2 => ?_)
 refine WC.sr ?_
 refine WL.run tbk 4 hs1 [] rfl trivial ?_
 refine WL.pO tbk 3 Acts.nil hs1 [] rfl rfl rfl rfl (fun g_ => trivial) ?_
 refine WL.nil ?_
 refine WC.cond rfl (fun h3 => ?_) (fun h3 => ?_)
 ·have qh3 := h3
  try simp only [bf, within_iff, within_not] at qh3
  refine WC.rr tbk hs1 [] rfl trivial ?_
  refine WC.ret ?_
  refine tkR ?_
  clear hK2
  refine retV1 rfl (resV.tmp rfl) ?_
  refine ⟨congrArg Ending.returned ?_, hs1.nil⟩
  have h9 : ¬ (b.length = 1 ∨ b.length = 2) := by simp at qh3; omega
  rw [beg_len h9]
 ·have qh3 := h3
  try simp only [bf, within_iff, within_not] at qh3
  have hl : b.length = 1 ∨ b.length = 2 := by simp at qh3; omega
  refine WC.skip ?_
  refine hK2 _ _ ?_
  refine WC.seq (fun K4 hK4 => ?_)
  refine WC.rr tbk hs1 [] rfl trivial ?_
  refine WC.block ?_
  refine WC.loopS [(0, _), (17, _)] ⟨rfl, rfl, trivial⟩ hs1 (fun k_ f w' => ∃ (x : Nat), k_ = 192 - x ∧ (128 ≤ x) ∧ (x ≤ 192) ∧ (∀ y : Nat, 128 ≤ y → y < x → begHit b (ub y) = false) ∧ Sub [(3, .int .i64 x)] f) ((fun (x : Nat) => 192 - x) (128)) ?_ ?_
  ·refine ⟨128, rfl, ?_, ?_, ?_, ⟨rfl, trivial⟩⟩
   · omega
   · omega
   · intro y h1 h2; omega
  ·clear hs1
   rintro _ f w ⟨x, rfl, p0, p1, p2, hG⟩ hF hs5
   refine WC.sub _ (hG.app hF) ?_
   clear hG hF
   refine WC.seq (fun K6 hK6 => ?_)
   refine WC.rr tbk hs5 [] rfl trivial ?_
   refine WC.cD rfl (fun qh7 => ?_) (fun qh7 => ?_)
   ·refine WC.skip ?_
    refine hK6 _ _ ?_
    refine WC.seq (fun K8 hK8 => ?_)
    refine WC.block ?_
    refine WC.sr ?_
    refine WL.buildF (F := encB) hs5 ([]) Try.runUnderlying23 Try.sizeOf5 Try.zeroValue5 rfl rfl rfl rfl rfl rfl rfl rfl rfl rfl rfl rfl (fun A12 c13 L9 whs10 hs10 ho11 => ?_)
    refine WL.run tbk 1 hs10 [] rfl trivial ?_
    refine WL.appendG hs10 ho11 (SlF.src (SlF.st0 f_b hs10) Try.underlying23) Try.underlying23 info_5 rfl rfl rfl rfl rfl rfl rfl rfl rfl rfl ?_ (fun A17 c18 L14 whs15 hs15 ho16 => ?_)
    · simp; omega
    refine WL.run tbk 2 hs15 [] rfl trivial ?_
    refine WL.buildSlice hs15 Try.runUnderlying23 Try.sizeOf5 Try.zeroValue5 rfl rfl rfl rfl rfl rfl rfl rfl rfl rfl (fun b19 whs20 hs20 => ?_)
    refine WL.appendG (St.perm hs20 (L' := L14 ++ _) (perm_front (A := [_]) (List.Perm.refl _))) ho16 (srcB1 Try.underlying23 (hs20.own _ (nthL_mem (i := 0) rfl)).1) Try.underlying23 info_5 rfl rfl rfl rfl rfl rfl rfl rfl rfl rfl ?_ (fun A24 c25 L21 whs22 hs22 ho23 => ?_)
    · simp; omega
    replace hs22 := St.back [_] hs22
    refine WL.run tbk 1 hs22 [] rfl trivial ?_
    refine WL.nil ?_
    refine WC.sr ?_
    refine WL.run tbk 1 hs22 [] rfl trivial ?_
    refine WL.call rfl rfl rfl (Run.call Try.call136 rfl rfl rfl) (c_spec_RuneRead _ _ _ _ _ (SlF.ofOwn ho23 (fun p_ hp_ => (hs22.own p_ (List.mem_append_right [_] (List.mem_append_left _ hp_))).1)) (OwnF.cap ho23) ?_) ?_
    · first | (first | assumption | rfl | omega) | (simp; omega)
    rintro _ whs26 ⟨rfl, hs26⟩
    replace hs26 := hs22.call0 hs26
    refine ⟨_, rfl, ?_⟩
    refine WL.run tbk 5 hs26 [] rfl trivial ?_
    refine WL.nil ?_
    refine WC.seq (fun K27 hK27 => ?_)
    refine WC.rr tbk hs26 [] rfl trivial ?_
    refine WC.cD rfl (fun qh28 => ?_) (fun qh28 => ?_)
    ·refine WC.rr tbk hs26 [] rfl trivial ?_
     refine WC.ret ?_
     refine tkR (ibR (tkR (tkR (ibR (tkR ?_)))))
     clear hK27 hK8 hK4
     refine retV1 rfl (resV.tmp rfl) ?_
     refine ⟨congrArg Ending.returned ?_, hs26.nil⟩
     rw [beg_yes hl p0 (by omega) (by unfold begHit; rw [decide_eq_true (by simpa [← Int.ofNat_inj] using qh28)]; rfl)]
    ·have e1 : ¬ rvS (runeL (b ++ [ub x])) = b.length + 1 := by simpa [← Int.ofNat_inj] using qh28
     refine WC.skip ?_
     refine hK27 _ _ ?_
     refine WC.rr tbk hs26 [] rfl trivial ?_
     refine WC.cD rfl (fun qh29 => ?_) (fun qh29 => ?_)
     ·refine WC.sr ?_
      refine WL.buildF (F := encB) hs26 ([]) Try.runUnderlying23 Try.sizeOf5 Try.zeroValue5 rfl rfl rfl rfl rfl rfl rfl rfl rfl rfl rfl rfl (fun A33 c34 L30 whs31 hs31 ho32 => ?_)
      replace hs31 := St.back [_] hs31
      refine WL.run tbk 1 hs31 [] rfl trivial ?_
      refine WL.appendG (St.perm hs31 (L' := L30 ++ _) (perm_front (A := [_]) (List.Perm.refl _))) ho32 (SlF.src (SlF.ofOwn ho23 (fun p_ hp_ => (hs31.own p_ (List.mem_append_right [_] (List.mem_append_right _ (List.mem_append_left _ hp_)))).1)) Try.underlying23) Try.underlying23 info_5 rfl rfl rfl rfl rfl rfl rfl rfl rfl rfl ?_ (fun A38 c39 L35 whs36 hs36 ho37 => ?_)
      · simp; omega
      replace hs36 := St.back [_] hs36
      refine WL.buildSlice hs36 Try.runUnderlying23 Try.sizeOf5 Try.zeroValue5 rfl rfl rfl rfl rfl rfl rfl rfl rfl rfl (fun b40 whs41 hs41 => ?_)
      refine WL.appendG (St.perm hs41 (L' := L35 ++ _) (perm_front (A := [_, _]) (List.Perm.refl _))) ho37 (srcF (F := encB) (ys := [129]) Try.underlying23 rfl rfl (hs41.own _ (nthL_mem (i := 0) rfl)).1) Try.underlying23 info_5 rfl rfl rfl rfl rfl rfl rfl rfl rfl rfl ?_ (fun A45 c46 L42 whs43 hs43 ho44 => ?_)
      · simp; omega
      replace hs43 := St.back [_, _] hs43
      refine WL.run tbk 1 hs43 [] rfl trivial ?_
      refine WL.nil ?_
      refine WC.sr ?_
      refine WL.run tbk 1 hs43 [] rfl trivial ?_
      refine WL.call rfl rfl rfl (Run.call Try.call136 rfl rfl rfl) (c_spec_RuneRead _ _ _ _ _ (SlF.ofOwn ho44 (fun p_ hp_ => (hs43.own p_ (List.mem_append_right [_, _] (List.mem_append_left _ hp_))).1)) (OwnF.cap ho44) ?_) ?_
      · first | (first | assumption | rfl | omega) | (simp; omega)
      rintro _ whs47 ⟨rfl, hs47⟩
      replace hs47 := hs43.call0 hs47
      refine ⟨_, rfl, ?_⟩
      refine WL.run tbk 5 hs47 [] rfl trivial ?_
      refine WL.nil ?_
      refine WC.rr tbk hs47 [] rfl trivial ?_
      refine WC.cD rfl (fun qh48 => ?_) (fun qh48 => ?_)
      ·refine WC.rr tbk hs47 [] rfl trivial ?_
       refine WC.ret ?_
       refine ibR (tkR (tkR (ibR (tkR ?_))))
       clear hK8 hK4
       refine retV1 rfl (resV.tmp rfl) ?_
       refine ⟨congrArg Ending.returned ?_, hs47.nil⟩
       rw [beg_yes hl p0 (by omega) (by unfold begHit; rw [decide_eq_true (show b.length = 1 by omega), decide_eq_true (show rvS (runeL (b ++ [ub x, 129])) = 3 by simp at qh48; omega)]; simp)]
      ·have e2 : b.length = 1 → ¬ rvS (runeL (b ++ [ub x, 129])) = 3 := fun _ => by simp at qh48; omega
       refine WC.skip ?_
       refine hK8 _ _ ?_
       refine WC.region ?_
       refine WL.run tbk 3 hs47 [] rfl ⟨by omega, trivial⟩ ?_
       refine WL.nil ?_
       refine tkN ?_
       refine ⟨⟨rfl, rfl, trivial⟩, (hs47.drop (by repeat (first | exact List.Sublist.refl _ | exact List.sublist_append_left _ _ | exact List.Sublist.trans (List.sublist_append_left _ _) (List.sublist_append_left _ _) | apply List.Sublist.cons | refine List.Sublist.trans ?_ (List.sublist_append_right _ _)))), _, ?_, x + 1, rfl, ?_, ?_, ?_, ⟨rfl, trivial⟩⟩
       · omega
       · omega
       · omega
       · intro y h1 h2; rcases Nat.lt_or_ge y x with h3 | h3
         · exact p2 y h1 h3
         obtain rfl : y = x := by omega
         unfold begHit; rw [decide_eq_false e1]; simp only [Bool.false_or, Bool.and_eq_false_iff, decide_eq_false_iff_not]; by_cases h9 : b.length = 1
         · exact .inr (e2 h9)
         · exact .inl h9
     ·have e2 : b.length = 1 → ¬ rvS (runeL (b ++ [ub x, 129])) = 3 := fun h_ => absurd h_ (by omega)
      refine WC.skip ?_
      refine hK8 _ _ ?_
      refine WC.region ?_
      refine WL.run tbk 3 hs26 [] rfl ⟨by omega, trivial⟩ ?_
      refine WL.nil ?_
      refine tkN ?_
      refine ⟨⟨rfl, rfl, trivial⟩, (hs26.drop (by repeat (first | exact List.Sublist.refl _ | exact List.sublist_append_left _ _ | exact List.Sublist.trans (List.sublist_append_left _ _) (List.sublist_append_left _ _) | apply List.Sublist.cons | refine List.Sublist.trans ?_ (List.sublist_append_right _ _)))), _, ?_, x + 1, rfl, ?_, ?_, ?_, ⟨rfl, trivial⟩⟩
      · omega
      · omega
      · omega
      · intro y h1 h2; rcases Nat.lt_or_ge y x with h3 | h3
        · exact p2 y h1 h3
        obtain rfl : y = x := by omega
        unfold begHit; rw [decide_eq_false e1]; simp only [Bool.false_or, Bool.and_eq_false_iff, decide_eq_false_iff_not]; by_cases h9 : b.length = 1
        · exact .inr (e2 h9)
        · exact .inl h9
   ·refine WC.exit ?_
    refine hK4 _ _ ?_
    refine WC.rr tbk hs5 [] rfl trivial ?_
    refine WC.ret ?_
    refine retV1 rfl (resV.tmp rfl) ?_
    refine ⟨congrArg Ending.returned ?_, hs5.nil⟩
    rw [beg_no hl (fun y h1 h2 => p2 y h1 (by omega))]
end Go.Proofs.Ytlmcekfdlgkffaa
