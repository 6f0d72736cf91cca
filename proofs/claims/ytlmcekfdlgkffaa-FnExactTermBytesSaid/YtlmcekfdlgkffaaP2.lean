/- Walks of Go functions, printed by a program (wip/gen). -/
import Derived.Test.YtlmcekfdlgkffaaP1
namespace Go.Proofs.Ytlmcekfdlgkffaa
open Go Go.RowKit
set_option linter.unusedVariables false
set_option linter.unusedSimpArgs false
theorem c_spec_RuneRead (A_b : Option Addr) (n_b c_b : Nat) (b : List UInt8) (w : World) (f_b : SlF encB w A_b n_b b) (hc : n_b ≤ c_b) (hn : n_b ≤ 549755813888) :
    Calls Try.prog 136 #[.slice A_b n_b c_b, i64 0] w fun e w' => e = .returned (.tuple #[.int .i64 (rvN (runeL b)), .int .i64 (rvS (runeL b) : Nat)]) ∧ St w [] [] w' := by
 have hbl := f_b.len
 have hb0 := (gat encB b 0).toNat_lt
 have hb0' : (gat encB b (Int.toNat 0)).toNat < 2 ^ 8 := hb0
 refine enter (vs := [.slice A_b n_b c_b, i64 0]) 76 Try.func136 rfl Try.ntmps136 rfl rfl ?_
 have hs1 := St.init w
 refine WC.rr tbk hs1 [] rfl trivial ?_
 refine WC.seq (fun K2 hK2 => ?_)
 refine WC.sr ?_
 refine WL.run tbk 3 hs1 [] rfl trivial ?_
 refine WL.pO tbk 4 Acts.nil hs1 [] rfl rfl rfl rfl (fun g_ => trivial) ?_
 refine WL.nil ?_
 refine WC.cond rfl (fun h3 => ?_) (fun h3 => ?_)
 ·have qh3 := h3
  try simp only [bf, within_iff, within_not] at qh3
  refine WC.rr tbk hs1 [] rfl trivial ?_
  refine WC.ret ?_
  refine tkR ?_
  clear hK2
  refine retV2 rfl (resV.tmp rfl) (resV.tmp rfl) ?_
  refine ⟨congrArg Ending.returned ?_, hs1.nil⟩
  have h0 : b = [] := List.eq_nil_of_length_eq_zero (by simp at qh3; omega)
  subst h0
  rw [runeL_nil]; rfl
 ·have qh3 := h3
  try simp only [bf, within_iff, within_not] at qh3
  refine WC.skip ?_
  refine hK2 _ _ ?_
  refine WC.seq (fun K4 hK4 => ?_)
  refine WC.rr tbk hs1 [] rfl trivial ?_
  refine WC.block ?_
  refine WC.loopS [(0, _), (1, _), (17, _)] ⟨rfl, rfl, rfl, trivial⟩ hs1 (fun k_ f w' => ∃ (s : Nat), k_ = 4 - s ∧ (1 ≤ s) ∧ (s ≤ 4) ∧ (∀ t, 1 ≤ t → t < s → rtry b t = false) ∧ Sub [(6, .int .i64 s)] f) ((fun (s : Nat) => 4 - s) (1)) ?_ ?_
  ·refine ⟨1, rfl, ?_, ?_, ?_, ⟨rfl, trivial⟩⟩
   · omega
   · omega
   · intro t h1 h2; omega
  ·clear hs1
   rintro _ f w ⟨s, rfl, p0, p1, p2, hG⟩ hF hs5
   refine WC.sub _ (hG.app hF) ?_
   clear hG hF
   have ht4 := t4_bnd s
   refine WC.seq (fun K6 hK6 => ?_)
   refine WC.sr ?_
   refine WL.run tbk 3 hs5 [] rfl trivial ?_
   refine WL.pA tbk 6 Acts.nil hs5 [] rfl rfl rfl rfl (fun g_ => by (try simp only [bf, within_iff, within_not] at g_); exact ⟨by omega, trivial⟩) ?_
   refine WL.nil ?_
   refine WC.cond rfl (fun h7 => ?_) (fun h7 => ?_)
   ·have qh7 := h7
    try simp only [bf, within_iff, within_not] at qh7
    refine WC.skip ?_
    refine hK6 _ _ ?_
    refine WC.seq (fun K8 hK8 => ?_)
    refine WC.block ?_
    refine WC.seq (fun K9 hK9 => ?_)
    refine WC.regionH2 (fun w' => St _ _ _ w') (fun w' => St _ _ _ w') mixed (St.drew hs5) (St.drew hs5) (fun whs10 hs10 => ?_)
    replace hs10 : St _ _ _ _ := hs10
    refine WH.take 0 rfl (by kernel_rfl) rfl rfl rfl hs10 (fun w_ hs_ => (Run.move rfl rfl)) ?_
    refine WH.take 1 rfl (by kernel_rfl) rfl rfl rfl hs10 (fun w_ hs_ => (Run.move rfl rfl)) ?_
    refine WH.take 2 rfl (by kernel_rfl) rfl rfl rfl hs10 (fun w_ hs_ => (Run.idx Try.runUnderlying23 Try.sizeOf5 rfl rfl rfl ?_ ?_ ?_)) ?_
    · exact SlF.some_ (SlF.st0 f_b (hs_ : St _ _ _ _))
    · first | omega | (simp; omega)
    · first | omega | (simp; omega)
    refine WH.take 3 rfl (by kernel_rfl) rfl rfl rfl hs10 (fun w_ hs_ => (Run.load Try.isAgg5 rfl rfl (SlF.one1 (SlF.st0 f_b (hs_ : St _ _ _ _)) ?_ rfl))) ?_
    · first | omega | (simp; omega)
    refine WH.take 4 rfl (by kernel_rfl) rfl rfl rfl hs10 (fun w_ hs_ => (Run.convB Try.runUnderlying5 Try.runUnderlying3 rfl rfl)) ?_
    refine WH.take 6 rfl (by kernel_rfl) rfl rfl rfl hs10 (fun w_ hs_ => (Run.move rfl rfl)) ?_
    refine WH.all [5] (by kernel_rfl) rfl (WHs.cons (i := 5) rfl ?_ WHs.nil)
    refine WL.buildF (F := encI) hs10 ([0, 0, 192, 224]) Try.runUnderlying22 Try.sizeOf3 Try.zeroValue3 rfl rfl rfl rfl rfl rfl rfl rfl rfl rfl rfl rfl (fun A14 c15 L11 whs12 hs12 ho13 => ?_)
    refine WL.nil ⟨(St.drop hs12 (List.sublist_append_right L11 _)), ?_⟩
    refine WH.strS hs12 (fun w_ h_ => (St.drop h_ (List.sublist_append_right L11 _))) ?_
    refine WH.take 7 rfl (by kernel_rfl) rfl rfl rfl hs12 (fun w_ hs_ => (Run.idxN Try.runUnderlying22 Try.sizeOf3 rfl rfl rfl ?_ ?_ ?_)) ?_
    · exact SlF.some_ (SlF.ofOwn ho13 (fun p_ hp_ => ((hs_ : St _ _ _ _).own p_ (List.mem_append_left _ hp_)).1))
    · first | omega | (simp; omega)
    · first | omega | (simp; omega)
    refine WH.take 8 rfl (by kernel_rfl) rfl rfl rfl hs12 (fun w_ hs_ => (Run.load Try.isAgg3 rfl rfl (SlF.one1 (SlF.ofOwn ho13 (fun p_ hp_ => ((hs_ : St _ _ _ _).own p_ (List.mem_append_left _ hp_)).1)) ?_ rfl))) ?_
    · first | omega | (simp; omega)
    refine WH.take 9 rfl (by kernel_rfl) rfl rfl rfl hs12 (fun w_ hs_ => (Run.sub rfl rfl rfl ?_)) ?_
    · constructor <;> omega
    refine WH.take 10 rfl (by kernel_rfl) rfl rfl rfl hs12 (fun w_ hs_ => (Run.assign rfl rfl)) ?_
    refine WH.done (by kernel_rfl) ?_
    refine hK9 _ _ ?_
    refine WC.seq (fun K16 hK16 => ?_)
    refine WC.rr tbk hs12 [] rfl trivial ?_
    refine WC.block ?_
    refine WC.loopS [(0, _), (1, _), (6, _), (17, _), (18, _), (19, _), (20, _), (27, _), (30, _), (31, _), (32, _), (33, _), (34, _), (35, _), (36, _), (37, _), (38, _), (39, _)] ⟨rfl, rfl, rfl, rfl, rfl, rfl, rfl, rfl, rfl, rfl, rfl, rfl, rfl, rfl, rfl, rfl, rfl, rfl, trivial⟩ hs12 (fun k_ f w' => ∃ (i : Nat), k_ = s - i ∧ (1 ≤ i) ∧ (i ≤ s) ∧ Sub [(8, .int .i64 i), (7, .int .i64 (candI b s (i - 1)))] f) ((fun (i : Nat) => s - i) (1)) ?_ ?_
    ·refine ⟨1, rfl, ?_, ?_, ⟨rfl, ?_, trivial⟩⟩
     · omega
     · omega
     · rfl
    ·clear hs12
     rintro _ f w ⟨i, rfl, p0, p1, hG⟩ hF hs17
     refine WC.sub _ (hG.app hF) ?_
     clear hG hF
     have hcb := candI_bnd (l := b) (s := s) (i := i - 1) (by omega)
     have hbi := (gat encB b i).toNat_lt
     have hbz : (gat encB b ((0 : Int) + (i : Int)).toNat).toNat < 2 ^ 8 := (gat encB b _).toNat_lt
     refine WC.seq (fun K18 hK18 => ?_)
     refine WC.rr tbk hs17 [] rfl trivial ?_
     refine WC.cD rfl (fun qh19 => ?_) (fun qh19 => ?_)
     ·refine WC.skip ?_
      refine hK18 _ _ ?_
      refine WC.seq (fun K20 hK20 => ?_)
      refine WC.block ?_
      refine WC.region ?_
      refine WL.run tbk 6 hs17 [] rfl ⟨by omega, by omega, trivial⟩ ?_
      refine WL.val rfl rfl rfl (Run.idx Try.runUnderlying23 Try.sizeOf5 rfl rfl rfl ?_ ?_ ?_) ?_
      · exact SlF.some_ (SlF.st0 f_b hs17)
      · first | omega | (simp; omega)
      · first | omega | (simp; omega)
      refine WL.val rfl rfl rfl (Run.load Try.isAgg5 rfl rfl (SlF.one1 (SlF.st0 f_b hs17) ?_ rfl)) ?_
      · first | omega | (simp; omega)
      refine WL.run tbk 4 hs17 [] rfl ⟨by omega, by omega, (u8_in _), trivial⟩ ?_
      refine WL.nil ?_
      refine hK20 _ _ ?_
      refine WC.region ?_
      refine WL.run tbk 3 hs17 [] rfl ⟨by omega, trivial⟩ ?_
      refine WL.nil ?_
      refine tkN ?_
      refine ⟨⟨rfl, rfl, rfl, rfl, rfl, rfl, rfl, rfl, rfl, rfl, rfl, rfl, rfl, rfl, rfl, rfl, rfl, rfl, trivial⟩, hs17, _, ?_, i + 1, rfl, ?_, ?_, ⟨rfl, ?_, trivial⟩⟩
      · omega
      · omega
      · omega
      · refine congrArg some (congrArg (Value.int _) ?_); have h9 := candI_next (l := b) (s := s) (i := i) (by omega); rw [h9]; simp
     ·refine WC.exit ?_
      refine hK16 _ _ ?_
      refine WC.sr ?_
      refine WL.run tbk 1 hs17 [] rfl trivial ?_
      refine WL.call rfl rfl rfl (Run.call Try.call182 rfl rfl rfl) (c_spec_RuneBytes _ _) ?_
      rintro _ whs21 ⟨A22, c23, L1_24, rfl, hs21, ho25⟩
      replace hs21 := hs17.callF hs21
      refine ⟨_, rfl, ?_⟩
      refine WL.run tbk 1 hs21 [] rfl trivial ?_
      refine WL.nil ?_
      refine WC.sq hs21 mixed (by kernel_rfl) ?_
      refine WQ.run tbk 5 [] rfl trivial ?_
      apply WQ.gA 10 Acts.nil rfl
      ·intro g26 J27
       have qg26 := g26
       try simp only [bf, within_iff, within_not] at qg26
       refine WQ.runA tbk 1 (Acts.nil.cons (j := 4) rfl g26) [] rfl trivial ?_
       refine WQ.val (wantT rfl g26) rfl rfl (fun w_ hs_ => (Run.strOf (SlF.ofOwn ho25 (fun p_ hp_ => ((hs_ : St _ _ _ _).own p_ (List.mem_append_left _ hp_)).1)) Try.underlying23 Try.underlying5 Try.underlying9 rfl rfl)) ?_
       refine WQ.runA tbk 5 (Acts.nil.cons (j := 4) rfl g26) [] rfl ⟨by omega, trivial⟩ ?_
       refine WQ.val (wantT rfl g26) rfl rfl (fun w_ hs_ => (Run.sliceLH (0) (s) Try.runUnderlying23 Try.sizeOf5 rfl rfl rfl rfl ?_ ?_ ?_)) ?_
       · first | rfl | (omega)
       · first | rfl | (omega)
       · refine ⟨?_, ?_, ?_⟩ <;> (omega)
       refine WQ.val (wantT rfl g26) rfl rfl (fun w_ hs_ => (Run.strOf (SlF.cutC (lo := 0) (hi := s) (SlF.st0 f_b (hs_ : St _ _ _ _)) (by refine ⟨?_, ?_, ?_⟩ <;> (omega))) Try.underlying23 Try.underlying5 Try.underlying9 rfl rfl)) ?_
       refine WQ.runA tbk 1 (Acts.nil.cons (j := 4) rfl g26) [] rfl trivial ?_
       exact WQ.eA 10 Acts.nil J27 g26 rfl rfl
      ·refine WQ.nil (fun _ (hs28 : St _ _ _ _) => ?_)
       refine WC.cond rfl (fun h29 => ?_) (fun h29 => ?_)
       ·have qh29 := h29
        try simp only [bf, within_iff, within_not] at qh29
        refine WC.rr tbk hs28 [] rfl trivial ?_
        refine WC.ret ?_
        refine ibR (tkR (tkR (ibR (tkR ?_))))
        clear hK8 hK4
        refine retV2 rfl (resV.tmp rfl) (resV.tmp rfl) ?_
        refine ⟨congrArg Ending.returned ?_, hs28.nil⟩
        obtain rfl : i = s := by omega
        have hok : rtry b i = true := by rw [← rtry_iff (by omega), ← candI_cand (by omega) (by omega) (by omega)]; simpa [Int.ofNat_inj] using qh29
        rw [runeL_at hok p0 (by omega) p2, ← candI_cand (by omega) (by omega) (by omega)]; rfl
       ·have qh29 := h29
        try simp only [bf, within_iff, within_not] at qh29
        refine WC.skip ?_
        refine hK8 _ _ ?_
        refine WC.region ?_
        refine WL.run tbk 3 hs28 [] rfl ⟨by omega, trivial⟩ ?_
        refine WL.nil ?_
        refine tkN ?_
        refine ⟨⟨rfl, rfl, rfl, trivial⟩, (hs28.drop (by repeat (first | exact List.Sublist.refl _ | exact List.sublist_append_left _ _ | exact List.Sublist.trans (List.sublist_append_left _ _) (List.sublist_append_left _ _) | apply List.Sublist.cons | refine List.Sublist.trans ?_ (List.sublist_append_right _ _)))), _, ?_, s + 1, rfl, ?_, ?_, ?_, ⟨rfl, trivial⟩⟩
        · omega
        · omega
        · omega
        · intro t h1 h2; rcases Nat.lt_or_ge t s with h3 | h3
          · exact p2 t h1 h3
          obtain rfl : t = s := by omega
          obtain rfl : i = t := by omega
          rw [← rtry_iff (by omega), ← candI_cand (by omega) (by omega) (by omega)]; simpa [Int.ofNat_inj] using qh29
   ·have qh7 := h7
    try simp only [bf, within_iff, within_not] at qh7
    refine WC.exit ?_
    refine hK4 _ _ ?_
    refine WC.rr tbk hs5 [] rfl trivial ?_
    refine WC.ret ?_
    refine retV2 rfl (resV.tmp rfl) (resV.tmp rfl) ?_
    refine ⟨congrArg Ending.returned ?_, hs5.nil⟩
    have hno : runeL b = none := runeL_none (fun t h1 h3 => by
        rcases Nat.lt_or_ge t s with h4 | h4
        · exact p2 t h1 h4
        · exact rtry_len (by simp at qh7; omega))
    rw [hno]; rfl
end Go.Proofs.Ytlmcekfdlgkffaa
