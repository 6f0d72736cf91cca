/-
  What the proof stands on, part 3.
-/
import Derived.Test.YtjmegoiclgancaaKW2
namespace Go.Proofs.Ytjmegoiclgancaa
open Go Go.RowKit
set_option linter.unusedVariables false
set_option linter.unusedSimpArgs false
theorem inf3 : Try.prog.info? 3 = some Try.t3 := by kernel_rfl
theorem inf5 : Try.prog.info? 5 = some Try.t5 := by kernel_rfl
theorem k8_ (A_b : Option Addr) (n_b c_b : Nat) (b : List UInt8) (w : World) (f_b : SlF encB w A_b n_b b) (hn : n_b ≤ 2) :
    Calls Try.prog 123 #[.slice A_b n_b c_b] w fun e w' => e = .returned (.tuple #[.int .i64 (tlV b : Nat), .bool (tlOk b)]) ∧ St w [] [] w' := by
 have hbl := f_b.len
 refine enter 24 Try.func123 rfl Try.ntmps123 rfl rfl ?_
 have hs1 := St.init w
 refine WC.r1 hs1 [] rfl (WC.r1 hs1 [] rfl (WC.seq (fun K2 hK2 => WC.r1 hs1 [] rfl (WC.block ?_))))
 refine WC.lS [7, 8] rfl hs1 (fun k_ f w' => ∃ (i : Nat), k_ = n_b - i ∧ (i ≤ n_b) ∧ (tlOk (b.take i) = true) ∧ Sub [(9, .int .i64 i), (4, .int .i64 (tlN (b.take i) : Nat))] f) ((fun (i : Nat) => n_b - i) (0)) ?_ ?_
 ·refine ⟨0, rfl, ?_, ?_, ⟨rfl, ?_, trivial⟩⟩
  · exact Nat.zero_le _
  · rfl
  · rfl
 clear hs1
 rintro _ f w ⟨i, rfl, p0, p1, hG⟩ hF hs3
 refine WC.sub _ (hG.app hF) ?_
 clear hG hF
 have hb_ := tlN_bnd (l := b.take i) (by rw [List.length_take]; omega)
 simp only [List.length_take] at hb_
 refine WC.r1 hs3 [] rfl (WC.seq (fun K4 hK4 => ?_))
 refine WC.cD rfl (fun qh5 => ?_) (fun qh5 => ?_)
 ·refine WC.skip (hK4 _ _ (WC.seq (fun K6 hK6 => WC.block (WC.sr ?_))))
  refine WL.val rfl rfl rfl (Run.idxN Try.runUnderlying22 Try.sizeOf5 rfl rfl rfl ?_ ?_ ?_) ?_
  · exact SlF.some_ (SlF.st0 f_b hs3)
  · omega
  · omega
  refine WL.val rfl rfl rfl (Run.load Try.isAgg5 rfl rfl (SlF.one1 (SlF.st0 f_b hs3) ?_ rfl)) ?_
  · omega
  refine WL.r 1 hs3 [] rfl (WL.nil (WC.seq (fun K7 hK7 => WC.sr (WL.r 1 hs3 [] rfl ?_))))
  refine WL.val rfl rfl rfl (Run.quoB 64 rfl rfl rfl ?_ ?_) ?_
  · decide
  · decide
  refine WL.r 1 hs3 [] rfl (WL.nil (WC.cN rfl (fun qh8 => ?_) (fun qh8 => ?_)))
  ·refine WC.r1 hs3 [] rfl (WC.ret (tkR (ibR (tkR (tkR (ibR (tkR ?_)))))))
   clear hK7 hK6 hK2
   refine retV2 rfl (resV.tmp rfl) (resV.tmp rfl) (⟨congrArg Ending.returned ?_, hs3.nil⟩)
   simp only [u8_div] at qh8
   have hbad := tlOk_bad (l := b) (i := i) (by omega) (by omega)
   rw [hbad, show tlV b = 0 from if_neg (by rw [hbad]; decide)]; rfl
  refine WC.skip (hK7 _ _ (WC.region (WL.r 3 hs3 [] rfl ?_)))
  refine WL.val rfl rfl rfl (Run.remB 64 rfl rfl rfl ?_ ?_) ?_
  · decide
  · decide
  refine WL.run tbk 3 hs3 [] rfl ⟨?_, (u8_in _), trivial⟩ ?_
  · rw [u8_mod]; constructor <;> omega
  refine WL.nil (hK6 _ _ (WC.region (WL.r 2 hs3 [] rfl (WL.nil (tkN ?_)))))
  refine ⟨sbF rfl, hs3, _, ?_, i + 1, rfl, ?_, ?_, ⟨rfl, ?_, trivial⟩⟩
  · omega
  · omega
  · simp only [u8_div] at qh8; rw [tlOk_take (by omega), p1, Bool.true_and, decide_eq_true_eq]; omega
  · refine congrArg some (congrArg (Value.int _) ?_); rw [tlN_take (by omega), u8_mod]; omega
 refine WC.exit (hK2 _ _ (WC.r1 hs3 [] rfl (WC.ret (retV2 rfl (resV.tmp rfl) (resV.tmp rfl) (⟨congrArg Ending.returned ?_, hs3.nil⟩)))))
 have ht : b.take i = b := List.take_of_length_le (by omega)
 rw [ht] at p1
 rw [p1, ht, show tlV b = tlN b from if_pos p1]
theorem k9_ (r : Int) (w : World) :
    Calls Try.prog 20 #[i64 r] w fun e w' => ∃ A c L1, e = .returned (.slice A (runeB r).length c) ∧ St w [] L1 w' ∧ OwnF encB 5 (.slice A (runeB r).length c) (runeB r) L1 := by
 refine enter 39 Try.func20 rfl Try.ntmps20 rfl rfl ?_
 have hs1 := St.init w
 refine WC.r1 hs1 [] rfl (WC.seq (fun K2 hK2 => WC.block (WC.sr (WL.r 1 hs1 [] rfl (WL.cl Try.call48 rfl (k1_ _ _) ?_)))))
 rintro _ whs3 ⟨rfl, hs3⟩
 replace hs3 := hs1.call0 hs3
 refine ⟨_, rfl, WL.r 2 hs3 [] rfl (WL.nil (WC.cq rfl (fun h4 qh4 => ?_) (fun h4 qh4 => ?_)))⟩
 ·have hsh : shows r = false := by simpa using qh4
  refine WC.r1 hs3 [] rfl (WC.ret (ibR (tkR ?_)))
  clear hK2
  refine retV1 rfl (resV.tmp rfl) ?_
  have hx_ := OwnF.eqOf (xs := runeB r) (OwnF.nil encB 5) (by simp [runeB, hsh])
  rw [← hx_]
  exact ⟨_, _, _, rfl, hs3.nil, (OwnF.nil encB 5)⟩
 have hsh : shows r = true := by simpa using qh4
 have hsi := shows_iff.1 hsh
 refine WC.r1 hs3 [] rfl (WC.cD rfl (fun qh5 => ?_) (fun qh5 => ?_))
 ·refine WC.sr (WL.r 2 hs3 [] rfl (WL.buildF (F := encB) hs3 ([ub r]) Try.runUnderlying22 Try.sizeOf5 Try.zeroValue5 rfl rfl rfl rfl rfl rfl rfl rfl rfl rfl rfl rfl (fun A9 c10 L6 whs7 hs7 ho8 => WL.r 1 hs7 [] rfl (WL.nil (WC.ret (ibR (tkR ?_)))))))
  clear hK2
  refine retV1 rfl (resV.tmp rfl) ?_
  have hx_ := OwnF.eqOf (xs := runeB r) ho8 (by unfold runeB; rw [hsh, if_neg (by decide), if_pos (by omega)])
  rw [← hx_]
  first | exact ⟨_, _, _, rfl, (St.keep1 hs7), ho8⟩ | exact ⟨A9, c10, _, by rw [OwnF.len_ ho8], (St.keep1 hs7), by rw [OwnF.len_ ho8]; exact ho8⟩
 refine WC.r1 hs3 [] rfl (WC.cD rfl (fun qh11 => ?_) (fun qh11 => ?_))
 ·refine WC.sr (WL.r 1 hs3 [] rfl (WL.val rfl rfl rfl (Run.quo rfl rfl rfl ?_ ?_ ?_) ?_))
  · omega
  · omega
  · omega
  refine WL.r 3 hs3 [] rfl (WL.val rfl rfl rfl (Run.rem rfl rfl rfl ?_ ?_) ?_)
  · omega
  · omega
  refine WL.r 2 hs3 [] rfl (WL.buildF (F := encB) hs3 ([ub (192 + r / 64), ub (128 + r % 64)]) Try.runUnderlying22 Try.sizeOf5 Try.zeroValue5 rfl rfl rfl rfl rfl rfl rfl rfl rfl rfl rfl rfl (fun A15 c16 L12 whs13 hs13 ho14 => WL.r 1 hs13 [] rfl (WL.nil (WC.ret (ibR (tkR ?_))))))
  clear hK2
  refine retV1 rfl (resV.tmp rfl) ?_
  have hx_ := OwnF.eqOf (xs := runeB r) ho14 (by unfold runeB; rw [hsh, if_neg (by decide), if_neg (by omega), if_pos (by omega)])
  rw [← hx_]
  first | exact ⟨_, _, _, rfl, (St.keep1 hs13), ho14⟩ | exact ⟨A15, c16, _, by rw [OwnF.len_ ho14], (St.keep1 hs13), by rw [OwnF.len_ ho14]; exact ho14⟩
 refine WC.skip (hK2 _ _ (WC.sr (WL.r 1 hs3 [] rfl ?_)))
 refine WL.val rfl rfl rfl (Run.quo rfl rfl rfl ?_ ?_ ?_) ?_
 · omega
 · omega
 · omega
 refine WL.r 3 hs3 [] rfl (WL.val rfl rfl rfl (Run.quo rfl rfl rfl ?_ ?_ ?_) ?_)
 · omega
 · omega
 · omega
 refine WL.val rfl rfl rfl (Run.rem rfl rfl rfl ?_ ?_) ?_
 · omega
 · omega
 refine WL.r 3 hs3 [] rfl (WL.val rfl rfl rfl (Run.rem rfl rfl rfl ?_ ?_) ?_)
 · omega
 · omega
 refine WL.r 2 hs3 [] rfl (WL.buildF (F := encB) hs3 ([ub (224 + r / 4096), ub (128 + r / 64 % 64), ub (128 + r % 64)]) Try.runUnderlying22 Try.sizeOf5 Try.zeroValue5 rfl rfl rfl rfl rfl rfl rfl rfl rfl rfl rfl rfl (fun A20 c21 L17 whs18 hs18 ho19 => WL.r 1 hs18 [] rfl (WL.nil (WC.ret (retV1 rfl (resV.tmp rfl) ?_)))))
 have hx_ := OwnF.eqOf (xs := runeB r) ho19 (by unfold runeB; rw [hsh, if_neg (by decide), if_neg (by omega), if_neg (by omega)])
 rw [← hx_]
 first | exact ⟨_, _, _, rfl, (St.keep1 hs18), ho19⟩ | exact ⟨A20, c21, _, by rw [OwnF.len_ ho19], (St.keep1 hs18), by rw [OwnF.len_ ho19]; exact ho19⟩
theorem k10_ (A_a : Option Addr) (n_a c_a : Nat) (a : List UInt8) (A_b : Option Addr) (n_b c_b : Nat) (b : List UInt8) (w : World) (f_a : SlF encB w A_a n_a a) (f_b : SlF encB w A_b n_b b) (hn : n_a ≤ 1099511627776) :
    Calls Try.prog 141 #[.slice A_a n_a c_a, .slice A_b n_b c_b] w fun e w' => e = .returned (.bool (decide (a = b))) ∧ St w [] [] w' := by
 have hla := f_a.len
 have hlb := f_b.len
 refine enter 26 Try.func141 rfl Try.ntmps141 rfl rfl ?_
 have hs1 := St.init w
 refine WC.r1 hs1 [] rfl (WC.seq (fun K2 hK2 => WC.r1 hs1 [] rfl ?_))
 refine WC.cq rfl (fun h3 qh3 => ?_) (fun h3 qh3 => ?_)
 ·refine WC.r1 hs1 [] rfl (WC.ret (tkR ?_))
  clear hK2
  refine rtv rfl rfl hs1 ?_
  refine congrArg Value.bool ?_; symm; rw [decide_eq_false_iff_not]; intro he; subst he; omega
 refine WC.skip (hK2 _ _ (WC.seq (fun K4 hK4 => WC.r1 hs1 [] rfl (WC.block ?_))))
 refine WC.lS [0, 1, 10, 12] rfl hs1 (fun k_ f w' => ∃ (i : Nat), k_ = n_a - i ∧ (i ≤ n_a) ∧ (∀ j, j < i → gat encB a j = gat encB b j) ∧ Sub [(13, .int .i64 i)] f) ((fun (i : Nat) => n_a - i) (0)) ?_ ?_
 ·refine ⟨0, rfl, ?_, ?_, ⟨rfl, trivial⟩⟩
  · exact Nat.zero_le _
  · exact fun j hj => absurd hj (by omega)
 clear hs1
 rintro _ f w ⟨i, rfl, p0, p1, hG⟩ hF hs5
 refine WC.sub _ (hG.app hF) ?_
 clear hG hF
 refine WC.r1 hs5 [] rfl (WC.seq (fun K6 hK6 => ?_))
 refine WC.cq rfl (fun h7 qh7 => ?_) (fun h7 qh7 => ?_)
 ·refine WC.skip (hK6 _ _ (WC.seq (fun K8 hK8 => WC.block (WC.r1 hs5 [] rfl (WC.sq1 hs5 (WQ.r 2 [] rfl ?_))))))
  refine WQ.val rfl rfl rfl (fun w_ hs_ => (Run.idxN Try.runUnderlying22 Try.sizeOf5 rfl rfl rfl ?_ ?_ ?_)) ?_
  · exact SlF.some_ (SlF.st0 f_a (hs_ : St _ _ _ _))
  · omega
  · omega
  refine WQ.val rfl rfl rfl (fun w_ hs_ => (Run.load Try.isAgg5 rfl rfl (SlF.one1 (SlF.st0 f_a (hs_ : St _ _ _ _)) ?_ rfl))) ?_
  · omega
  refine WQ.r 2 [] rfl ?_
  refine WQ.val rfl rfl rfl (fun w_ hs_ => (Run.idxN Try.runUnderlying22 Try.sizeOf5 rfl rfl rfl ?_ ?_ ?_)) ?_
  · exact SlF.some_ (SlF.st0 f_b (hs_ : St _ _ _ _))
  · omega
  · omega
  refine WQ.val rfl rfl rfl (fun w_ hs_ => (Run.load Try.isAgg5 rfl rfl (SlF.one1 (SlF.st0 f_b (hs_ : St _ _ _ _)) ?_ rfl))) ?_
  · omega
  refine WQ.r 1 [] rfl (WQ.nil (fun _ (hs9 : St _ _ _ _) => ?_))
  refine WC.cq rfl (fun h10 qh10 => ?_) (fun h10 qh10 => ?_)
  ·refine WC.r1 hs9 [] rfl (WC.ret (ibR (tkR (tkR (ibR (tkR ?_))))))
   clear hK8 hK4
   refine rtv rfl rfl hs9 ?_
   refine congrArg Value.bool ?_; symm; rw [decide_eq_false_iff_not]; intro he; subst he; simp at h10
  refine WC.skip (hK8 _ _ (WC.region (WL.r 2 hs9 [] rfl (WL.nil (tkN ?_)))))
  refine ⟨sbF rfl, hs9, _, ?_, i + 1, rfl, ?_, ?_, ⟨rfl, trivial⟩⟩
  · omega
  · omega
  · intro j hj; rcases Nat.lt_or_ge j i with h_ | h_
    · exact p1 j h_
    · obtain rfl : j = i := by omega
      exact u8_inj (by simpa using h10)
 refine WC.exit (hK4 _ _ (WC.r1 hs5 [] rfl (WC.ret (rtv rfl rfl hs5 ?_))))
 refine congrArg Value.bool ?_; symm; rw [decide_eq_true_eq]; exact gat_ext (F := encB) (by omega) (fun j hj => p1 j (by omega))
theorem k11_ (A_s : Option Addr) (n_s c_s : Nat) (s : List UInt8) (w : World) (f_s : SlF encB w A_s n_s s) (hn : n_s ≤ 268435456) :
    Calls Try.prog 115 #[.slice A_s n_s c_s] w fun e w' => ∃ A c L1, e = .returned (.slice A (s).length c) ∧ St w [] L1 w' ∧ OwnF encB 5 (.slice A (s).length c) (s) L1 := by
 have hl := f_s.len
 refine enter 8 Try.func115 rfl Try.ntmps115 rfl rfl ?_
 have hs1 := St.init w
 refine WC.r1 hs1 [] rfl (WC.seq (fun K2 hK2 => WC.sr (WL.r 1 hs1 [] rfl (WL.val rfl rfl rfl (Run.eqlNil Try.underlying22 rfl rfl rfl) (WL.nil ?_)))))
 refine WC.cq rfl (fun h3 qh3 => ?_) (fun h3 qh3 => ?_)
 ·obtain rfl : A_s = none := by simpa using qh3
  have h0 : n_s = 0 := SlF.none_ f_s
  have hs : s = [] := List.eq_nil_of_length_eq_zero (by omega)
  refine WC.r1 hs1 [] rfl (WC.ret (tkR ?_))
  clear hK2
  refine retV1 rfl (resV.tmp rfl) ?_
  have hx_ := OwnF.eqOf (xs := s) (OwnF.nil encB 5) (by rw [hs])
  rw [← hx_]
  exact ⟨_, _, _, rfl, hs1.nil, (OwnF.nil encB 5)⟩
 refine WC.skip (hK2 _ _ (WC.sr (WL.buildF (F := encB) hs1 ([]) Try.runUnderlying22 Try.sizeOf5 Try.zeroValue5 rfl rfl rfl rfl rfl rfl rfl rfl rfl rfl rfl rfl (fun A7 c8 L4 whs5 hs5 ho6 => WL.r 1 hs5 [] rfl ?_))))
 refine WL.appendG hs5 ho6 (SlF.src (SlF.st0 f_s hs5) Try.underlying22) Try.underlying22 inf5 rfl rfl rfl rfl rfl rfl rfl rfl rfl rfl ?_ (fun A12 c13 L9 whs10 hs10 ho11 => ?_)
 · simp; omega
 refine WL.r 1 hs10 [] rfl (WL.nil (WC.ret (retV1 rfl (resV.tmp rfl) ?_)))
 have hx_ := OwnF.eqOf (xs := s) ho11 (by simp)
 rw [← hx_]
 first | exact ⟨_, _, _, rfl, (St.keep1 hs10), ho11⟩ | exact ⟨A12, c13, _, by rw [OwnF.len_ ho11], (St.keep1 hs10), by rw [OwnF.len_ ho11]; exact ho11⟩
theorem k12_ (A_s : Option Addr) (n_s c_s : Nat) (s : List Int) (w : World) (f_s : SlF encI w A_s n_s s) (hn : n_s ≤ 268435456) :
    Calls Try.prog 93 #[.slice A_s n_s c_s] w fun e w' => ∃ A c L1, e = .returned (.slice A (s).length c) ∧ St w [] L1 w' ∧ OwnF encI 3 (.slice A (s).length c) (s) L1 := by
 have hl := f_s.len
 refine enter 8 Try.func93 rfl Try.ntmps93 rfl rfl ?_
 have hs1 := St.init w
 refine WC.r1 hs1 [] rfl (WC.seq (fun K2 hK2 => WC.sr (WL.r 1 hs1 [] rfl (WL.val rfl rfl rfl (Run.eqlNil Try.underlying28 rfl rfl rfl) (WL.nil ?_)))))
 refine WC.cq rfl (fun h3 qh3 => ?_) (fun h3 qh3 => ?_)
 ·obtain rfl : A_s = none := by simpa using qh3
  have h0 : n_s = 0 := SlF.none_ f_s
  have hs : s = [] := List.eq_nil_of_length_eq_zero (by omega)
  refine WC.r1 hs1 [] rfl (WC.ret (tkR ?_))
  clear hK2
  refine retV1 rfl (resV.tmp rfl) ?_
  have hx_ := OwnF.eqOf (xs := s) (OwnF.nil encI 3) (by rw [hs])
  rw [← hx_]
  exact ⟨_, _, _, rfl, hs1.nil, (OwnF.nil encI 3)⟩
 refine WC.skip (hK2 _ _ (WC.sr (WL.buildF (F := encI) hs1 ([]) Try.runUnderlying28 Try.sizeOf3 Try.zeroValue3 rfl rfl rfl rfl rfl rfl rfl rfl rfl rfl rfl rfl (fun A7 c8 L4 whs5 hs5 ho6 => WL.r 1 hs5 [] rfl ?_))))
 refine WL.appendG hs5 ho6 (SlF.src (SlF.st0 f_s hs5) Try.underlying28) Try.underlying28 inf3 rfl rfl rfl rfl rfl rfl rfl rfl rfl rfl ?_ (fun A12 c13 L9 whs10 hs10 ho11 => ?_)
 · simp; omega
 refine WL.r 1 hs10 [] rfl (WL.nil (WC.ret (retV1 rfl (resV.tmp rfl) ?_)))
 have hx_ := OwnF.eqOf (xs := s) ho11 (by simp)
 rw [← hx_]
 first | exact ⟨_, _, _, rfl, (St.keep1 hs10), ho11⟩ | exact ⟨A12, c13, _, by rw [OwnF.len_ ho11], (St.keep1 hs10), by rw [OwnF.len_ ho11]; exact ho11⟩
theorem k13_ (A_b : Option Addr) (n_b c_b : Nat) (b : List UInt8) (w : World) (f_b : SlF encB w A_b n_b b) (hc : n_b ≤ c_b) (hn : n_b ≤ 549755813888) :
    Calls Try.prog 130 #[.slice A_b n_b c_b, i64 0] w fun e w' => e = .returned (.tuple #[.int .i64 (rvN (runeL b)), .int .i64 (rvS (runeL b) : Nat)]) ∧ St w [] [] w' := by
 have hbl := f_b.len
 have hb0 := (gat encB b 0).toNat_lt
 refine enter 72 Try.func130 rfl Try.ntmps130 rfl rfl ?_
 have hs1 := St.init w
 refine WC.r1 hs1 [] rfl (WC.seq (fun K2 hK2 => WC.sr ?_))
 refine WL.run tbk 4 hs1 [] rfl ⟨by first | omega | (simp only [p6]; omega), trivial⟩ (WL.cl Try.call33 rfl (k0_ _ _ _ _) ?_)
 rintro _ whs3 ⟨rfl, hs3⟩
 replace hs3 := hs1.call0 hs3
 refine ⟨_, rfl, WL.r 1 hs3 [] rfl (WL.nil (WC.cq rfl (fun h4 qh4 => ?_) (fun h4 qh4 => ?_)))⟩
 ·refine WC.r1 hs3 [] rfl (WC.ret (tkR ?_))
  clear hK2
  refine retV2 rfl (resV.tmp rfl) (resV.tmp rfl) (⟨congrArg Ending.returned ?_, hs3.nil⟩)
  have h0 : b = [] := List.eq_nil_of_length_eq_zero (by omega)
  subst h0
  rw [runeL_nil]; rfl
 refine WC.skip (hK2 _ _ (WC.sr (WL.r 2 hs3 [] rfl ?_)))
 refine WL.val rfl rfl rfl (Run.idxK (0) Try.runUnderlying22 Try.sizeOf5 rfl rfl rfl ?_ ?_ ?_) ?_
 · exact SlF.some_ (SlF.st0 f_b hs3)
 · first | omega | (simp only [p6]; omega)
 · first | omega | (simp only [p6]; omega)
 refine WL.val rfl rfl rfl (Run.load Try.isAgg5 rfl rfl (SlF.one1 (SlF.st0 f_b hs3) ?_ rfl)) ?_
 · omega
 refine WL.r 3 hs3 [] rfl (WL.nil (WC.seq (fun K5 hK5 => WC.block (WC.sr (WL.r 1 hs3 [] rfl (WL.cl Try.call33 rfl (k0_ _ _ _ _) ?_))))))
 rintro _ whs6 ⟨rfl, hs6⟩
 replace hs6 := hs3.call0 hs6
 refine ⟨_, rfl, WL.r 1 hs6 [] rfl (WL.nil (WC.cq rfl (fun h7 qh7 => ?_) (fun h7 qh7 => ?_)))⟩
 ·have hcl : rcls (bat b 0) = 2 := by unfold rcls; rw [if_pos (by simp only [gat, bat] at *; omega)]
  refine WC.region ?_
  refine WL.run tbk 4 hs6 [] rfl ⟨by first | omega | (simp only [p6]; omega), trivial⟩ (WL.nil (hK5 _ _ (WC.seq (fun K8 hK8 => ?_))))
  refine WC.rr tbk hs6 [] rfl ⟨by first | omega | (simp only [p6]; omega), trivial⟩ (WC.cq rfl (fun h9 qh9 => ?_) (fun h9 qh9 => ?_))
  ·refine WC.r1 hs6 [] rfl (WC.ret (tkR ?_))
   clear hK8
   refine retV2 rfl (resV.tmp rfl) (resV.tmp rfl) (⟨congrArg Ending.returned ?_, hs6.nil⟩)
   have hno : runeL b = none := rread_no (by omega) hcl (fun r hr h1 h2 h3 => by
       omega)
   rw [hno]; rfl
  refine WC.skip (hK8 _ _ (WC.sr ?_))
  refine WL.run tbk 6 hs6 [] rfl ⟨by first | omega | (simp only [p6]; omega), by first | omega | (simp only [p6]; omega), trivial⟩ (WL.val rfl rfl rfl (Run.sliceLH (1) (2) Try.runUnderlying22 Try.sizeOf5 rfl rfl rfl rfl ?_ ?_ ?_) ?_)
  · first | rfl | (first | omega | (simp only [p6]; omega))
  · first | rfl | (first | omega | (simp only [p6]; omega))
  · refine ⟨?_, ?_, ?_⟩ <;> (first | omega | (simp only [p6]; omega))
  refine WL.cl Try.call123 rfl (k8_ _ _ _ _ _ (SlF.cutC (lo := 1) (hi := 2) (SlF.st0 f_b hs6) (by refine ⟨?_, ?_, ?_⟩ <;> (first | omega | (simp only [p6]; omega)))) ?_) ?_
  · first | assumption | rfl | omega
  rintro _ whs10 ⟨rfl, hs10⟩
  replace hs10 := hs6.call0 hs10
  refine ⟨_, rfl, WL.r 3 hs10 [] rfl ?_⟩
  have htv := tlV_bnd (l := (b.drop 1).take (2 - 1)) (by rw [List.length_take, List.length_drop]; omega)
  refine WL.r 2 hs10 [] rfl (WL.nil (WC.sr ?_))
  refine WL.run tbk 4 hs10 [] rfl ⟨by first | omega | (simp only [p6]; omega), by first | omega | (simp only [p6]; omega), trivial⟩ (WL.val rfl rfl rfl (Run.shl rfl rfl rfl ?_ ?_ ?_) ?_)
  · first | omega | (simp only [p6]; omega)
  · first | omega | (simp only [p6]; omega)
  · simp only [p6]; constructor <;> omega
  refine WL.r 1 hs10 [] rfl (WL.val rfl rfl rfl (Run.or rfl rfl rfl ?_ ?_ ?_ ?_) ?_)
  · first | omega | (simp only [p6]; omega)
  · first | omega | (simp only [p6]; omega)
  · first | omega | (simp only [p6]; omega)
  · first | omega | (simp only [p6]; omega)
  refine WL.r 1 hs10 [] rfl (WL.nil (WC.seq (fun K11 hK11 => WC.seq (fun K12 hK12 => WC.rH hs10 hs10 (fun _ hs13 => ?_)))))
  refine WH.rn [0, 1, 2] hs13 [] rfl rfl (WH.split 58 rfl (fun g14 => ?_) (fun g14 => ?_))
  ·refine WH.takeSkip 3 rfl (by kernel_rfl) (wantNF rfl g14) rfl rfl hs13 (WH.takeSkip 5 rfl (by kernel_rfl) (wantNF rfl g14) rfl rfl hs13 (WH.takeSkip 6 rfl (by kernel_rfl) (wantNF rfl g14) rfl rfl hs13 (WH.takeSkip 7 rfl (by kernel_rfl) (wantNF rfl g14) rfl rfl hs13 (WH.takeSkip 8 rfl (by kernel_rfl) (wantNF rfl g14) rfl rfl hs13 (WH.takeSkip 9 rfl (by kernel_rfl) (wantNF rfl g14) rfl rfl hs13 (WH.takeSkip 10 rfl (by kernel_rfl) (wantNF rfl g14) rfl rfl hs13 (WH.o1 4 rfl ?_)))))))
   refine WL.skip (wantNF rfl g14) rfl rfl (WL.nil ⟨hs13, WH.o1 11 rfl (WL.skip (wantNF rfl g14) rfl rfl (WL.nil ⟨hs13, WH.takeSkip 12 rfl (by kernel_rfl) (wantNF rfl g14) rfl rfl hs13 ?_⟩))⟩)
   refine WH.take 13 rfl (by kernel_rfl) rfl rfl rfl hs13 (fun w_ hs_ => (Run.pickT rfl rfl g14 rfl)) ?_
   refine WH.dn (hK12 _ _ ?_)
   refine WC.cq rfl (fun h15 qh15 => ?_) (fun h15 qh15 => ?_)
   ·refine WC.r1 hs13 [] rfl (WC.ret (tkR ?_))
    clear hK11
    refine retV2 rfl (resV.tmp rfl) (resV.tmp rfl) (⟨congrArg Ending.returned ?_, hs13.nil⟩)
    have hno : runeL b = none := rread_no (by omega) hcl (fun r hr h1 h2 h3 => by
        have h9 := ‹(!tlOk ((b.drop 1).take (2 - 1))) = true›
        rw [h2] at h9; cases h9)
    rw [hno]; rfl
   refine WC.skip (hK11 _ _ (WC.r1 hs13 [] rfl (WC.ret (retV2 rfl (resV.tmp rfl) (resV.tmp rfl) (⟨congrArg Ending.returned ?_, hs13.nil⟩)))))
   cases h15
  refine WH.rnA (Acts.nil.cons (j := 2) rfl g14) [3, 5, 6, 7, 8, 9] hs13 [] rfl rfl ?_ (hS := ⟨by (first | omega | (simp only [p6]; omega)), trivial⟩)
  refine WH.take 10 rfl (by kernel_rfl) (wantF rfl g14) rfl rfl hs13 (fun w_ hs_ => (Run.sliceLH (0) (2) Try.runUnderlying22 Try.sizeOf5 rfl rfl rfl rfl ?_ ?_ ?_)) ?_
  · first | rfl | (first | omega | (simp only [p6]; omega))
  · first | rfl | (first | omega | (simp only [p6]; omega))
  · refine ⟨?_, ?_, ?_⟩ <;> (first | omega | (simp only [p6]; omega))
  refine WH.o1 4 rfl (WL.call (wantF rfl g14) rfl rfl (Run.call Try.call20 rfl rfl rfl) (k9_ _ _) ?_)
  rintro _ whs16 ⟨A17, c18, L1_19, rfl, hs16, ho20⟩
  replace hs16 := hs13.callF hs16
  refine ⟨_, rfl, WL.nil ⟨(hs16.rm L1_19), WH.o1 11 rfl ?_⟩⟩
  refine WL.call (wantF rfl g14) rfl rfl (Run.call Try.call141 rfl rfl rfl) (k10_ _ _ _ _ _ _ _ _ _ (SlF.ofOwn ho20 (hs16.ow L1_19)) (SlF.cutC (lo := 0) (hi := 2) (SlF.st0 f_b hs16) (by refine ⟨?_, ?_, ?_⟩ <;> (first | omega | (simp only [p6]; omega)))) ?_) ?_
  · exact Nat.le_trans (runeB_len _) (by decide)
  rintro _ whs21 ⟨rfl, hs21⟩
  replace hs21 := hs16.call0 hs21
  refine ⟨_, rfl, WL.nil ⟨(hs21.rm L1_19), WH.rnA (Acts.nil.cons (j := 2) rfl g14) [12] (hs21.rm L1_19) [] rfl rfl ?_⟩⟩
  refine WH.take 13 rfl (by kernel_rfl) rfl rfl rfl (hs21.rm L1_19) (fun w_ hs_ => (Run.pick rfl rfl rfl rfl)) ?_
  refine WH.dn (hK12 _ _ ?_)
  refine WC.cq rfl (fun h22 qh22 => ?_) (fun h22 qh22 => ?_)
  ·refine WC.r1 hs21 [] rfl (WC.ret (tkR ?_))
   clear hK11
   refine retV2 rfl (resV.tmp rfl) (resV.tmp rfl) (⟨congrArg Ending.returned ?_, hs21.nil⟩)
   have hrs := rsum_or (a := gat encB b 0) (t := ((b.drop 1).take (2 - 1))) (c := 2) (x := (((gat encB b 0).toNat : Int) - 192) * 2 ^ 6) (.inr (.inl ⟨rfl, by omega, rfl⟩)) (by rw [List.length_take, List.length_drop]; omega)
   have hq9 : (bif !tlOk ((b.drop 1).take (2 - 1)) then true else !decide (runeB (rsum (gat encB b 0) ((b.drop 1).take (2 - 1)) 2) = b.take 2)) = true := by rw [← hrs]; exact h22
   have hno : runeL b = none := rread_no (by omega) hcl (fun r hr h1 h2 h3 => by
       rw [h2] at hq9; subst hr; have h10 : runeB (rsum (gat encB b 0) ((b.drop 1).take (2 - 1)) 2) = b.take 2 := h3; rw [h10, decide_eq_true rfl] at hq9; cases hq9)
   rw [hno]; rfl
  refine WC.skip (hK11 _ _ (WC.r1 hs21 [] rfl (WC.ret (retV2 rfl (resV.tmp rfl) (resV.tmp rfl) (⟨congrArg Ending.returned ?_, hs21.nil⟩)))))
  have hrs := rsum_or (a := gat encB b 0) (t := ((b.drop 1).take (2 - 1))) (c := 2) (x := (((gat encB b 0).toNat : Int) - 192) * 2 ^ 6) (.inr (.inl ⟨rfl, by omega, rfl⟩)) (by rw [List.length_take, List.length_drop]; omega)
  have hq9 : (bif !tlOk ((b.drop 1).take (2 - 1)) then true else !decide (runeB (rsum (gat encB b 0) ((b.drop 1).take (2 - 1)) 2) = b.take 2)) = false := by rw [← hrs]; exact h22
  rcases h11 : tlOk ((b.drop 1).take (2 - 1)) with _ | _ <;> rw [h11] at hq9
  · cases hq9
  have hyes := rread_yes (by omega) hcl (by omega) h11 hrs (by rw [hrs]; by_cases h12 : runeB (rsum (gat encB b 0) ((b.drop 1).take (2 - 1)) 2) = b.take 2; exact h12; rw [decide_eq_false h12] at hq9; cases hq9)
  rw [hyes]; rfl
 refine WC.sr (WL.r 1 hs6 [] rfl (WL.cl Try.call33 rfl (k0_ _ _ _ _) ?_))
 rintro _ whs23 ⟨rfl, hs23⟩
 replace hs23 := hs6.call0 hs23
 refine ⟨_, rfl, WL.r 1 hs23 [] rfl (WL.nil (WC.cq rfl (fun h24 qh24 => ?_) (fun h24 qh24 => ?_)))⟩
 ·have hcl : rcls (bat b 0) = 3 := by unfold rcls; rw [if_neg (by simp only [gat, bat] at *; omega), if_pos (by simp only [gat, bat] at *; omega)]
  refine WC.region ?_
  refine WL.run tbk 4 hs23 [] rfl ⟨by first | omega | (simp only [p6]; omega), trivial⟩ (WL.nil (hK5 _ _ (WC.seq (fun K25 hK25 => ?_))))
  refine WC.rr tbk hs23 [] rfl ⟨by first | omega | (simp only [p6]; omega), trivial⟩ (WC.cq rfl (fun h26 qh26 => ?_) (fun h26 qh26 => ?_))
  ·refine WC.r1 hs23 [] rfl (WC.ret (tkR ?_))
   clear hK25
   refine retV2 rfl (resV.tmp rfl) (resV.tmp rfl) (⟨congrArg Ending.returned ?_, hs23.nil⟩)
   have hno : runeL b = none := rread_no (by omega) hcl (fun r hr h1 h2 h3 => by
       omega)
   rw [hno]; rfl
  refine WC.skip (hK25 _ _ (WC.sr ?_))
  refine WL.run tbk 6 hs23 [] rfl ⟨by first | omega | (simp only [p6]; omega), by first | omega | (simp only [p6]; omega), trivial⟩ (WL.val rfl rfl rfl (Run.sliceLH (1) (3) Try.runUnderlying22 Try.sizeOf5 rfl rfl rfl rfl ?_ ?_ ?_) ?_)
  · first | rfl | (first | omega | (simp only [p6]; omega))
  · first | rfl | (first | omega | (simp only [p6]; omega))
  · refine ⟨?_, ?_, ?_⟩ <;> (first | omega | (simp only [p6]; omega))
  refine WL.cl Try.call123 rfl (k8_ _ _ _ _ _ (SlF.cutC (lo := 1) (hi := 3) (SlF.st0 f_b hs23) (by refine ⟨?_, ?_, ?_⟩ <;> (first | omega | (simp only [p6]; omega)))) ?_) ?_
  · first | assumption | rfl | omega
  rintro _ whs27 ⟨rfl, hs27⟩
  replace hs27 := hs23.call0 hs27
  refine ⟨_, rfl, WL.r 3 hs27 [] rfl ?_⟩
  have htv := tlV_bnd (l := (b.drop 1).take (3 - 1)) (by rw [List.length_take, List.length_drop]; omega)
  refine WL.r 2 hs27 [] rfl (WL.nil (WC.sr ?_))
  refine WL.run tbk 4 hs27 [] rfl ⟨by first | omega | (simp only [p6]; omega), by first | omega | (simp only [p6]; omega), trivial⟩ (WL.val rfl rfl rfl (Run.shl rfl rfl rfl ?_ ?_ ?_) ?_)
  · first | omega | (simp only [p6]; omega)
  · first | omega | (simp only [p6]; omega)
  · simp only [p6]; constructor <;> omega
  refine WL.r 1 hs27 [] rfl (WL.val rfl rfl rfl (Run.or rfl rfl rfl ?_ ?_ ?_ ?_) ?_)
  · first | omega | (simp only [p6]; omega)
  · first | omega | (simp only [p6]; omega)
  · first | omega | (simp only [p6]; omega)
  · first | omega | (simp only [p6]; omega)
  refine WL.r 1 hs27 [] rfl (WL.nil (WC.seq (fun K28 hK28 => WC.seq (fun K29 hK29 => WC.rH hs27 hs27 (fun _ hs30 => ?_)))))
  refine WH.rn [0, 1, 2] hs30 [] rfl rfl (WH.split 58 rfl (fun g31 => ?_) (fun g31 => ?_))
  ·refine WH.takeSkip 3 rfl (by kernel_rfl) (wantNF rfl g31) rfl rfl hs30 (WH.takeSkip 5 rfl (by kernel_rfl) (wantNF rfl g31) rfl rfl hs30 (WH.takeSkip 6 rfl (by kernel_rfl) (wantNF rfl g31) rfl rfl hs30 (WH.takeSkip 7 rfl (by kernel_rfl) (wantNF rfl g31) rfl rfl hs30 (WH.takeSkip 8 rfl (by kernel_rfl) (wantNF rfl g31) rfl rfl hs30 (WH.takeSkip 9 rfl (by kernel_rfl) (wantNF rfl g31) rfl rfl hs30 (WH.takeSkip 10 rfl (by kernel_rfl) (wantNF rfl g31) rfl rfl hs30 (WH.o1 4 rfl ?_)))))))
   refine WL.skip (wantNF rfl g31) rfl rfl (WL.nil ⟨hs30, WH.o1 11 rfl (WL.skip (wantNF rfl g31) rfl rfl (WL.nil ⟨hs30, WH.takeSkip 12 rfl (by kernel_rfl) (wantNF rfl g31) rfl rfl hs30 ?_⟩))⟩)
   refine WH.take 13 rfl (by kernel_rfl) rfl rfl rfl hs30 (fun w_ hs_ => (Run.pickT rfl rfl g31 rfl)) ?_
   refine WH.dn (hK29 _ _ ?_)
   refine WC.cq rfl (fun h32 qh32 => ?_) (fun h32 qh32 => ?_)
   ·refine WC.r1 hs30 [] rfl (WC.ret (tkR ?_))
    clear hK28
    refine retV2 rfl (resV.tmp rfl) (resV.tmp rfl) (⟨congrArg Ending.returned ?_, hs30.nil⟩)
    have hno : runeL b = none := rread_no (by omega) hcl (fun r hr h1 h2 h3 => by
        have h9 := ‹(!tlOk ((b.drop 1).take (3 - 1))) = true›
        rw [h2] at h9; cases h9)
    rw [hno]; rfl
   refine WC.skip (hK28 _ _ (WC.r1 hs30 [] rfl (WC.ret (retV2 rfl (resV.tmp rfl) (resV.tmp rfl) (⟨congrArg Ending.returned ?_, hs30.nil⟩)))))
   cases h32
  refine WH.rnA (Acts.nil.cons (j := 2) rfl g31) [3, 5, 6, 7, 8, 9] hs30 [] rfl rfl ?_ (hS := ⟨by (first | omega | (simp only [p6]; omega)), trivial⟩)
  refine WH.take 10 rfl (by kernel_rfl) (wantF rfl g31) rfl rfl hs30 (fun w_ hs_ => (Run.sliceLH (0) (3) Try.runUnderlying22 Try.sizeOf5 rfl rfl rfl rfl ?_ ?_ ?_)) ?_
  · first | rfl | (first | omega | (simp only [p6]; omega))
  · first | rfl | (first | omega | (simp only [p6]; omega))
  · refine ⟨?_, ?_, ?_⟩ <;> (first | omega | (simp only [p6]; omega))
  refine WH.o1 4 rfl (WL.call (wantF rfl g31) rfl rfl (Run.call Try.call20 rfl rfl rfl) (k9_ _ _) ?_)
  rintro _ whs33 ⟨A34, c35, L1_36, rfl, hs33, ho37⟩
  replace hs33 := hs30.callF hs33
  refine ⟨_, rfl, WL.nil ⟨(hs33.rm L1_36), WH.o1 11 rfl ?_⟩⟩
  refine WL.call (wantF rfl g31) rfl rfl (Run.call Try.call141 rfl rfl rfl) (k10_ _ _ _ _ _ _ _ _ _ (SlF.ofOwn ho37 (hs33.ow L1_36)) (SlF.cutC (lo := 0) (hi := 3) (SlF.st0 f_b hs33) (by refine ⟨?_, ?_, ?_⟩ <;> (first | omega | (simp only [p6]; omega)))) ?_) ?_
  · exact Nat.le_trans (runeB_len _) (by decide)
  rintro _ whs38 ⟨rfl, hs38⟩
  replace hs38 := hs33.call0 hs38
  refine ⟨_, rfl, WL.nil ⟨(hs38.rm L1_36), WH.rnA (Acts.nil.cons (j := 2) rfl g31) [12] (hs38.rm L1_36) [] rfl rfl ?_⟩⟩
  refine WH.take 13 rfl (by kernel_rfl) rfl rfl rfl (hs38.rm L1_36) (fun w_ hs_ => (Run.pick rfl rfl rfl rfl)) ?_
  refine WH.dn (hK29 _ _ ?_)
  refine WC.cq rfl (fun h39 qh39 => ?_) (fun h39 qh39 => ?_)
  ·refine WC.r1 hs38 [] rfl (WC.ret (tkR ?_))
   clear hK28
   refine retV2 rfl (resV.tmp rfl) (resV.tmp rfl) (⟨congrArg Ending.returned ?_, hs38.nil⟩)
   have hrs := rsum_or (a := gat encB b 0) (t := ((b.drop 1).take (3 - 1))) (c := 3) (x := (((gat encB b 0).toNat : Int) - 224) * 2 ^ 12) (.inr (.inr ⟨rfl, by omega, rfl⟩)) (by rw [List.length_take, List.length_drop]; omega)
   have hq9 : (bif !tlOk ((b.drop 1).take (3 - 1)) then true else !decide (runeB (rsum (gat encB b 0) ((b.drop 1).take (3 - 1)) 3) = b.take 3)) = true := by rw [← hrs]; exact h39
   have hno : runeL b = none := rread_no (by omega) hcl (fun r hr h1 h2 h3 => by
       rw [h2] at hq9; subst hr; have h10 : runeB (rsum (gat encB b 0) ((b.drop 1).take (3 - 1)) 3) = b.take 3 := h3; rw [h10, decide_eq_true rfl] at hq9; cases hq9)
   rw [hno]; rfl
  refine WC.skip (hK28 _ _ (WC.r1 hs38 [] rfl (WC.ret (retV2 rfl (resV.tmp rfl) (resV.tmp rfl) (⟨congrArg Ending.returned ?_, hs38.nil⟩)))))
  have hrs := rsum_or (a := gat encB b 0) (t := ((b.drop 1).take (3 - 1))) (c := 3) (x := (((gat encB b 0).toNat : Int) - 224) * 2 ^ 12) (.inr (.inr ⟨rfl, by omega, rfl⟩)) (by rw [List.length_take, List.length_drop]; omega)
  have hq9 : (bif !tlOk ((b.drop 1).take (3 - 1)) then true else !decide (runeB (rsum (gat encB b 0) ((b.drop 1).take (3 - 1)) 3) = b.take 3)) = false := by rw [← hrs]; exact h39
  rcases h11 : tlOk ((b.drop 1).take (3 - 1)) with _ | _ <;> rw [h11] at hq9
  · cases hq9
  have hyes := rread_yes (by omega) hcl (by omega) h11 hrs (by rw [hrs]; by_cases h12 : runeB (rsum (gat encB b 0) ((b.drop 1).take (3 - 1)) 3) = b.take 3; exact h12; rw [decide_eq_false h12] at hq9; cases hq9)
  rw [hyes]; rfl
 have hcl : rcls (bat b 0) = 1 := by unfold rcls; rw [if_neg (by simp only [gat, bat] at *; omega), if_neg (by simp only [gat, bat] at *; omega)]
 refine WC.skip (hK5 _ _ (WC.seq (fun K40 hK40 => ?_)))
 refine WC.rr tbk hs23 [] rfl ⟨by first | omega | (simp only [p6]; omega), trivial⟩ (WC.cq rfl (fun h41 qh41 => ?_) (fun h41 qh41 => ?_))
 ·refine WC.r1 hs23 [] rfl (WC.ret (tkR ?_))
  clear hK40
  refine retV2 rfl (resV.tmp rfl) (resV.tmp rfl) (⟨congrArg Ending.returned ?_, hs23.nil⟩)
  have hno : runeL b = none := rread_no (by omega) hcl (fun r hr h1 h2 h3 => by
      omega)
  rw [hno]; rfl
 refine WC.skip (hK40 _ _ (WC.sr ?_))
 refine WL.run tbk 6 hs23 [] rfl ⟨by first | omega | (simp only [p6]; omega), by first | omega | (simp only [p6]; omega), trivial⟩ (WL.val rfl rfl rfl (Run.sliceLH (1) (1) Try.runUnderlying22 Try.sizeOf5 rfl rfl rfl rfl ?_ ?_ ?_) ?_)
 · first | rfl | (first | omega | (simp only [p6]; omega))
 · first | rfl | (first | omega | (simp only [p6]; omega))
 · refine ⟨?_, ?_, ?_⟩ <;> (first | omega | (simp only [p6]; omega))
 refine WL.cl Try.call123 rfl (k8_ _ _ _ _ _ (SlF.cutC (lo := 1) (hi := 1) (SlF.st0 f_b hs23) (by refine ⟨?_, ?_, ?_⟩ <;> (first | omega | (simp only [p6]; omega)))) ?_) ?_
 · first | assumption | rfl | omega
 rintro _ whs42 ⟨rfl, hs42⟩
 replace hs42 := hs23.call0 hs42
 refine ⟨_, rfl, WL.r 3 hs42 [] rfl ?_⟩
 have htv := tlV_bnd (l := (b.drop 1).take (1 - 1)) (by rw [List.length_take, List.length_drop]; omega)
 refine WL.r 2 hs42 [] rfl (WL.nil (WC.sr ?_))
 refine WL.run tbk 4 hs42 [] rfl ⟨by first | omega | (simp only [p6]; omega), by first | omega | (simp only [p6]; omega), trivial⟩ (WL.val rfl rfl rfl (Run.shl rfl rfl rfl ?_ ?_ ?_) ?_)
 · first | omega | (simp only [p6]; omega)
 · first | omega | (simp only [p6]; omega)
 · simp only [p6]; constructor <;> omega
 refine WL.r 1 hs42 [] rfl (WL.val rfl rfl rfl (Run.or rfl rfl rfl ?_ ?_ ?_ ?_) ?_)
 · first | omega | (simp only [p6]; omega)
 · first | omega | (simp only [p6]; omega)
 · first | omega | (simp only [p6]; omega)
 · first | omega | (simp only [p6]; omega)
 refine WL.r 1 hs42 [] rfl (WL.nil (WC.seq (fun K43 hK43 => WC.seq (fun K44 hK44 => WC.rH hs42 hs42 (fun _ hs45 => ?_)))))
 refine WH.rn [0, 1, 2] hs45 [] rfl rfl (WH.split 58 rfl (fun g46 => ?_) (fun g46 => ?_))
 ·refine WH.takeSkip 3 rfl (by kernel_rfl) (wantNF rfl g46) rfl rfl hs45 (WH.takeSkip 5 rfl (by kernel_rfl) (wantNF rfl g46) rfl rfl hs45 (WH.takeSkip 6 rfl (by kernel_rfl) (wantNF rfl g46) rfl rfl hs45 (WH.takeSkip 7 rfl (by kernel_rfl) (wantNF rfl g46) rfl rfl hs45 (WH.takeSkip 8 rfl (by kernel_rfl) (wantNF rfl g46) rfl rfl hs45 (WH.takeSkip 9 rfl (by kernel_rfl) (wantNF rfl g46) rfl rfl hs45 (WH.takeSkip 10 rfl (by kernel_rfl) (wantNF rfl g46) rfl rfl hs45 (WH.o1 4 rfl ?_)))))))
  refine WL.skip (wantNF rfl g46) rfl rfl (WL.nil ⟨hs45, WH.o1 11 rfl (WL.skip (wantNF rfl g46) rfl rfl (WL.nil ⟨hs45, WH.takeSkip 12 rfl (by kernel_rfl) (wantNF rfl g46) rfl rfl hs45 ?_⟩))⟩)
  refine WH.take 13 rfl (by kernel_rfl) rfl rfl rfl hs45 (fun w_ hs_ => (Run.pickT rfl rfl g46 rfl)) ?_
  refine WH.dn (hK44 _ _ ?_)
  refine WC.cq rfl (fun h47 qh47 => ?_) (fun h47 qh47 => ?_)
  ·refine WC.r1 hs45 [] rfl (WC.ret (tkR ?_))
   clear hK43
   refine retV2 rfl (resV.tmp rfl) (resV.tmp rfl) (⟨congrArg Ending.returned ?_, hs45.nil⟩)
   have hno : runeL b = none := rread_no (by omega) hcl (fun r hr h1 h2 h3 => by
       have h9 := ‹(!tlOk ((b.drop 1).take (1 - 1))) = true›
       rw [h2] at h9; cases h9)
   rw [hno]; rfl
  refine WC.skip (hK43 _ _ (WC.r1 hs45 [] rfl (WC.ret (retV2 rfl (resV.tmp rfl) (resV.tmp rfl) (⟨congrArg Ending.returned ?_, hs45.nil⟩)))))
  cases h47
 refine WH.rnA (Acts.nil.cons (j := 2) rfl g46) [3, 5, 6, 7, 8, 9] hs45 [] rfl rfl ?_ (hS := ⟨by (first | omega | (simp only [p6]; omega)), trivial⟩)
 refine WH.take 10 rfl (by kernel_rfl) (wantF rfl g46) rfl rfl hs45 (fun w_ hs_ => (Run.sliceLH (0) (1) Try.runUnderlying22 Try.sizeOf5 rfl rfl rfl rfl ?_ ?_ ?_)) ?_
 · first | rfl | (first | omega | (simp only [p6]; omega))
 · first | rfl | (first | omega | (simp only [p6]; omega))
 · refine ⟨?_, ?_, ?_⟩ <;> (first | omega | (simp only [p6]; omega))
 refine WH.o1 4 rfl (WL.call (wantF rfl g46) rfl rfl (Run.call Try.call20 rfl rfl rfl) (k9_ _ _) ?_)
 rintro _ whs48 ⟨A49, c50, L1_51, rfl, hs48, ho52⟩
 replace hs48 := hs45.callF hs48
 refine ⟨_, rfl, WL.nil ⟨(hs48.rm L1_51), WH.o1 11 rfl ?_⟩⟩
 refine WL.call (wantF rfl g46) rfl rfl (Run.call Try.call141 rfl rfl rfl) (k10_ _ _ _ _ _ _ _ _ _ (SlF.ofOwn ho52 (hs48.ow L1_51)) (SlF.cutC (lo := 0) (hi := 1) (SlF.st0 f_b hs48) (by refine ⟨?_, ?_, ?_⟩ <;> (first | omega | (simp only [p6]; omega)))) ?_) ?_
 · exact Nat.le_trans (runeB_len _) (by decide)
 rintro _ whs53 ⟨rfl, hs53⟩
 replace hs53 := hs48.call0 hs53
 refine ⟨_, rfl, WL.nil ⟨(hs53.rm L1_51), WH.rnA (Acts.nil.cons (j := 2) rfl g46) [12] (hs53.rm L1_51) [] rfl rfl ?_⟩⟩
 refine WH.take 13 rfl (by kernel_rfl) rfl rfl rfl (hs53.rm L1_51) (fun w_ hs_ => (Run.pick rfl rfl rfl rfl)) ?_
 refine WH.dn (hK44 _ _ ?_)
 refine WC.cq rfl (fun h54 qh54 => ?_) (fun h54 qh54 => ?_)
 ·refine WC.r1 hs53 [] rfl (WC.ret (tkR ?_))
  clear hK43
  refine retV2 rfl (resV.tmp rfl) (resV.tmp rfl) (⟨congrArg Ending.returned ?_, hs53.nil⟩)
  have hrs := rsum_or (a := gat encB b 0) (t := ((b.drop 1).take (1 - 1))) (c := 1) (x := ((gat encB b 0).toNat : Int) * 2 ^ 0) (.inl ⟨rfl, rfl⟩) (by rw [List.length_take, List.length_drop]; omega)
  have hq9 : (bif !tlOk ((b.drop 1).take (1 - 1)) then true else !decide (runeB (rsum (gat encB b 0) ((b.drop 1).take (1 - 1)) 1) = b.take 1)) = true := by rw [← hrs]; exact h54
  have hno : runeL b = none := rread_no (by omega) hcl (fun r hr h1 h2 h3 => by
      rw [h2] at hq9; subst hr; have h10 : runeB (rsum (gat encB b 0) ((b.drop 1).take (1 - 1)) 1) = b.take 1 := h3; rw [h10, decide_eq_true rfl] at hq9; cases hq9)
  rw [hno]; rfl
 refine WC.skip (hK43 _ _ (WC.r1 hs53 [] rfl (WC.ret (retV2 rfl (resV.tmp rfl) (resV.tmp rfl) (⟨congrArg Ending.returned ?_, hs53.nil⟩)))))
 have hrs := rsum_or (a := gat encB b 0) (t := ((b.drop 1).take (1 - 1))) (c := 1) (x := ((gat encB b 0).toNat : Int) * 2 ^ 0) (.inl ⟨rfl, rfl⟩) (by rw [List.length_take, List.length_drop]; omega)
 have hq9 : (bif !tlOk ((b.drop 1).take (1 - 1)) then true else !decide (runeB (rsum (gat encB b 0) ((b.drop 1).take (1 - 1)) 1) = b.take 1)) = false := by rw [← hrs]; exact h54
 rcases h11 : tlOk ((b.drop 1).take (1 - 1)) with _ | _ <;> rw [h11] at hq9
 · cases hq9
 have hyes := rread_yes (by omega) hcl (by omega) h11 hrs (by rw [hrs]; by_cases h12 : runeB (rsum (gat encB b 0) ((b.drop 1).take (1 - 1)) 1) = b.take 1; exact h12; rw [decide_eq_false h12] at hq9; cases hq9)
 rw [hyes]; rfl
theorem inf58 : Try.prog.info? 58 = some Try.t58 := by kernel_rfl
theorem built_58_0 (x0 : Int) : Try.prog.built 58 [(0, .int .i64 x0)] = some (List.toArray [.int .i64 x0, .int .i64 0, .int .i64 0, .bool false, .bool false, .bool false]) := by kernel_rfl
theorem built_25_0_1_2 (x0 : Int) (x1 : Int) (x2 : Option Addr) (x3 : Nat) (x4 : Nat) : Try.prog.built 25 [(0, .int .i64 x0), (1, .int .i64 x1), (2, .slice x2 x3 x4)] = some (List.toArray [.int .i64 x0, .int .i64 x1, .slice x2 x3 x4]) := by kernel_rfl
theorem built_31 : Try.prog.built 31 [] = some (List.toArray [.int .i64 0, .int .i64 0, .int .i64 0, .int .i64 0, .slice none 0 0, .int .i64 0, .int .i64 0, .slice none 0 0, .bool false, .int .i64 0, .int .i64 0, .bool false, .int .i64 0, .int .i64 0, .bool false, .bool false, .bool false, .int .i64 0, .int .i64 0, .bool false, .bool false, .int .i64 0, .int .i64 0, .int .i64 0, .int .i64 0, .bool false, .bool false, .bool false, .slice none 0 0, .int .i64 0, .slice none 0 0]) := by kernel_rfl
theorem built_31_0_1_2_3_10_16_17 (x0 : Int) (x1 : Int) (x2 : Value) (x3 : Value) (x4 : Value) (x5 : Value) (x6 : Value) (x7 : Value) (x8 : Int) (x9 : Option Addr) (x10 : Nat) (x11 : Nat) (x12 : Int) : Try.prog.built 31 [(0, .int .i64 x0), (1, .int .i64 x1), (2, .agg [x2, x3, x4].toArray), (3, .agg [x5, x6, x7].toArray), (10, .int .i64 x8), (16, .slice x9 x10 x11), (17, .int .i64 x12)] = some (List.toArray [.int .i64 x0, .int .i64 x1, x2, x3, x4, x5, x6, x7, .bool false, .int .i64 0, .int .i64 0, .bool false, .int .i64 0, .int .i64 0, .bool false, .bool false, .bool false, .int .i64 0, .int .i64 x8, .bool false, .bool false, .int .i64 0, .int .i64 0, .int .i64 0, .int .i64 0, .bool false, .bool false, .bool false, .slice x9 x10 x11, .int .i64 x12, .slice none 0 0]) := by kernel_rfl
theorem k14_ (w_ h_ : Int) (w : World) :
    Calls Try.prog 25 #[i64 w_, i64 h_] w fun e w' => e = .returned (.bool (isSize w_ h_)) ∧ St w [] [] w' := by
 refine enter 17 Try.func25 rfl Try.ntmps25 rfl rfl ?_
 have hs1 := St.init w
 refine WC.r1 hs1 [] rfl (WC.sr (WL.r 1 hs1 [] rfl (WL.cl Try.call33 rfl (k0_ _ _ _ _) ?_)))
 rintro _ whs2 ⟨rfl, hs2⟩
 replace hs2 := hs1.call0 hs2
 refine ⟨_, rfl, WL.r 1 hs2 [] rfl ?_⟩
 apply WL.gA 2 Acts.nil hs2 rfl
 ·intro g3 J4
  have qg3 := g3
  try simp only [bf, within_iff, within_not] at qg3
  refine WL.runA tbk 1 (Acts.nil.cons (j := 2) rfl g3) hs2 [] rfl trivial (WL.call (wantT rfl g3) rfl rfl (Run.call Try.call33 rfl rfl rfl) (k0_ _ _ _ _) ?_)
  rintro _ whs5 ⟨rfl, hs5⟩
  replace hs5 := hs2.call0 hs5
  refine ⟨_, rfl, WL.eA 2 Acts.nil J4 hs5 g3 rfl rfl⟩
 intro _ hs6
 refine WL.r 1 hs6 [] rfl ?_
 apply WL.gA 4 Acts.nil hs6 rfl
 ·intro g7 J8
  have qg7 := g7
  try simp only [bf, within_iff, within_not] at qg7
  refine WL.runA tbk 4 (Acts.nil.cons (j := 6) rfl g7) hs6 [] rfl ⟨?_, trivial⟩ ?_
  · (have h9 := mul_size (w := w_) (h := h_) (by omega) (by omega); constructor <;> omega)
  exact WL.eA 4 Acts.nil J8 hs6 g7 rfl rfl
 intro _ hs9
 refine WL.r 1 hs9 [] rfl (WL.nil (WC.ret (rtv rfl rfl hs9 ?_)))
 rfl
theorem k15_  (w : World) :
    Calls Try.prog 96 #[] w fun e w' => e = .returned (.agg #[i64 32, i64 0, i64 0, .bool false, .bool false, .bool false]) ∧ St w [] [] w' := by
 refine enter 2 Try.func96 rfl Try.ntmps96 rfl rfl ?_
 have hs1 := St.init w
 refine WC.sr (WL.al hs1 Try.zeroValue58 rfl rfl (fun b2 _ hs3 => WL.nil (WC.sr ?_)))
 refine WL.val rfl rfl rfl (Run.build rfl rfl rfl rfl (built_58_0 _)) (WL.st tbk hs3 0 rfl rfl (fun _ hs4 => WL.nil (WC.ret (retV1 rfl (resV.cellA tbk hs4 0 rfl rfl rfl rfl) (⟨congrArg Ending.returned ?_, hs4.nil⟩)))))
 rfl
theorem k16_ (c : Nat) (w : World) (hc : c < 4294967296) :
    Calls Try.prog 140 #[.int .u64 ((1 : Nat) : Int), .int .u64 (c : Int)] w fun e w' => e = .returned (.tuple #[.int .u64 ((0 : Nat) : Int), .int .u64 (c : Int)]) ∧ St w [] [] w' := by
 refine enter 51 Try.func140 rfl Try.ntmps140 rfl rfl ?_
 have hs1 := St.init w
 refine WC.r1 hs1 [] rfl (WC.sr (WL.r 1 hs1 [] rfl (WL.val rfl rfl rfl (Run.maskU (1) rfl rfl rfl ?_) ?_)))
 · omega
 refine WL.r 1 hs1 [] rfl (WL.nil (WC.sr (WL.r 1 hs1 [] rfl (WL.val rfl rfl rfl (Run.shrU (1) (0) rfl rfl rfl ?_ ?_ ?_) ?_))))
 · omega
 · omega
 · show _ / 4294967296 = _; omega
 refine WL.r 1 hs1 [] rfl (WL.nil (WC.sr (WL.r 1 hs1 [] rfl (WL.val rfl rfl rfl (Run.maskU (c) rfl rfl rfl ?_) ?_))))
 · omega
 refine WL.r 1 hs1 [] rfl (WL.nil (WC.sr (WL.r 1 hs1 [] rfl (WL.val rfl rfl rfl (Run.shrU (c) (0) rfl rfl rfl ?_ ?_ ?_) ?_))))
 · omega
 · omega
 · show _ / 4294967296 = _; omega
 refine WL.r 1 hs1 [] rfl (WL.nil (WC.sr (WL.r 2 hs1 [] rfl (WL.val rfl rfl rfl (Run.asN (c) (Run.mulW rfl rfl rfl) ?_) ?_))))
 · exact wrapU _ (by omega) (by omega)
 refine WL.r 1 hs1 [] rfl (WL.nil (WC.sr (WL.r 2 hs1 [] rfl (WL.val rfl rfl rfl (Run.asN (0) (Run.mulW rfl rfl rfl) ?_) ?_))))
 · exact wrapU _ (by omega) (by omega)
 refine WL.r 1 hs1 [] rfl (WL.val rfl rfl rfl (Run.shrU (c) (0) rfl rfl rfl ?_ ?_ ?_) ?_)
 · omega
 · omega
 · show _ / 4294967296 = _; omega
 refine WL.val rfl rfl rfl (Run.asN (0) (Run.addW rfl rfl rfl) ?_) ?_
 · exact wrapU _ (by omega) (by omega)
 refine WL.r 1 hs1 [] rfl (WL.nil (WC.sr (WL.r 1 hs1 [] rfl (WL.val rfl rfl rfl (Run.maskU (0) rfl rfl rfl ?_) ?_))))
 · omega
 refine WL.r 1 hs1 [] rfl (WL.nil (WC.sr (WL.r 1 hs1 [] rfl (WL.val rfl rfl rfl (Run.shrU (0) (0) rfl rfl rfl ?_ ?_ ?_) ?_))))
 · omega
 · omega
 · show _ / 4294967296 = _; omega
 refine WL.r 1 hs1 [] rfl (WL.nil (WC.sr (WL.r 3 hs1 [] rfl (WL.val rfl rfl rfl (Run.asN (0) (Run.mulW rfl rfl rfl) ?_) ?_))))
 · exact wrapU _ (by omega) (by omega)
 refine WL.val rfl rfl rfl (Run.asN (0) (Run.addW rfl rfl rfl) ?_) ?_
 · exact wrapU _ (by omega) (by omega)
 refine WL.r 1 hs1 [] rfl (WL.nil (WC.sr (WL.r 2 hs1 [] rfl (WL.val rfl rfl rfl (Run.asN (0) (Run.mulW rfl rfl rfl) ?_) ?_))))
 · exact wrapU _ (by omega) (by omega)
 refine WL.r 1 hs1 [] rfl (WL.val rfl rfl rfl (Run.asN (0) (Run.addW rfl rfl rfl) ?_) ?_)
 · exact wrapU _ (by omega) (by omega)
 refine WL.r 1 hs1 [] rfl (WL.val rfl rfl rfl (Run.shrU (0) (0) rfl rfl rfl ?_ ?_ ?_) ?_)
 · omega
 · omega
 · show _ / 4294967296 = _; omega
 refine WL.val rfl rfl rfl (Run.asN (0) (Run.addW rfl rfl rfl) ?_) ?_
 · exact wrapU _ (by omega) (by omega)
 refine WL.r 1 hs1 [] rfl (WL.nil (WC.sr (WL.r 2 hs1 [] rfl (WL.val rfl rfl rfl (Run.asN (c) (Run.mulW rfl rfl rfl) ?_) ?_))))
 · exact wrapU _ (by omega) (by omega)
 refine WL.r 1 hs1 [] rfl (WL.nil (WC.ret (retV2 rfl (resV.tmp rfl) (resV.tmp rfl) (⟨congrArg Ending.returned ?_, hs1.nil⟩))))
 rfl
theorem k17_ (c : Nat) (w : World) (hc : c < 4294967296) :
    Calls Try.prog 126 #[.int .u64 ((1 : Nat) : Int), .int .u64 (c : Int)] w fun e w' => e = .returned (.tuple #[.int .u64 ((0 : Nat) : Int), .int .u64 (c : Int)]) ∧ St w [] [] w' := by
 refine enter 30 Try.func126 rfl Try.ntmps126 rfl rfl ?_
 have hs1 := St.init w
 refine WC.r1 hs1 [] rfl (WC.seq (fun K2 hK2 => WC.condF rfl rfl (WC.skip (hK2 _ _ (WC.sr (WL.r 2 hs1 [] rfl ?_))))))
 refine WL.cl Try.call140 rfl (k16_ _ _ ?_) ?_
 · first | assumption | rfl | omega
 rintro _ whs4 ⟨rfl, hs4⟩
 replace hs4 := hs1.call0 hs4
 refine ⟨_, rfl, WL.r 5 hs4 [] rfl (WL.nil (WC.r1 hs4 [] rfl (WC.ret (retV2 rfl (resV.tmp rfl) (resV.tmp rfl) (⟨congrArg Ending.returned ?_, hs4.nil⟩)))))⟩
 rfl
theorem k18_ (A_x : Option Addr) (n_x c_x : Nat) (x : List CellD) (q_ : Int) (w : World) (f_x : SlF encCell w A_x n_x x) (hx : n_x = 1) (hc : 1 ≤ q_ ∧ q_ ≤ 4000) :
    Calls Try.prog 95 #[.slice A_x n_x c_x, i64 q_] w fun e w' => ∃ A c L1, e = .returned (.slice A (List.replicate q_.toNat (gat encCell x 0)).length c) ∧ St w [] L1 w' ∧ OwnF encCell 58 (.slice A (List.replicate q_.toNat (gat encCell x 0)).length c) (List.replicate q_.toNat (gat encCell x 0)) L1 := by
 have hx1 := hx ▸ f_x.len
 refine enter 48 Try.func95 rfl Try.ntmps95 rfl rfl ?_
 have hs1 := St.init w
 refine WC.r1 hs1 [] rfl (WC.seq (fun K2 hK2 => WC.r1 hs1 [] rfl (WC.condF rfl (decide_eq_false (by omega)) (WC.skip (hK2 _ _ (WC.sr (WL.r 2 hs1 [] rfl ?_)))))))
 refine WL.val rfl rfl rfl (Run.asN (1) (Run.conv Try.runUnderlying3 Try.runUnderlying122 rfl rfl) ?_) ?_
 · exact wrapU _ (by omega) (by decide)
 refine WL.r 1 hs1 [] rfl (WL.val rfl rfl rfl (Run.asN (q_.toNat) (Run.conv Try.runUnderlying3 Try.runUnderlying122 rfl rfl) ?_) ?_)
 · exact wrapU _ (by omega) (by omega)
 refine WL.cl Try.call126 rfl (k17_ _ _ ?_) ?_
 · first | assumption | rfl | omega
 rintro _ whs4 ⟨rfl, hs4⟩
 replace hs4 := hs1.call0 hs4
 refine ⟨_, rfl, WL.r 5 hs4 [] rfl (WL.nil (WC.seq (fun K5 hK5 => WC.sr (WL.r 1 hs4 [] rfl (WL.val rfl rfl rfl (Run.gtr rfl rfl rfl) (WL.r 1 hs4 [] rfl ?_))))))⟩
 apply WL.gO 2 Acts.nil hs4 rfl
 ·intro g6 J7
  have qg6 := g6
  try simp only [bf, within_iff, within_not] at qg6
  refine WL.runA tbk 1 (Acts.nil.cons (j := 2) rfl g6) hs4 [] rfl trivial (WL.val (wantF rfl g6) rfl rfl (Run.gtr rfl rfl rfl) (WL.eO 2 Acts.nil J7 hs4 g6 rfl rfl))
 intro _ hs8
 refine WL.nil ?_
 refine WC.condF rfl (by (try simp only [bf]); constructor <;> omega) (WC.skip (hK5 _ _ (WC.sr (WL.r 1 hs8 [] rfl ?_))))
 refine WL.val rfl rfl rfl (Run.asN (q_.toNat) (Run.conv Try.runUnderlying122 Try.runUnderlying3 rfl rfl) ?_) ?_
 · exact wrap_in (by constructor <;> omega)
 refine WL.makeF (F := encCell) hs8 Try.underlying23 inf58 rfl rfl rfl rfl rfl rfl rfl rfl rfl ?_ ?_ (fun A13 c14 L10 whs11 hs11 ho12 => ?_)
 · have e_ : Try.t58.bytes = 32 := rfl
   rw [e_]; omega
 · omega
 refine WL.r 1 hs11 [] rfl (WL.nil (WC.sr (WL.r 2 hs11 [] rfl (WL.copyF (lo := 0) hs11 ho12 (SlF.st0 f_x hs11) Try.underlying23 Try.underlying23 inf58 rfl rfl rfl rfl rfl rfl rfl (.inr ⟨rfl, rfl⟩) ?_ ?_ (fun L15 _ hs16 ho17 => ?_)))))
 · first | omega | (simp; omega)
 · first | omega | (simp; omega)
 refine WL.r 1 hs16 [] rfl (WL.nil (WC.seq (fun K18 hK18 => WC.block ?_)))
 refine WC.lO [4, 10, 26] rfl hs16 (fun k_ f L_ => ∃ (m : Nat), k_ = q_.toNat - m ∧ (1 ≤ m) ∧ (m ≤ q_.toNat) ∧ OwnF encCell 58 (.slice A13 (q_.toNat) c14) (List.replicate m (gat encCell x 0) ++ List.replicate (q_.toNat - m) encCell.dflt) L_ ∧ Sub [(7, .slice A13 (q_.toNat) c14), (8, .int .i64 m)] f) (((fun (m : Nat) => q_.toNat - m) (1))) ?_ ?_
 ·refine ⟨1, rfl, ?_, ?_, (rep_first (n := q_.toNat) (by omega) hx hx1 ▸ ho17), ⟨rfl, ?_, trivial⟩⟩
  · omega
  · omega
  · (refine congrArg some (congrArg (Value.int _) ?_); omega)
 clear hs16
 rintro _ f w L21 ⟨m, rfl, p0, p1, ho22, hG⟩ hF hs23
 refine WC.sub _ (hG.app hF) ?_
 clear hG hF
 have hlm : (List.replicate m (gat encCell x 0) ++ List.replicate (q_.toNat - m) encCell.dflt).length = q_.toNat := by simp; omega
 refine WC.seq (fun K24 hK24 => WC.r1 hs23 [] rfl ?_)
 refine WC.cq rfl (fun h25 qh25 => ?_) (fun h25 qh25 => ?_)
 ·refine WC.skip (hK24 _ _ (WC.block (WC.rH (hs23.rm L21) hs23 (fun _ hs26 => ?_))))
  refine WH.rn [0, 1, 2] (hs26.rm L21) [] rfl rfl ?_
  have hc_ := OwnF.cap ho22
  refine WH.take 3 rfl (by kernel_rfl) rfl rfl rfl (hs26.rm L21) (fun w_ hs_ => (Run.sliceL (m) Try.runUnderlying23 Try.sizeOf58 rfl rfl rfl ?_ ?_)) ?_
  · first | rfl | (omega)
  · refine ⟨?_, ?_, ?_⟩ <;> (omega)
  refine WH.rn [4, 5] (hs26.rm L21) [] rfl rfl ?_
  have hc_ := OwnF.cap ho22
  refine WH.take 6 rfl (by kernel_rfl) rfl rfl rfl (hs26.rm L21) (fun w_ hs_ => (Run.sliceH (m) Try.runUnderlying23 Try.sizeOf58 rfl rfl rfl ?_ ?_)) ?_
  · first | rfl | (omega)
  · refine ⟨?_, ?_, ?_⟩ <;> (omega)
  refine WH.o1 7 rfl ?_
  refine WL.copyF (lo := m) hs26 ho22 (SlF.cutH (m) (SlF.ofOwn ho22 (hs26.ow L21)) (by refine ⟨?_, ?_, ?_⟩ <;> (omega))) Try.underlying23 Try.underlying23 inf58 rfl rfl rfl rfl rfl rfl rfl (.inl rfl) ?_ ?_ (fun L27 _ hs28 ho29 => ?_)
  · first | omega | (simp; omega)
  · first | omega | (simp; omega)
  refine WL.nil ⟨(hs28.rm L27), WH.rn [8, 9] (hs28.rm L27) [] rfl rfl (WH.dn (ibN (tkN (⟨sbF rfl, _, hs28, _, ?_, (m + min m (q_.toNat - m)), rfl, ?_, ?_, (rep_next p0 p1 ▸ ho29), ⟨rfl, ?_, trivial⟩⟩))))⟩
  · omega
  · omega
  · omega
  · (refine congrArg some (congrArg (Value.int _) ?_); omega)
 refine WC.exit (hK18 _ _ (WC.r1 hs23 [] rfl (WC.ret (retV1 rfl (resV.tmp rfl) ?_))))
 have hx_ := OwnF.eqOf (xs := List.replicate q_.toNat (gat encCell x 0)) ho22 (by rw [show m = q_.toNat by omega, Nat.sub_self]; simp)
 rw [← hx_]
 first | exact ⟨_, _, _, rfl, (St.keep1 hs23), ho22⟩ | exact ⟨A13, c14, _, by rw [OwnF.len_ ho22], (St.keep1 hs23), by rw [OwnF.len_ ho22]; exact ho22⟩
theorem k19_ (w_ : Int) (h_ : Int) (w : World) (hs : isSize w_ h_ = true) :
    Calls Try.prog 64 #[i64 w_, i64 h_] w fun e w' => ∃ r L1, e = .returned (.agg #[i64 r.W, i64 r.H, .slice r.Cells.A r.Cells.n r.Cells.c]) ∧ St w [] L1 w' ∧ ownGridR r L1 ∧ r.dat = gridNew w_ h_ := by
 obtain ⟨hw, hh, hm1, hm2⟩ := isSize_bnd hs
 refine enter 14 Try.func64 rfl Try.ntmps64 rfl rfl ?_
 have hs1 := St.init w
 refine WC.sr (WL.al hs1 Try.zeroValue25 rfl rfl (fun b2 _ hs3 => WL.nil (WC.sr (WL.r 2 hs3 [] rfl (WL.cl Try.call96 rfl (k15_ _) ?_)))))
 rintro _ whs4 ⟨rfl, hs4⟩
 replace hs4 := hs3.call0 hs4
 refine ⟨_, rfl, WL.buildF (F := encCell) hs4 ([blankC]) Try.runUnderlying23 Try.sizeOf58 Try.zeroValue58 rfl rfl rfl rfl rfl rfl rfl rfl rfl rfl rfl rfl (fun A8 c9 L5 whs6 hs6 ho7 => ?_)⟩
 replace hs6 := St.back [_] hs6
 refine WL.r 3 hs6 [] rfl (WL.cl Try.call95 rfl (k18_ _ _ _ _ _ _ (SlF.ofOwn ho7 (hs6.ow L5)) ?_ ?_) ?_)
 iterate 2 first | assumption | rfl | omega
 rintro _ whs10 ⟨A11, c12, L1_13, rfl, hs10, ho14⟩
 replace hs10 := hs6.callF hs10
 refine ⟨_, rfl, ?_⟩
 replace hs10 := St.back [_] hs10
 refine WL.val rfl rfl rfl (Run.build rfl rfl rfl rfl (built_25_0_1_2 _ _ _ _ _)) (WL.st tbk hs10 0 rfl rfl (fun _ hs15 => WL.nil (WC.ret (retV1 rfl (resV.cellA tbk hs15 0 rfl rfl rfl rfl) ?_))))
 refine ⟨⟨w_, h_, SlD.of ho14⟩, _, rfl, (St.keep1 (hs15.fr L1_13)), ?_, ?_⟩
 · exact ho14
 · rfl
theorem k20_ (w_ : Int) (w : World) (hw : 1 ≤ w_ ∧ w_ ≤ 120) :
    Calls Try.prog 66 #[i64 w_] w fun e w' => ∃ A c L1, e = .returned (.slice A (tabsL w_).length c) ∧ St w [] L1 w' ∧ OwnF encI 3 (.slice A (tabsL w_).length c) (tabsL w_) L1 := by
 refine enter 16 Try.func66 rfl Try.ntmps66 rfl rfl ?_
 have hs1 := St.init w
 refine WC.r1 hs1 [] rfl (WC.sr (WL.buildF (F := encI) hs1 ([]) Try.runUnderlying28 Try.sizeOf3 Try.zeroValue3 rfl rfl rfl rfl rfl rfl rfl rfl rfl rfl rfl rfl (fun A5 c6 L2 whs3 hs3 ho4 => WL.r 1 hs3 [] rfl (WL.nil (WC.seq (fun K7 hK7 => WC.r1 hs3 [] rfl (WC.block ?_)))))))
 refine WC.lO [0, 2] rfl hs3 (fun k_ f L_ => ∃ (i : Nat) (A8 : Option Addr) (c9 : Nat), k_ = 121 - i ∧ (i = 0 ∨ 8 * (i : Int) < w_) ∧ (i ≤ 120) ∧ OwnF encI 3 (.slice A8 (((List.range i).map (fun i : Nat => 8 * ((i : Int) + 1))).length) c9) (((List.range i).map (fun i : Nat => 8 * ((i : Int) + 1)))) L_ ∧ Sub [(3, .slice A8 (((List.range i).map (fun i : Nat => 8 * ((i : Int) + 1))).length) c9), (4, .int .i64 (8 * ((i : Int) + 1)))] f) (((fun (i : Nat) => 121 - i) (0))) ?_ ?_
 ·refine ⟨0, _, _, rfl, ?_, ?_, ho4, ⟨?_, ?_, trivial⟩⟩
  · exact .inl rfl
  · omega
  · rfl
  · rfl
 clear hs3
 rintro _ f w L10 ⟨i, A8, c9, rfl, p0, p1, ho11, hG⟩ hF hs12
 refine WC.sub _ (hG.app hF) ?_
 clear hG hF
 have hlt : (((List.range i).map (fun i : Nat => 8 * ((i : Int) + 1)))).length = i := by simp
 refine WC.seq (fun K13 hK13 => WC.r1 hs12 [] rfl ?_)
 refine WC.cq rfl (fun h14 qh14 => ?_) (fun h14 qh14 => ?_)
 ·refine WC.skip (hK13 _ _ (WC.seq (fun K15 hK15 => WC.block (WC.region (WL.r 2 hs12 [] rfl (WL.buildSlice hs12 Try.runUnderlying28 Try.sizeOf3 Try.zeroValue3 rfl rfl rfl rfl rfl rfl rfl rfl rfl rfl (fun b16 whs17 hs17 => ?_)))))))
  refine WL.appendG (hs17.fr L10) ho11 (srcI1 Try.underlying28 (hs17.own _ (nthL_mem (i := 0) rfl)).1) Try.underlying28 inf3 rfl rfl rfl rfl rfl rfl rfl rfl rfl rfl ?_ (fun A21 c22 L18 whs19 hs19 ho20 => ?_)
  · simp; omega
  replace hs19 := St.back [_] hs19
  refine WL.r 1 hs19 [] rfl (WL.nil (hK15 _ _ (WC.region (WL.r 3 hs19 [] rfl (WL.nil (tkN ?_))))))
  replace hs19 := hs19.d1
  refine ⟨sbF rfl, _, hs19, _, ?_, i + 1, _, _, rfl, ?_, ?_, (tabsL_take (w := w_) (by omega) ▸ ho20), ⟨?_, ?_, trivial⟩⟩
  · omega
  · right; omega
  · omega
  · (rw [tabsL_take (w := w_) (i := i) (by omega)]; rfl)
  · (refine congrArg some (congrArg (Value.int _) ?_); omega)
 refine WC.exit (hK7 _ _ (WC.r1 hs12 [] rfl (WC.ret (retV1 rfl (resV.tmp rfl) ?_))))
 have hx_ := OwnF.eqOf (xs := tabsL w_) ho11 (by exact tabsL_end (by omega) p0)
 rw [← hx_]
 first | exact ⟨_, _, _, rfl, (St.keep1 hs12), ho11⟩ | exact ⟨A8, c9, _, by rw [OwnF.len_ ho11], (St.keep1 hs12), by rw [OwnF.len_ ho11]; exact ho11⟩
theorem k21_ (w_ : Int) (h_ : Int) (l : Int) (w : World) :
    Calls Try.prog 52 #[i64 w_, i64 h_, i64 l] w fun e w' => ∃ r0 L0, e = .returned (.tuple #[.agg #[i64 r0.W, i64 r0.H, i64 r0.Main.W, i64 r0.Main.H, .slice r0.Main.Cells.A r0.Main.Cells.n r0.Main.Cells.c, i64 r0.Alt.W, i64 r0.Alt.H, .slice r0.Alt.Cells.A r0.Alt.Cells.n r0.Alt.Cells.c, .bool r0.OnAlt, i64 r0.X, i64 r0.Y, .bool r0.Wrap, i64 r0.A.Fg, i64 r0.A.Bg, .bool r0.A.Bold, .bool r0.A.Under, .bool r0.A.Turn, i64 r0.Top, i64 r0.Bot, .bool r0.NoWrap, .bool r0.Hide, i64 r0.SaveX, i64 r0.SaveY, i64 r0.SaveA.Fg, i64 r0.SaveA.Bg, .bool r0.SaveA.Bold, .bool r0.SaveA.Under, .bool r0.SaveA.Turn, .slice r0.Tabs.A r0.Tabs.n r0.Tabs.c, i64 r0.Limit, .slice r0.Back.A r0.Back.n r0.Back.c], .bool (scrMay w_ h_ l)]) ∧ St w [] (L0) w' ∧ ownScrR r0 L0 ∧ r0.dat = scrRes w_ h_ l := by
 refine enter 32 Try.func52 rfl Try.ntmps52 rfl rfl ?_
 have hs1 := St.init w
 refine WC.sr (WL.al hs1 Try.zeroValue31 rfl rfl (fun b2 _ hs3 => WL.r 1 hs3 [] rfl (WL.nil (WC.seq (fun K4 hK4 => WC.sr (WL.r 2 hs3 [] rfl (WL.cl Try.call25 rfl (k14_ _ _ _) ?_)))))))
 rintro _ whs5 ⟨rfl, hs5⟩
 replace hs5 := hs3.call0 hs5
 refine ⟨_, rfl, WL.r 2 hs5 [] rfl ?_⟩
 apply WL.gO 3 Acts.nil hs5 rfl
 ·intro g6 J7
  have qg6 := g6
  try simp only [bf, within_iff, within_not] at qg6
  refine WL.runA tbk 1 (Acts.nil.cons (j := 4) rfl g6) hs5 [] rfl trivial (WL.call (wantF rfl g6) rfl rfl (Run.call Try.call33 rfl rfl rfl) (k0_ _ _ _ _) ?_)
  rintro _ whs8 ⟨rfl, hs8⟩
  replace hs8 := hs5.call0 hs8
  refine ⟨_, rfl, WL.runA tbk 1 (Acts.nil.cons (j := 4) rfl g6) hs8 [] rfl trivial (WL.eO 3 Acts.nil J7 hs8 g6 rfl rfl)⟩
 intro _ hs9
 refine WL.nil (WC.cq rfl (fun h10 qh10 => ?_) (fun h10 qh10 => ?_))
 ·have hm : scrMay w_ h_ l = false := by rw [← Bool.not_eq_true]; intro h9; unfold scrMay at h9; have h8 := h10; rw [← Bool.not_and, h9] at h8; cases h8
  refine WC.sr ?_
  refine WL.val rfl rfl rfl (Run.build rfl rfl rfl rfl (built_31)) (WL.st tbk hs9 0 rfl rfl (fun _ hs11 => WL.r 1 hs11 [] rfl (WL.nil (WC.ret (tkR ?_)))))
  clear hK4
  refine retV2 rfl (resV.cellA tbk hs11 0 rfl rfl rfl rfl) (resV.tmp rfl) ?_
  rw [hm]
  have hv : scrRes w_ h_ l = scr0 := by unfold scrRes; rw [hm]; rfl
  obtain ⟨L17, hs16, ho18⟩ := ownScrR.fl hs11 (OwnF.nil _ _) (OwnF.nil _ _) (OwnF.nil _ _) (OwnN.nil _ _ _)
  have hs19 := (hs16.fb b2)
  refine ⟨⟨0, 0, ⟨0, 0, ⟨none, 0, 0, []⟩⟩, ⟨0, 0, ⟨none, 0, 0, []⟩⟩, false, 0, 0, false, ⟨0, 0, false, false, false⟩, 0, 0, false, false, 0, 0, ⟨0, 0, false, false, false⟩, ⟨none, 0, 0, []⟩, 0, ⟨none, 0, 0, []⟩⟩, _, rfl, (St.keep1 (hs19.fr L17)), ?_, ?_⟩
  · exact (by exact ho18)
  · rw [hv]; rfl
 have hm : scrMay w_ h_ l = true := by unfold scrMay; rw [Bool.and_eq_true, within_iff]; exact qh10
 have hs : isSize w_ h_ = true := by unfold scrMay at hm; rw [Bool.and_eq_true] at hm; exact hm.1
 obtain ⟨hw, hh, hm1, hm2⟩ := isSize_bnd hs
 refine WC.skip (hK4 _ _ (WC.sr (WL.r 4 hs9 [] rfl ?_)))
 refine WL.cl Try.call64 rfl (k19_ _ _ _ ?_) ?_
 · first | assumption | rfl | omega
 rintro _ whs20 ⟨r21, L1_22, rfl, hs20, ho23, hd24⟩
 replace hs20 := hs9.callF hs20
 refine ⟨_, rfl, ?_⟩
 replace hs20 := St.back [_] hs20
 refine WL.r 2 hs20 [] rfl (WL.cl Try.call64 rfl (k19_ _ _ _ ?_) ?_)
 · first | assumption | rfl | omega
 rintro _ whs25 ⟨r26, L1_27, rfl, hs25, ho28, hd29⟩
 replace hs25 := hs20.callF hs25
 refine ⟨_, rfl, ?_⟩
 replace hs25 := St.back [_] hs25
 refine WL.r 3 hs25 [] rfl (WL.cl Try.call66 rfl (k20_ _ _ ?_) ?_)
 · first | assumption | rfl | omega
 rintro _ whs30 ⟨A31, c32, L1_33, rfl, hs30, ho34⟩
 replace hs30 := hs25.callF hs30
 refine ⟨_, rfl, ?_⟩
 replace hs30 := St.back [_] hs30
 refine WL.r 1 hs30 [] rfl ?_
 refine WL.val rfl rfl rfl (Run.build rfl rfl rfl rfl (built_31_0_1_2_3_10_16_17 _ _ _ _ _ _ _ _ _ _ _ _ _)) (WL.st tbk hs30 0 rfl rfl (fun _ hs35 => WL.r 1 hs35 [] rfl (WL.nil (WC.ret (retV2 rfl (resV.cellA tbk hs35 0 rfl rfl rfl rfl) (resV.tmp rfl) ?_)))))
 rw [hm]
 have hv : scrRes w_ h_ l = scrNew w_ h_ l := by unfold scrRes; rw [hm]; rfl
 obtain ⟨L38, hs37, ho39⟩ := ownScrR.fl hs35 ho23 ho28 ho34 (OwnN.nil _ _ _)
 have hs40 := (hs37.fb b2)
 refine ⟨⟨w_, h_, ⟨r21.W, r21.H, SlD.of ho23⟩, ⟨r26.W, r26.H, SlD.of ho28⟩, false, 0, 0, false, ⟨0, 0, false, false, false⟩, 0, (h_ - (1)), false, false, 0, 0, ⟨0, 0, false, false, false⟩, SlD.of ho34, l, ⟨none, 0, 0, []⟩⟩, _, rfl, (St.keep1 (hs40.fr L38)), ?_, ?_⟩
 · exact (by exact ho39)
 · rw [hv]; exact ScrD.ext' rfl rfl hd24 hd29 rfl rfl rfl rfl rfl rfl rfl rfl rfl rfl rfl rfl rfl rfl rfl
theorem k22_ (g : GridR) (w : World) (f_g : okGridR 549755813888 w g) :
    Calls Try.prog 29 #[.agg #[i64 g.W, i64 g.H, .slice g.Cells.A g.Cells.n g.Cells.c]] w fun e w' => e = .returned (.bool (gridOk g.dat)) ∧ St w [] [] w' := by
 have nb_g_Cells := f_g.Cells_n
 have nl_g_Cells := f_g.Cells.len
 refine enter 24 Try.func29 rfl Try.ntmps29 rfl rfl ?_
 have hs1 := St.init w
 refine WC.sr (WL.bx hs1 rfl (fun b2 _ hs3 => WL.r 1 hs3 [] rfl (WL.nil (WC.sr (WL.r 4 hs3 [0, 0] rfl (WL.cl Try.call25 rfl (k14_ _ _ _) ?_))))))
 rintro _ whs4 ⟨rfl, hs4⟩
 replace hs4 := hs3.call0 hs4
 refine ⟨_, rfl, WL.r 1 hs4 [] rfl ?_⟩
 apply WL.gA 9 Acts.nil hs4 rfl
 ·intro g5 J6
  have qg5 := g5
  try simp only [bf, within_iff, within_not] at qg5
  refine WL.runA tbk 9 (Acts.nil.cons (j := 5) rfl g5) hs4 [0, 0, 0] rfl ⟨?_, rfl, rfl, rfl, trivial⟩ ?_
  · (obtain ⟨_, _, h9, h10⟩ := isSize_bnd (w := g.W) (h := g.H) (by assumption); constructor <;> omega)
  exact WL.eA 9 Acts.nil J6 hs4 g5 rfl rfl
 intro _ hs7
 refine WL.r 1 hs7 [] rfl ?_
 apply WL.gA 3 Acts.nil hs7 rfl
 ·intro g8 J9
  have qg8 := g8
  try simp only [bf, within_iff, within_not] at qg8
  refine WL.runA tbk 2 (Acts.nil.cons (j := 16) rfl g8) hs7 [0] rfl ⟨rfl, trivial⟩ (WL.call (wantT rfl g8) rfl rfl (Run.call Try.call67 rfl rfl rfl) (k7_ _ _ _ _ _ (SlF.st0 f_g.Cells hs7) ?_) ?_)
  · first | assumption | rfl | omega
  rintro _ whs10 ⟨rfl, hs10⟩
  replace hs10 := hs7.call0 hs10
  refine ⟨_, rfl, WL.eA 3 Acts.nil J9 hs10 g8 rfl rfl⟩
 intro _ hs11
 refine WL.r 1 hs11 [] rfl (WL.nil (WC.ret (rtv rfl rfl hs11 ?_)))
 rw [← nl_g_Cells]; rfl
theorem k23_ (g : GridR) (x : Int) (y : Int) (w : World) (f_g : okGridR 549755813888 w g) (hw : 0 ≤ g.W ∧ g.W ≤ 120) (hh : 0 ≤ g.H ∧ g.H ≤ 120) :
    Calls Try.prog 30 #[.agg #[i64 g.W, i64 g.H, .slice g.Cells.A g.Cells.n g.Cells.c], i64 x, i64 y] w fun e w' => e = .returned (.bool (gridHas g.dat x y)) ∧ St w [] [] w' := by
 have nb_g_Cells := f_g.Cells_n
 have nl_g_Cells := f_g.Cells.len
 refine enter 19 Try.func30 rfl Try.ntmps30 rfl rfl ?_
 have hs1 := St.init w
 refine WC.sr (WL.bx hs1 rfl (fun b2 _ hs3 => WL.r 1 hs3 [] rfl (WL.nil (WC.sr (WL.r 4 hs3 [0] rfl (WL.cl Try.call33 rfl (k0_ _ _ _ _) ?_))))))
 rintro _ whs4 ⟨rfl, hs4⟩
 replace hs4 := hs3.call0 hs4
 refine ⟨_, rfl, WL.r 1 hs4 [] rfl ?_⟩
 apply WL.gA 5 Acts.nil hs4 rfl
 ·intro g5 J6
  have qg5 := g5
  try simp only [bf, within_iff, within_not] at qg5
  refine WL.runA tbk 4 (Acts.nil.cons (j := 5) rfl g5) hs4 [0] rfl ⟨by omega, rfl, trivial⟩ (WL.call (wantT rfl g5) rfl rfl (Run.call Try.call33 rfl rfl rfl) (k0_ _ _ _ _) ?_)
  rintro _ whs7 ⟨rfl, hs7⟩
  replace hs7 := hs4.call0 hs7
  refine ⟨_, rfl, WL.eA 5 Acts.nil J6 hs7 g5 rfl rfl⟩
 intro _ hs8
 refine WL.r 1 hs8 [] rfl (WL.nil (WC.ret (rtv rfl rfl hs8 ?_)))
 rfl
theorem k24_ (A_l : Option Addr) (n_l c_l : Nat) (l : List Int) (lo : Int) (hi : Int) (w : World) (f_l : SlF encI w A_l n_l l) (hn : n_l ≤ 549755813888) :
    Calls Try.prog 32 #[.slice A_l n_l c_l, i64 lo, i64 hi] w fun e w' => e = .returned (.bool (isAsc l lo hi)) ∧ St w [] [] w' := by
 refine enter 35 Try.func32 rfl Try.ntmps32 rfl rfl ?_
 have hs1 := St.init w
 refine WC.r1 hs1 [] rfl (WC.seq (fun K2 hK2 => WC.r1 hs1 [] rfl (WC.block ?_)))
 refine WC.lS [0, 1, 2, 9, 10] rfl hs1 (fun k_ f w' => ∃ (i : Nat), k_ = n_l - i ∧ (i ≤ n_l) ∧ (∀ j, j < i → ascAt l lo hi j = true) ∧ Sub [(11, .int .i64 i)] f) ((fun (i : Nat) => n_l - i) (0)) ?_ ?_
 ·refine ⟨0, rfl, ?_, ?_, ⟨rfl, trivial⟩⟩
  · exact Nat.zero_le _
  · exact fun j hj => absurd hj (by omega)
 clear hs1
 rintro _ f w ⟨i, rfl, p0, p1, hG⟩ hF hs3
 refine WC.sub _ (hG.app hF) ?_
 clear hG hF
 refine WC.r1 hs3 [] rfl (WC.seq (fun K4 hK4 => ?_))
 refine WC.cq rfl (fun h5 qh5 => ?_) (fun h5 qh5 => ?_)
 ·refine WC.skip (hK4 _ _ (WC.seq (fun K6 hK6 => WC.block (WC.sr (WL.r 1 hs3 [] rfl ?_)))))
  refine WL.val rfl rfl rfl (Run.idxN Try.runUnderlying28 Try.sizeOf3 rfl rfl rfl ?_ ?_ ?_) ?_
  · exact SlF.some_ (SlF.st0 f_l hs3)
  · omega
  · omega
  refine WL.val rfl rfl rfl (Run.load Try.isAgg3 rfl rfl (SlF.one1 (SlF.st0 f_l hs3) ?_ rfl)) ?_
  · omega
  refine WL.r 2 hs3 [] rfl (WL.nil (WC.sr (WL.r 3 hs3 [] rfl (WL.cl Try.call33 rfl (k0_ _ _ _ _) ?_))))
  rintro _ whs7 ⟨rfl, hs7⟩
  replace hs7 := hs3.call0 hs7
  refine ⟨_, rfl, WL.r 2 hs7 [] rfl ?_⟩
  apply WL.gO 11 Acts.nil hs7 rfl
  ·intro g8 J9
   have qg8 := g8
   try simp only [bf, within_iff, within_not] at qg8
   refine WL.runA tbk 3 (Acts.nil.cons (j := 5) rfl g8) hs7 [] rfl trivial ?_
   apply WL.gA 7 (Acts.nil.cons (j := 5) rfl g8) hs7 rfl
   ·intro g10 J11
    have qg10 := g10
    try simp only [bf, within_iff, within_not] at qg10
    refine WL.runA tbk 3 (Acts.nil.cons (j := 8) rfl g10) hs7 [] rfl ⟨by omega, trivial⟩ (WL.val (wantT rfl g10) rfl rfl (Run.idxK (i - 1) Try.runUnderlying28 Try.sizeOf3 rfl rfl rfl ?_ ?_ ?_) ?_)
    · exact SlF.some_ (SlF.st0 f_l hs7)
    · omega
    · omega
    refine WL.val (wantT rfl g10) rfl rfl (Run.load Try.isAgg3 rfl rfl (SlF.one1 (SlF.st0 f_l hs7) ?_ rfl)) ?_
    · omega
    refine WL.runA tbk 2 (Acts.nil.cons (j := 8) rfl g10) hs7 [] rfl trivial (WL.eA 7 (Acts.nil.cons (j := 5) rfl g8) J11 hs7 g10 rfl rfl)
   intro _ hs12
   exact WL.eO 4 Acts.nil J9 hs12 g8 rfl rfl
  intro _ hs13
  refine WL.nil (WC.cq rfl (fun h14 qh14 => ?_) (fun h14 qh14 => ?_))
  ·have ha : ascAt l lo hi i = false := by unfold ascAt; have h9 := h14; simp only [iat]; cases hw_ : within (gat encI l i) lo hi <;> rw [hw_] at h9 <;> simp at h9 ⊢ <;> omega
   refine WC.r1 hs13 [] rfl (WC.ret (ibR (tkR (tkR (ibR (tkR ?_))))))
   clear hK6 hK2
   refine rtv rfl rfl hs13 ?_
   rw [isAsc_not (by rw [f_l.len]; omega) ha]
  have ha : ascAt l lo hi i = true := by unfold ascAt; have h9 := h14; simp only [iat]; cases hw_ : within (gat encI l i) lo hi <;> rw [hw_] at h9 <;> simp at h9 ⊢ <;> omega
  refine WC.skip (hK6 _ _ (WC.region (WL.r 2 hs13 [] rfl (WL.nil (tkN ?_)))))
  refine ⟨sbF rfl, hs13, _, ?_, i + 1, rfl, ?_, ?_, ⟨rfl, trivial⟩⟩
  · omega
  · omega
  · intro j hj; rcases Nat.lt_or_ge j i with h_ | h_
    · exact p1 j h_
    · obtain rfl : j = i := by omega
      exact ha
 refine WC.exit (hK2 _ _ (WC.r1 hs3 [] rfl (WC.ret (rtv rfl rfl hs3 ?_))))
 rw [isAsc_all (fun j hj => p1 j (by rw [f_l.len] at hj; omega))]
theorem k25_ (r : RowR) (w : World) (f_r : okRowR 549755813888 w r) :
    Calls Try.prog 69 #[.agg #[.slice r.Cells.A r.Cells.n r.Cells.c]] w fun e w' => e = .returned (.bool (!rowOk r.dat)) ∧ St w [] [] w' := by
 have nb_r_Cells := f_r.Cells_n
 have nl_r_Cells := f_r.Cells.len
 refine enter 14 Try.func69 rfl Try.ntmps69 rfl rfl ?_
 have hs1 := St.init w
 refine WC.sr (WL.bx hs1 rfl (fun b2 _ hs3 => WL.r 1 hs3 [] rfl (WL.nil (WC.sr (WL.r 3 hs3 [0] rfl (WL.cl Try.call33 rfl (k0_ _ _ _ _) ?_))))))
 rintro _ whs4 ⟨rfl, hs4⟩
 replace hs4 := hs3.call0 hs4
 refine ⟨_, rfl, WL.r 2 hs4 [] rfl ?_⟩
 apply WL.gO 4 Acts.nil hs4 rfl
 ·intro g5 J6
  have qg5 := g5
  try simp only [bf, within_iff, within_not] at qg5
  refine WL.runA tbk 2 (Acts.nil.cons (j := 5) rfl g5) hs4 [0] rfl ⟨rfl, trivial⟩ (WL.call (wantF rfl g5) rfl rfl (Run.call Try.call67 rfl rfl rfl) (k7_ _ _ _ _ _ (SlF.st0 f_r.Cells hs4) ?_) ?_)
  · first | assumption | rfl | omega
  rintro _ whs7 ⟨rfl, hs7⟩
  replace hs7 := hs4.call0 hs7
  refine ⟨_, rfl, WL.runA tbk 1 (Acts.nil.cons (j := 5) rfl g5) hs7 [] rfl trivial (WL.eO 4 Acts.nil J6 hs7 g5 rfl rfl)⟩
 intro _ hs8
 refine WL.r 1 hs8 [] rfl (WL.nil (WC.ret (rtv rfl rfl hs8 ?_)))
 rw [show rowOk r.dat = (within (r.Cells.n : Int) 1 120 && cellsOk r.Cells.xs) by unfold rowOk; rw [← nl_r_Cells]; rfl, Bool.not_and]
theorem k26_ (A_s : Option Addr) (n_s c_s : Nat) (s : List RowR) (w : World) (f_s : SlN encRowR (okRowR 549755813888) w A_s n_s s) (hn : n_s ≤ 549755813888) :
    Calls Try.prog 100 #[.slice A_s n_s c_s, .func (.func 69) #[] #[]] w fun e w' => e = .returned (.int .i64 (findI (fun r => !rowOk r.dat) s)) ∧ St w [] [] w' := by
 refine enter 19 Try.func100 rfl Try.ntmps100 rfl rfl ?_
 have hs1 := St.init w
 refine WC.r1 hs1 [] rfl (WC.seq (fun K2 hK2 => WC.r1 hs1 [] rfl (WC.block ?_)))
 refine WC.lS [0, 1, 7] rfl hs1 (fun k_ f w' => ∃ (i : Nat), k_ = n_s - i ∧ (i ≤ n_s) ∧ (∀ j, j < i → (fun r => !rowOk r.dat) (gat encRowR s j) = false) ∧ Sub [(8, .int .i64 i)] f) ((fun (i : Nat) => n_s - i) (0)) ?_ ?_
 ·refine ⟨0, rfl, ?_, ?_, ⟨rfl, trivial⟩⟩
  · exact Nat.zero_le _
  · exact fun j hj => absurd hj (by omega)
 clear hs1
 rintro _ f w ⟨i, rfl, p0, p1, hG⟩ hF hs3
 refine WC.sub _ (hG.app hF) ?_
 clear hG hF
 refine WC.r1 hs3 [] rfl (WC.seq (fun K4 hK4 => ?_))
 refine WC.cond rfl (fun h5 => ?_) (fun h5 => ?_)
 ·have qh5 := h5
  try simp only [decide_eq_true_eq, decide_eq_false_iff_not] at qh5
  refine WC.skip (hK4 _ _ (WC.seq (fun K6 hK6 => WC.block (WC.r1 hs3 [] rfl (WC.sr (WL.r 3 hs3 [] rfl ?_))))))
  refine WL.val rfl rfl rfl (Run.idxN Try.runUnderlying29 Try.sizeOf56 rfl rfl rfl ?_ ?_ ?_) ?_
  · exact SlF.some_ (SlF.st0 f_s.sl hs3)
  · omega
  · omega
  refine WL.val rfl rfl rfl (Run.loadA Try.isAgg56 Try.sizeOf56 rfl rfl (SlF.whole (SlF.st0 f_s.sl hs3) ?_)) ?_
  · omega
  refine WL.cl Try.call69 rfl (k25_ (gat encRowR s i) _ (okRowR.st0 (SlN.nth f_s (by omega)) hs3)) ?_
  rintro _ whs7 ⟨rfl, hs7⟩
  replace hs7 := hs3.call0 hs7
  refine ⟨_, rfl, WL.nil (WC.cond rfl (fun h8 => ?_) (fun h8 => ?_))⟩
  ·have qh8 := h8
   try simp only [decide_eq_true_eq, decide_eq_false_iff_not] at qh8
   refine WC.r1 hs7 [] rfl (WC.ret (ibR (tkR (tkR (ibR (tkR ?_))))))
   clear hK6 hK2
   refine rtv rfl rfl hs7 ?_
   rw [findI_some (F := encRowR) (by rw [f_s.len]; omega) p1 h8]
  have qh8 := h8
  try simp only [decide_eq_true_eq, decide_eq_false_iff_not] at qh8
  refine WC.skip (hK6 _ _ (WC.region (WL.r 2 hs7 [] rfl (WL.nil (tkN ?_)))))
  refine ⟨sbF rfl, hs7, _, ?_, i + 1, rfl, ?_, ?_, ⟨rfl, trivial⟩⟩
  · omega
  · omega
  · intro j hj; rcases Nat.lt_or_ge j i with h_ | h_
    · exact p1 j h_
    · obtain rfl : j = i := by omega
      exact h8
 have qh5 := h5
 try simp only [decide_eq_true_eq, decide_eq_false_iff_not] at qh5
 refine WC.exit (hK2 _ _ (WC.r1 hs3 [] rfl (WC.ret (rtv rfl rfl hs3 ?_))))
 rw [findI_none (F := encRowR) (fun j hj => p1 j (by rw [f_s.len] at hj; omega))]
theorem k27_ (A_s : Option Addr) (n_s c_s : Nat) (s : List RowR) (w : World) (f_s : SlN encRowR (okRowR 549755813888) w A_s n_s s) (hn : n_s ≤ 549755813888) :
    Calls Try.prog 68 #[.slice A_s n_s c_s, .func (.func 69) #[] #[]] w fun e w' => e = .returned (.bool (decide (0 ≤ findI (fun r => !rowOk r.dat) s))) ∧ St w [] [] w' := by
 refine enter 9 Try.func68 rfl Try.ntmps68 rfl rfl ?_
 have hs1 := St.init w
 refine WC.r1 hs1 [] rfl (WC.sr (WL.r 2 hs1 [] rfl (WL.cl Try.call100 rfl (k26_ _ _ _ _ _ (SlN.st0 okRowR.st0 f_s hs1) ?_) ?_)))
 · first | assumption | rfl | omega
 rintro _ whs2 ⟨rfl, hs2⟩
 replace hs2 := hs1.call0 hs2
 refine ⟨_, rfl, WL.r 2 hs2 [] rfl (WL.nil (WC.ret (rtv rfl rfl hs2 ?_)))⟩
 rfl
theorem k28_ (A_b : Option Addr) (n_b c_b : Nat) (b : List RowR) (l : Int) (w : World) (f_b : SlN encRowR (okRowR 549755813888) w A_b n_b b) (hn : n_b ≤ 549755813888) :
    Calls Try.prog 34 #[.slice A_b n_b c_b, i64 l] w fun e w' => e = .returned (.bool (backOk (b.map RowR.dat) l)) ∧ St w [] [] w' := by
 refine enter 14 Try.func34 rfl Try.ntmps34 rfl rfl ?_
 have hs1 := St.init w
 refine WC.r1 hs1 [] rfl (WC.sr (WL.r 5 hs1 [] rfl ?_))
 apply WL.gA 3 Acts.nil hs1 rfl
 ·intro g2 J3
  have qg2 := g2
  try simp only [bf, within_iff, within_not] at qg2
  refine WL.runA tbk 1 (Acts.nil.cons (j := 4) rfl g2) hs1 [] rfl trivial (WL.call (wantT rfl g2) rfl rfl (Run.call Try.call68 rfl rfl rfl) (k27_ _ _ _ _ _ (SlN.st0 okRowR.st0 f_b hs1) ?_) ?_)
  · first | assumption | rfl | omega
  rintro _ whs4 ⟨rfl, hs4⟩
  replace hs4 := hs1.call0 hs4
  refine ⟨_, rfl, WL.runA tbk 1 (Acts.nil.cons (j := 4) rfl g2) hs4 [] rfl trivial (WL.eA 3 Acts.nil J3 hs4 g2 rfl rfl)⟩
 intro _ hs5
 refine WL.r 1 hs5 [] rfl (WL.nil (WC.ret (rtv rfl rfl hs5 ?_)))
 unfold backOk; rw [List.length_map, f_b.len, List.all_map, ← all_find]; rfl
set_option maxHeartbeats 4000000 in
theorem k29_ (s : ScrR) (w : World) (f_s : okScrR 549755813888 w s) :
    Calls Try.prog 8 #[.agg #[i64 s.W, i64 s.H, i64 s.Main.W, i64 s.Main.H, .slice s.Main.Cells.A s.Main.Cells.n s.Main.Cells.c, i64 s.Alt.W, i64 s.Alt.H, .slice s.Alt.Cells.A s.Alt.Cells.n s.Alt.Cells.c, .bool s.OnAlt, i64 s.X, i64 s.Y, .bool s.Wrap, i64 s.A.Fg, i64 s.A.Bg, .bool s.A.Bold, .bool s.A.Under, .bool s.A.Turn, i64 s.Top, i64 s.Bot, .bool s.NoWrap, .bool s.Hide, i64 s.SaveX, i64 s.SaveY, i64 s.SaveA.Fg, i64 s.SaveA.Bg, .bool s.SaveA.Bold, .bool s.SaveA.Under, .bool s.SaveA.Turn, .slice s.Tabs.A s.Tabs.n s.Tabs.c, i64 s.Limit, .slice s.Back.A s.Back.n s.Back.c]] w fun e w' => e = .returned (.bool (scrOk s.dat)) ∧ St w [] [] w' := by
 have nb_s_Main_Cells := f_s.Main.Cells_n
 have nl_s_Main_Cells := f_s.Main.Cells.len
 have nb_s_Alt_Cells := f_s.Alt.Cells_n
 have nl_s_Alt_Cells := f_s.Alt.Cells.len
 have nb_s_Tabs := f_s.Tabs_n
 have nl_s_Tabs := f_s.Tabs.len
 have nb_s_Back := f_s.Back_n
 have nl_s_Back := f_s.Back.sl.len
 have hlit : ∀ y, y ∈ [s.Main, s.Alt] → okGridR 549755813888 w y := by intro y hy; simp only [List.mem_cons, List.not_mem_nil, or_false] at hy; rcases hy with rfl | rfl; exact f_s.Main; exact f_s.Alt
 refine enter 122 Try.func8 rfl Try.ntmps8 rfl rfl ?_
 have hs1 := St.init w
 refine WC.sr (WL.bx hs1 rfl (fun b2 _ hs3 => WL.r 1 hs3 [] rfl (WL.nil (WC.seq (fun K4 hK4 => WC.sr (WL.r 4 hs3 [0, 0] rfl (WL.buildF (F := encGridR) hs3 ([s.Main, s.Alt]) Try.runUnderlying68 Try.sizeOf25 Try.zeroValue25 rfl rfl rfl rfl rfl rfl rfl rfl rfl rfl rfl rfl (fun A8 c9 L5 whs6 hs6 ho7 => ?_))))))))
 replace hs6 := St.back [_] hs6
 refine WL.r 2 hs6 [] rfl (WL.nil (WC.block (WC.lS [1, 9, 10] rfl hs6 (fun k_ f w' => ∃ (i : Nat), k_ = 2 - i ∧ (i ≤ 2) ∧ (∀ j, j < i → gridFit (GridR.dat (gat encGridR [s.Main, s.Alt] j)) s.W s.H = true) ∧ Sub [(11, .int .i64 i)] f) ((fun (i : Nat) => 2 - i) (0)) ?_ ?_)))
 ·refine ⟨0, rfl, ?_, ?_, ⟨rfl, trivial⟩⟩
  · omega
  · exact fun j hj => absurd hj (by omega)
 clear hs6
 rintro _ f w ⟨i, rfl, p0, p1, hG⟩ hF hs10
 refine WC.sub _ (hG.app hF) ?_
 clear hG hF
 refine WC.r1 hs10 [] rfl (WC.seq (fun K11 hK11 => ?_))
 refine WC.cq rfl (fun h12 qh12 => ?_) (fun h12 qh12 => ?_)
 ·have hi2 : i < 2 := by have h8 := h12; simp at h8; omega
  refine WC.skip (hK11 _ _ (WC.seq (fun K13 hK13 => WC.block (WC.sr ?_))))
  refine WL.val rfl rfl rfl (Run.idxN Try.runUnderlying68 Try.sizeOf25 rfl rfl rfl ?_ ?_ ?_) ?_
  · exact SlF.some_ (SlF.ofOwn ho7 (hs10.ow L5))
  · first | omega | (simp; omega)
  · first | omega | (simp; omega)
  refine WL.val rfl rfl rfl (Run.loadA Try.isAgg25 Try.sizeOf25 rfl rfl (SlF.whole (SlF.ofOwn ho7 (hs10.ow L5)) ?_)) ?_
  · first | omega | (simp; omega)
  refine WL.al hs10 Try.zeroValue25 rfl rfl (fun b14 _ hs15 => WL.st tbk hs15 0 rfl rfl (fun _ hs16 => WL.nil (WC.sr (WL.r 1 hs16 [0] rfl ?_))))
  refine WL.cl Try.call29 rfl (k22_ (gat encGridR [s.Main, s.Alt] i) _ (okGridR.st0 (hlit _ (gat_mem (by first | omega | (simp; omega)))) hs16)) ?_
  rintro _ whs17 ⟨rfl, hs17⟩
  replace hs17 := hs16.call0 hs17
  refine ⟨_, rfl, WL.r 2 hs17 [] rfl (WL.pO tbk 5 Acts.nil hs17 [0, 1] rfl rfl rfl rfl (fun g_ => ⟨rfl, rfl, trivial⟩) (WL.r 1 hs17 [] rfl (WL.pO tbk 5 Acts.nil hs17 [0, 1] rfl rfl rfl rfl (fun g_ => ⟨rfl, rfl, trivial⟩) (WL.nil (WC.cq rfl (fun h18 qh18 => ?_) (fun h18 qh18 => ?_))))))⟩
  ·have ha : gridFit (GridR.dat (gat encGridR [s.Main, s.Alt] i)) s.W s.H = false := by unfold gridFit; have h9 := h18; show (gridOk (GridR.dat (gat encGridR [s.Main, s.Alt] i)) && (decide ((gat encGridR [s.Main, s.Alt] i).W = s.W) && decide ((gat encGridR [s.Main, s.Alt] i).H = s.H))) = false; revert h9; cases gridOk (GridR.dat (gat encGridR [s.Main, s.Alt] i)) <;> cases decide ((gat encGridR [s.Main, s.Alt] i).W = s.W) <;> cases decide ((gat encGridR [s.Main, s.Alt] i).H = s.H) <;> simp
   have hp1 : scrP1 s.dat = false := by unfold scrP1; rcases (show i = 0 ∨ i = 1 by omega) with rfl | rfl; (rw [show gridFit s.dat.Main s.dat.W s.dat.H = false from ha]; rfl); (rw [show gridFit s.dat.Alt s.dat.W s.dat.H = false from ha, Bool.and_false])
   refine WC.r1 hs17 [] rfl (WC.ret (ibR (tkR (tkR (ibR (tkR ?_))))))
   clear hK13 hK4
   refine rtv rfl rfl hs17 ?_
   rw [scrOk_no (.inl hp1)]
  have ha : gridFit (GridR.dat (gat encGridR [s.Main, s.Alt] i)) s.W s.H = true := by unfold gridFit; have h9 := h18; show (gridOk (GridR.dat (gat encGridR [s.Main, s.Alt] i)) && (decide ((gat encGridR [s.Main, s.Alt] i).W = s.W) && decide ((gat encGridR [s.Main, s.Alt] i).H = s.H))) = true; revert h9; cases gridOk (GridR.dat (gat encGridR [s.Main, s.Alt] i)) <;> cases decide ((gat encGridR [s.Main, s.Alt] i).W = s.W) <;> cases decide ((gat encGridR [s.Main, s.Alt] i).H = s.H) <;> simp
  refine WC.skip (hK13 _ _ (WC.region (WL.r 2 hs17 [] rfl (WL.nil (tkN ?_)))))
  refine ⟨sbF rfl, (hs17.drop (by repeat (first | exact List.Sublist.refl _ | exact List.sublist_append_left _ _ | exact List.Sublist.trans (List.sublist_append_left _ _) (List.sublist_append_left _ _) | apply List.Sublist.cons | refine List.Sublist.trans ?_ (sR _)))), _, ?_, i + 1, rfl, ?_, ?_, ⟨rfl, trivial⟩⟩
  · omega
  · omega
  · intro j hj; rcases Nat.lt_or_ge j i with h_ | h_
    · exact p1 j h_
    · obtain rfl : j = i := by omega
      exact ha
 have hi2 : ¬ i < 2 := by have h8 := h12; simp at h8; omega
 have hp1 : scrP1 s.dat = true := by unfold scrP1; rw [show gridFit s.dat.Main s.dat.W s.dat.H = true from p1 0 (by omega), show gridFit s.dat.Alt s.dat.W s.dat.H = true from p1 1 (by omega)]; rfl
 have hbn : (1 ≤ s.W ∧ s.W ≤ 120) ∧ (1 ≤ s.H ∧ s.H ≤ 120) ∧ s.Main.W = s.W ∧ s.Main.H = s.H ∧ s.Alt.W = s.W ∧ s.Alt.H = s.H := scrP1_bnd hp1
 refine WC.exit (hK4 _ _ (WC.seq (fun K19 hK19 => WC.sr (WL.r 6 hs10 [0, 0, 0] rfl ?_))))
 refine WL.cl Try.call30 rfl (k23_ s.Main _ _ _ (okGridR.st0 f_s.Main hs10) ?_ ?_) ?_
 iterate 2 first | assumption | rfl | omega
 rintro _ whs20 ⟨rfl, hs20⟩
 replace hs20 := hs10.call0 hs20
 refine ⟨_, rfl, WL.r 2 hs20 [] rfl ?_⟩
 apply WL.gO 8 Acts.nil hs20 rfl
 ·intro g21 J22
  have qg21 := g21
  try simp only [bf, within_iff, within_not] at qg21
  refine WL.runA tbk 6 (Acts.nil.cons (j := 8) rfl g21) hs20 [0, 0, 0] rfl ⟨rfl, rfl, rfl, trivial⟩ (WL.call (wantF rfl g21) rfl rfl (Run.call Try.call30 rfl rfl rfl) (k23_ s.Main _ _ _ (okGridR.st0 f_s.Main hs20) ?_ ?_) ?_)
  iterate 2 first | assumption | rfl | omega
  rintro _ whs23 ⟨rfl, hs23⟩
  replace hs23 := hs20.call0 hs23
  refine ⟨_, rfl, WL.runA tbk 1 (Acts.nil.cons (j := 8) rfl g21) hs23 [] rfl trivial (WL.eO 8 Acts.nil J22 hs23 g21 rfl rfl)⟩
 intro _ hs24
 refine WL.r 1 hs24 [] rfl ?_
 apply WL.gO 10 Acts.nil hs24 rfl
 ·intro g25 J26
  have qg25 := g25
  try simp only [bf, within_iff, within_not] at qg25
  refine WL.runA tbk 3 (Acts.nil.cons (j := 18) rfl g25) hs24 [0] rfl ⟨rfl, trivial⟩ ?_
  refine WL.pA tbk 6 (Acts.nil.cons (j := 18) rfl g25) hs24 [0, 0] rfl rfl rfl rfl (fun g_ => by (try simp only [bf, within_iff, within_not] at g_); exact ⟨by omega, rfl, rfl, trivial⟩) (WL.eO 4 Acts.nil J26 hs24 g25 rfl rfl)
 intro _ hs27
 refine WL.r 1 hs27 [] rfl ?_
 apply WL.gO 4 Acts.nil hs27 rfl
 ·intro g28 J29
  have qg28 := g28
  try simp only [bf, within_iff, within_not] at qg28
  refine WL.runA tbk 2 (Acts.nil.cons (j := 30) rfl g28) hs27 [0] rfl ⟨rfl, trivial⟩ (WL.call (wantF rfl g28) rfl rfl (Run.call Try.call31 rfl rfl rfl) (k2_ _ _ _ _ _ _) ?_)
  rintro _ whs30 ⟨rfl, hs30⟩
  replace hs30 := hs27.call0 hs30
  refine ⟨_, rfl, WL.runA tbk 1 (Acts.nil.cons (j := 30) rfl g28) hs30 [] rfl trivial (WL.eO 4 Acts.nil J29 hs30 g28 rfl rfl)⟩
 intro _ hs31
 refine WL.r 1 hs31 [] rfl ?_
 apply WL.gO 4 Acts.nil hs31 rfl
 ·intro g32 J33
  have qg32 := g32
  try simp only [bf, within_iff, within_not] at qg32
  refine WL.runA tbk 2 (Acts.nil.cons (j := 36) rfl g32) hs31 [0] rfl ⟨rfl, trivial⟩ (WL.call (wantF rfl g32) rfl rfl (Run.call Try.call31 rfl rfl rfl) (k2_ _ _ _ _ _ _) ?_)
  rintro _ whs34 ⟨rfl, hs34⟩
  replace hs34 := hs31.call0 hs34
  refine ⟨_, rfl, WL.runA tbk 1 (Acts.nil.cons (j := 36) rfl g32) hs34 [] rfl trivial (WL.eO 4 Acts.nil J33 hs34 g32 rfl rfl)⟩
 intro _ hs35
 refine WL.nil (WC.cq rfl (fun h36 qh36 => ?_) (fun h36 qh36 => ?_))
 ·have hp2 : scrP2 s.dat = false := by have h9 := h36; unfold scrP2; show (((gridHas s.Main.dat s.X s.Y && gridHas s.Main.dat s.SaveX s.SaveY) && ((!s.Wrap || decide (s.X = s.W - 1)) && (attrOk s.A.Fg s.A.Bg && attrOk s.SaveA.Fg s.SaveA.Bg)))) = false; revert h9; cases gridHas s.Main.dat s.X s.Y <;> cases gridHas s.Main.dat s.SaveX s.SaveY <;> cases s.Wrap <;> cases decide (s.X = s.W - 1) <;> cases attrOk s.A.Fg s.A.Bg <;> cases attrOk s.SaveA.Fg s.SaveA.Bg <;> simp
  refine WC.r1 hs35 [] rfl (WC.ret (tkR ?_))
  clear hK19
  refine rtv rfl rfl hs35 ?_
  rw [scrOk_no (.inr (.inl hp2))]
 have hp2 : scrP2 s.dat = true := by have h9 := h36; unfold scrP2; show (((gridHas s.Main.dat s.X s.Y && gridHas s.Main.dat s.SaveX s.SaveY) && ((!s.Wrap || decide (s.X = s.W - 1)) && (attrOk s.A.Fg s.A.Bg && attrOk s.SaveA.Fg s.SaveA.Bg)))) = true; revert h9; cases gridHas s.Main.dat s.X s.Y <;> cases gridHas s.Main.dat s.SaveX s.SaveY <;> cases s.Wrap <;> cases decide (s.X = s.W - 1) <;> cases attrOk s.A.Fg s.A.Bg <;> cases attrOk s.SaveA.Fg s.SaveA.Bg <;> simp
 refine WC.skip (hK19 _ _ (WC.seq (fun K37 hK37 => WC.sr (WL.r 4 hs35 [0] rfl (WL.pO tbk 5 Acts.nil hs35 [0, 0] rfl rfl rfl rfl (fun g_ => ⟨rfl, rfl, trivial⟩) (WL.r 1 hs35 [] rfl (WL.pO tbk 5 Acts.nil hs35 [0, 0] rfl rfl rfl rfl (fun g_ => ⟨rfl, rfl, trivial⟩) ?_)))))))
 refine WL.r 1 hs35 [] rfl ?_
 apply WL.gO 10 Acts.nil hs35 rfl
 ·intro g38 J39
  have qg38 := g38
  try simp only [bf, within_iff, within_not] at qg38
  refine WL.runA tbk 6 (Acts.nil.cons (j := 17) rfl g38) hs35 [0, 0] rfl ⟨rfl, rfl, trivial⟩ (WL.pA tbk 3 (Acts.nil.cons (j := 17) rfl g38) hs35 [0] rfl rfl rfl rfl (fun g_ => ⟨rfl, trivial⟩) (WL.eO 7 Acts.nil J39 hs35 g38 rfl rfl))
 intro _ hs40
 refine WL.nil (WC.cq rfl (fun h41 qh41 => ?_) (fun h41 qh41 => ?_))
 ·have hp3 : scrP3 s.dat = false := by have h9 := h41; unfold scrP3; show ((decide (0 ≤ s.Top) && decide (s.Top ≤ s.Bot)) && (decide (s.Bot < s.H) && (!decide (s.Top = s.Bot) || decide (s.H = 1)))) = false; simp at h9 ⊢; omega
  refine WC.r1 hs40 [] rfl (WC.ret (tkR ?_))
  clear hK37
  refine rtv rfl rfl hs40 ?_
  rw [scrOk_no (.inr (.inr (.inl hp3)))]
 have hp3 : scrP3 s.dat = true := by have h9 := h41; unfold scrP3; show ((decide (0 ≤ s.Top) && decide (s.Top ≤ s.Bot)) && (decide (s.Bot < s.H) && (!decide (s.Top = s.Bot) || decide (s.H = 1)))) = true; simp at h9 ⊢; omega
 refine WC.skip (hK37 _ _ (WC.sr (WL.r 5 hs40 [0, 0] rfl ?_)))
 refine WL.cl Try.call32 rfl (k24_ _ _ _ _ _ _ _ (SlF.st0 f_s.Tabs hs40) ?_) ?_
 · first | assumption | rfl | omega
 rintro _ whs42 ⟨rfl, hs42⟩
 replace hs42 := hs40.call0 hs42
 refine ⟨_, rfl, WL.r 1 hs42 [] rfl ?_⟩
 apply WL.gA 3 Acts.nil hs42 rfl
 ·intro g43 J44
  have qg43 := g43
  try simp only [bf, within_iff, within_not] at qg43
  refine WL.runA tbk 2 (Acts.nil.cons (j := 6) rfl g43) hs42 [0] rfl ⟨rfl, trivial⟩ (WL.call (wantT rfl g43) rfl rfl (Run.call Try.call33 rfl rfl rfl) (k0_ _ _ _ _) ?_)
  rintro _ whs45 ⟨rfl, hs45⟩
  replace hs45 := hs42.call0 hs45
  refine ⟨_, rfl, WL.eA 3 Acts.nil J44 hs45 g43 rfl rfl⟩
 intro _ hs46
 refine WL.r 1 hs46 [] rfl ?_
 apply WL.gA 5 Acts.nil hs46 rfl
 ·intro g47 J48
  have qg47 := g47
  try simp only [bf, within_iff, within_not] at qg47
  refine WL.runA tbk 4 (Acts.nil.cons (j := 11) rfl g47) hs46 [0, 0] rfl ⟨rfl, rfl, trivial⟩ (WL.call (wantT rfl g47) rfl rfl (Run.call Try.call34 rfl rfl rfl) (k28_ _ _ _ _ _ _ (SlN.st0 okRowR.st0 f_s.Back hs46) ?_) ?_)
  · first | assumption | rfl | omega
  rintro _ whs49 ⟨rfl, hs49⟩
  replace hs49 := hs46.call0 hs49
  refine ⟨_, rfl, WL.eA 5 Acts.nil J48 hs49 g47 rfl rfl⟩
 intro _ hs50
 refine WL.r 1 hs50 [] rfl (WL.nil (WC.ret (rtv rfl rfl hs50 ?_)))
 rw [scrOk_yes hp1 hp2 hp3]; rfl
theorem inf56 : Try.prog.info? 56 = some Try.t56 := by kernel_rfl
theorem built_56_0 (x0 : Option Addr) (x1 : Nat) (x2 : Nat) : Try.prog.built 56 [(0, .slice x0 x1 x2)] = some (List.toArray [.slice x0 x1 x2]) := by kernel_rfl
theorem k30_ (A_s : Option Addr) (n_s c_s : Nat) (s : List CellD) (w : World) (f_s : SlF encCell w A_s n_s s) (hn : n_s ≤ 268435456) :
    Calls Try.prog 70 #[.slice A_s n_s c_s] w fun e w' => ∃ A c L1, e = .returned (.slice A (s).length c) ∧ St w [] L1 w' ∧ OwnF encCell 58 (.slice A (s).length c) (s) L1 := by
 have hl := f_s.len
 refine enter 8 Try.func70 rfl Try.ntmps70 rfl rfl ?_
 have hs1 := St.init w
 refine WC.r1 hs1 [] rfl (WC.seq (fun K2 hK2 => WC.sr (WL.r 1 hs1 [] rfl (WL.val rfl rfl rfl (Run.eqlNil Try.underlying23 rfl rfl rfl) (WL.nil ?_)))))
 refine WC.cq rfl (fun h3 qh3 => ?_) (fun h3 qh3 => ?_)
 ·obtain rfl : A_s = none := by simpa using qh3
  have h0 : n_s = 0 := SlF.none_ f_s
  have hs : s = [] := List.eq_nil_of_length_eq_zero (by omega)
  refine WC.r1 hs1 [] rfl (WC.ret (tkR ?_))
  clear hK2
  refine retV1 rfl (resV.tmp rfl) ?_
  have hx_ := OwnF.eqOf (xs := s) (OwnF.nil encCell 58) (by rw [hs])
  rw [← hx_]
  exact ⟨_, _, _, rfl, hs1.nil, (OwnF.nil encCell 58)⟩
 refine WC.skip (hK2 _ _ (WC.sr (WL.buildF (F := encCell) hs1 ([]) Try.runUnderlying23 Try.sizeOf58 Try.zeroValue58 rfl rfl rfl rfl rfl rfl rfl rfl rfl rfl rfl rfl (fun A7 c8 L4 whs5 hs5 ho6 => WL.r 1 hs5 [] rfl ?_))))
 refine WL.appendG hs5 ho6 (SlF.src (SlF.st0 f_s hs5) Try.underlying23) Try.underlying23 inf58 rfl rfl rfl rfl rfl rfl rfl rfl rfl rfl ?_ (fun A12 c13 L9 whs10 hs10 ho11 => ?_)
 · simp; omega
 refine WL.r 1 hs10 [] rfl (WL.nil (WC.ret (retV1 rfl (resV.tmp rfl) ?_)))
 have hx_ := OwnF.eqOf (xs := s) ho11 (by simp)
 rw [← hx_]
 first | exact ⟨_, _, _, rfl, (St.keep1 hs10), ho11⟩ | exact ⟨A12, c13, _, by rw [OwnF.len_ ho11], (St.keep1 hs10), by rw [OwnF.len_ ho11]; exact ho11⟩
theorem k31_ (g : GridR) (w : World) (f_g : okGridR 549755813888 w g) (hsm : smGrid 1048576 g.dat) :
    Calls Try.prog 36 #[.agg #[i64 g.W, i64 g.H, .slice g.Cells.A g.Cells.n g.Cells.c]] w fun e w' => ∃ r L1, e = .returned (.agg #[i64 r.W, i64 r.H, .slice r.Cells.A r.Cells.n r.Cells.c]) ∧ St w [] L1 w' ∧ ownGridR r L1 ∧ r.dat = g.dat := by
 have nb_g_Cells := f_g.Cells_n
 have nl_g_Cells := f_g.Cells.len
 have hl9 : g.Cells.xs.length ≤ 1048576 := hsm
 refine enter 11 Try.func36 rfl Try.ntmps36 rfl rfl ?_
 have hs1 := St.init w
 refine WC.sr (WL.bx hs1 rfl (fun b2 _ hs3 => WL.al hs3 Try.zeroValue25 rfl rfl (fun b4 _ hs5 => WL.nil (WC.seq (fun K6 hK6 => WC.rH hs5.d1 hs5 (fun _ hs7 => ?_))))))
 refine WH.rn [0, 1, 2, 3, 4, 5] hs7.d1 [0, 0, 0] rfl rfl (WH.o1 6 rfl (WL.cl Try.call70 rfl (k30_ _ _ _ _ _ (SlF.st0 f_g.Cells hs7) ?_) ?_))
 · first | assumption | rfl | omega
 rintro _ whs8 ⟨A9, c10, L1_11, rfl, hs8, ho12⟩
 replace hs8 := hs7.callF hs8
 refine ⟨_, rfl, ?_⟩
 replace hs8 := St.back [_, _] hs8
 refine WL.nil ⟨(hs8.d1.rm L1_11), ?_⟩
 refine WH.take 7 rfl (by kernel_rfl) rfl rfl rfl (hs8.d1.rm L1_11) (fun w_ hs_ => (Run.build rfl rfl rfl rfl (built_25_0_1_2 _ _ _ _ _))) ?_
 refine WH.o1 8 rfl (WL.st tbk hs8 0 rfl rfl (fun _ hs13 => WL.nil ⟨(hs13.d1.rm L1_11), WH.dn (hK6 _ _ (WC.ret (retV1 rfl (resV.cellA tbk hs13 0 rfl rfl rfl rfl) ?_)))⟩))
 refine ⟨⟨g.W, g.H, SlD.of ho12⟩, _, rfl, (St.keep1 (hs13.fr L1_11)), ?_, ?_⟩
 · exact ho12
 · rfl
theorem k32_ (s : ScrR) (w : World) (f_s : okScrR 549755813888 w s) (hsm : smScr 1048576 s.dat) :
    Calls Try.prog 62 #[.agg #[i64 s.W, i64 s.H, i64 s.Main.W, i64 s.Main.H, .slice s.Main.Cells.A s.Main.Cells.n s.Main.Cells.c, i64 s.Alt.W, i64 s.Alt.H, .slice s.Alt.Cells.A s.Alt.Cells.n s.Alt.Cells.c, .bool s.OnAlt, i64 s.X, i64 s.Y, .bool s.Wrap, i64 s.A.Fg, i64 s.A.Bg, .bool s.A.Bold, .bool s.A.Under, .bool s.A.Turn, i64 s.Top, i64 s.Bot, .bool s.NoWrap, .bool s.Hide, i64 s.SaveX, i64 s.SaveY, i64 s.SaveA.Fg, i64 s.SaveA.Bg, .bool s.SaveA.Bold, .bool s.SaveA.Under, .bool s.SaveA.Turn, .slice s.Tabs.A s.Tabs.n s.Tabs.c, i64 s.Limit, .slice s.Back.A s.Back.n s.Back.c]] w fun e w' => ∃ r L1, e = .returned (.agg #[i64 r.W, i64 r.H, i64 r.Main.W, i64 r.Main.H, .slice r.Main.Cells.A r.Main.Cells.n r.Main.Cells.c, i64 r.Alt.W, i64 r.Alt.H, .slice r.Alt.Cells.A r.Alt.Cells.n r.Alt.Cells.c, .bool r.OnAlt, i64 r.X, i64 r.Y, .bool r.Wrap, i64 r.A.Fg, i64 r.A.Bg, .bool r.A.Bold, .bool r.A.Under, .bool r.A.Turn, i64 r.Top, i64 r.Bot, .bool r.NoWrap, .bool r.Hide, i64 r.SaveX, i64 r.SaveY, i64 r.SaveA.Fg, i64 r.SaveA.Bg, .bool r.SaveA.Bold, .bool r.SaveA.Under, .bool r.SaveA.Turn, .slice r.Tabs.A r.Tabs.n r.Tabs.c, i64 r.Limit, .slice r.Back.A r.Back.n r.Back.c]) ∧ St w [] L1 w' ∧ ownScrR r L1 ∧ r.dat = s.dat := by
 have nb_s_Main_Cells := f_s.Main.Cells_n
 have nl_s_Main_Cells := f_s.Main.Cells.len
 have nb_s_Alt_Cells := f_s.Alt.Cells_n
 have nl_s_Alt_Cells := f_s.Alt.Cells.len
 have nb_s_Tabs := f_s.Tabs_n
 have nl_s_Tabs := f_s.Tabs.len
 have nb_s_Back := f_s.Back_n
 have nl_s_Back := f_s.Back.sl.len
 have hM : s.Main.Cells.xs.length ≤ 1048576 := hsm.1
 have hA : s.Alt.Cells.xs.length ≤ 1048576 := hsm.2.1
 have hT : s.Tabs.xs.length ≤ 1048576 := hsm.2.2.1
 have hB : s.Back.xs.length ≤ 1048576 := by have h_ := hsm.2.2.2.1; simpa [ScrR.dat] using h_
 have hR : ∀ y, y ∈ s.Back.xs → y.Cells.xs.length ≤ 1048576 := fun y hy => hsm.2.2.2.2 _ (List.mem_map_of_mem hy)
 refine enter 37 Try.func62 rfl Try.ntmps62 rfl rfl ?_
 have hs1 := St.init w
 refine WC.sr (WL.bx hs1 rfl (fun b2 _ hs3 => WL.al hs3 Try.zeroValue31 rfl rfl (fun b4 _ hs5 => WL.nil (WC.seq (fun K6 hK6 => WC.rG 10 (hs5.fb b2).d1 hs5 hs5 (fun _ hs7 => ?_))))))
 refine WG.rn [0, 1, 3, 4, 6, 7] hs7 [1, 1, 1] rfl rfl (WG.o1 2 rfl rfl (WL.cl Try.call36 rfl (k31_ s.Main _ (okGridR.st0 f_s.Main hs7) ?_) ?_))
 · first | assumption | rfl | omega | exact hsm.1 | exact hsm.2.1 | (exact Nat.le_trans hsm.1 (by decide)) | (exact Nat.le_trans hsm.2.1 (by decide)) | (have := hR _ (gat_mem (F := encRowR) (show i < s.Back.xs.length by omega)); omega)
 rintro _ whs8 ⟨r9, L1_10, rfl, hs8, ho11, hd12⟩
 replace hs8 := hs7.callF hs8
 refine ⟨_, rfl, ?_⟩
 replace hs8 := St.back [_, _] hs8
 refine WL.nil ⟨(hs8.rm L1_10), WG.rn [9] (hs8.rm L1_10) [] rfl rfl (WG.o1 5 rfl rfl (WL.cl Try.call36 rfl (k31_ s.Alt _ (okGridR.st0 f_s.Alt hs8) ?_) ?_))⟩
 · first | assumption | rfl | omega | exact hsm.1 | exact hsm.2.1 | (exact Nat.le_trans hsm.1 (by decide)) | (exact Nat.le_trans hsm.2.1 (by decide)) | (have := hR _ (gat_mem (F := encRowR) (show i < s.Back.xs.length by omega)); omega)
 rintro _ whs13 ⟨r14, L1_15, rfl, hs13, ho16, hd17⟩
 replace hs13 := hs8.callF hs13
 refine ⟨_, rfl, ?_⟩
 replace hs13 := St.back [_, _] hs13
 refine WL.nil ⟨((hs13.rm L1_15).rm L1_10), WG.o1 8 rfl rfl (WL.cl Try.call93 rfl (k12_ _ _ _ _ _ (SlF.st0 f_s.Tabs hs13) ?_) ?_)⟩
 · first | assumption | rfl | omega | exact hsm.1 | exact hsm.2.1 | (exact Nat.le_trans hsm.1 (by decide)) | (exact Nat.le_trans hsm.2.1 (by decide)) | (have := hR _ (gat_mem (F := encRowR) (show i < s.Back.xs.length by omega)); omega)
 rintro _ whs18 ⟨A19, c20, L1_21, rfl, hs18, ho22⟩
 replace hs18 := hs13.callF hs18
 refine ⟨_, rfl, ?_⟩
 replace hs18 := St.back [_, _] hs18
 refine WL.nil ⟨(((hs18.rm L1_21).rm L1_15).rm L1_10), WG.oK rfl (WL.st tbk hs18 1 rfl rfl (fun _ hs23 => WL.nil ⟨((((hs23.fb b2).d1.rm L1_21).rm L1_15).rm L1_10), WH.rn [11] ((((hs23.fb b2).d1.rm L1_21).rm L1_15).rm L1_10) [] rfl rfl (WH.o1 12 rfl (WL.st tbk hs23 1 rfl rfl (fun _ hs24 => WL.nil ⟨((((hs24.fb b2).d1.rm L1_21).rm L1_15).rm L1_10), ?_⟩)))⟩))⟩
 refine WH.rn [13] ((((hs24.fb b2).d1.rm L1_21).rm L1_15).rm L1_10) [] rfl rfl (WH.o1 14 rfl (WL.st tbk hs24 1 rfl rfl (fun _ hs25 => WL.nil ⟨((((hs25.fb b2).d1.rm L1_21).rm L1_15).rm L1_10), WH.dn (hK6 _ _ (WC.sr (WL.buildF (F := encRowR) hs25 ([]) Try.runUnderlying29 Try.sizeOf56 Try.zeroValue56 rfl rfl rfl rfl rfl rfl rfl rfl rfl rfl rfl rfl (fun A29 c30 L26 whs27 hs27 ho28 => ?_))))⟩)))
 replace hs27 := St.back [_, _] hs27
 obtain ⟨L31, hs32, ho33⟩ := OwnN.fresh (own := ownRowR) (hs27.fr L26) ho28 Bag.nil
 have hs34 := ((hs32.fb b2).fb b4)
 refine WL.r 1 hs34 [] rfl (WL.nil (WC.seq (fun K35 hK35 => WC.r1 hs34 [1] rfl (WC.block ?_))))
 have hM40 := (St.grp1 (L1 := L31) [] ((((((hs34.fr L1_10).fr L1_15).fr L1_21).fb b2).fb b4).fr L31))
 refine WC.lV [1, 2, 20, 21] rfl hM40 (fun k_ (a_ : Hp) f => ∃ (i : Nat) (rows_ : List RowR) (A36 : Option Addr) (c37 : Nat) (L38 : Hp), k_ = s.Back.n - i ∧ a_ = L38 ∧ (i ≤ s.Back.n) ∧ (rows_.map RowR.dat = (s.Back.xs.take i).map RowR.dat) ∧ (rows_.length = i) ∧ OwnN encRowR ownRowR 56 (.slice A36 (rows_).length c37) (rows_) L38 ∧ Sub [(3, .slice A36 (rows_).length c37), (22, .int .i64 i)] f) (((fun (i : Nat) (rows_ : List RowR) => s.Back.n - i) (0) ([]))) ?_ ?_
 ·refine ⟨0, [], A29, c30, L31, rfl, rfl, ?_, ?_, ?_, ho33, ⟨rfl, rfl, trivial⟩⟩
  · exact Nat.zero_le _
  · rfl
  · rfl
 rintro _ L38 f w ⟨i, rows_, A36, c37, _, rfl, rfl, p0, p1, p2, ho39, hG⟩ hF hs41
 refine WC.sub _ (hG.app hF) ?_
 clear hG hF
 replace hs41 := St.ungrp1 [] hs41
 have hs42 := ((hs41.fb b2).fb b4)
 refine WC.r1 hs42 [] rfl (WC.seq (fun K43 hK43 => ?_))
 refine WC.cD rfl (fun qh44 => ?_) (fun qh44 => ?_)
 ·have hnl := (SlN.nth f_s.Back (show i < s.Back.n by omega)).Cells.len
  refine WC.skip (hK43 _ _ (WC.seq (fun K45 hK45 => WC.block (WC.sr ?_))))
  refine WL.val rfl rfl rfl (Run.idxN Try.runUnderlying29 Try.sizeOf56 rfl rfl rfl ?_ ?_ ?_) ?_
  · exact SlF.some_ (SlF.st0 f_s.Back.sl hs42)
  · omega
  · omega
  refine WL.val rfl rfl rfl (Run.loadA Try.isAgg56 Try.sizeOf56 rfl rfl (SlF.whole (SlF.st0 f_s.Back.sl hs42) ?_)) ?_
  · omega
  refine WL.al hs42 Try.zeroValue56 rfl rfl (fun b46 _ hs47 => WL.st tbk hs47 0 rfl rfl (fun _ hs48 => WL.nil (WC.region (WL.r 3 hs48 [0] rfl ?_))))
  refine WL.cl Try.call70 rfl (k30_ _ _ _ _ _ (SlF.st0 (SlN.nth f_s.Back (by omega)).Cells hs48) ?_) ?_
  · first | assumption | rfl | omega | exact hsm.1 | exact hsm.2.1 | (exact Nat.le_trans hsm.1 (by decide)) | (exact Nat.le_trans hsm.2.1 (by decide)) | (have := hR _ (gat_mem (F := encRowR) (show i < s.Back.xs.length by omega)); omega)
  rintro _ whs49 ⟨A50, c51, L1_52, rfl, hs49, ho53⟩
  replace hs49 := hs48.callF hs49
  refine ⟨_, rfl, ?_⟩
  replace hs49 := St.back [_, _, _] hs49
  refine WL.val rfl rfl rfl (Run.build rfl rfl rfl rfl (built_56_0 _ _ _)) (WL.buildSlice hs49 Try.runUnderlying29 Try.sizeOf56 Try.zeroValue56 rfl rfl rfl rfl rfl rfl rfl rfl rfl rfl (fun b54 whs55 hs55 => ?_))
  obtain ⟨L56, L57, hs60, ho58, ho59⟩ := OwnN.open_ (hs55.fr L38) ho39
  have hs61 := ((((hs60.fb b2).fb b4).fb b46).fb b54)
  refine WL.appendG (hs61.fr L56) ho58 (srcF (F := encRowR) (ys := [(⟨SlD.of ho53⟩ : RowR)]) Try.underlying29 rfl rfl (hs61.own _ (nthL_mem (i := 0) rfl)).1) Try.underlying29 inf56 rfl rfl rfl rfl rfl rfl rfl rfl rfl rfl ?_ (fun A65 c66 L62 whs63 hs63 ho64 => ?_)
  · (try simp only [List.length_append, List.length_singleton, List.nil_append, List.length_nil]); first | omega | (have := hR _ (gat_mem (F := encRowR) (show i < s.Back.xs.length by omega)); omega)
  replace hs63 := St.back [_, _, _, _] hs63
  obtain ⟨L67, hs68, hb69⟩ := Bag.put (x := (⟨SlD.of ho53⟩ : RowR)) ((hs63.fr L1_52).fr L57) ho59 ho53
  have hs70 := ((((hs68.fb b2).fb b4).fb b46).fb b54)
  obtain ⟨L72, hs71, ho73⟩ := OwnN.fold ((hs70.fr L67).fr L62) ho64 hb69
  have hs74 := ((((hs71.fb b2).fb b4).fb b46).fb b54)
  refine WL.r 1 hs74 [] rfl (WL.nil (hK45 _ _ (WC.region (WL.r 2 hs74 [] rfl (WL.nil (tkN ?_))))))
  replace hs74 := hs74.d1.d1
  have hF75 := (St.grp1 (L1 := L72) [] ((((((hs74.fr L1_10).fr L1_15).fr L1_21).fb b2).fb b4).fr L72))
  refine ⟨sbF rfl, _, hF75, _, ?_, i + 1, ((rows_) ++ [(⟨SlD.of ho53⟩ : RowR)]), A65, c66, L72, rfl, rfl, ?_, ?_, ?_, ho73, ⟨rfl, rfl, trivial⟩⟩
  · omega
  · omega
  · rw [List.map_append, p1, map_take_succ (F := encRowR) (by omega)]; congr 1
  · simp only [List.length_append, List.length_singleton]; omega
 refine WC.exit (hK35 _ _ (WC.sr (WL.r 2 hs42 [] rfl (WL.st tbk hs42 1 rfl rfl (fun _ hs76 => WL.nil (WC.sr (WL.r 1 hs76 [1] rfl ?_)))))))
 refine WL.st tbk hs76 0 rfl rfl (fun _ hs77 => WL.nil (WC.ret (retV1 rfl (resV.cellA tbk hs77 0 rfl rfl rfl rfl) ?_)))
 have hi_ : i = s.Back.n := by omega
 have hbk : rows_.map RowR.dat = s.dat.Back := by rw [p1, List.take_of_length_le (by omega)]; rfl
 obtain ⟨L79, hs78, ho80⟩ := ownScrR.fl hs77 ho11 ho16 ho22 ho39
 have hs81 := ((hs78.fb b2).fb b4)
 refine ownScrR.ret rfl (St.keep1 (hs81.fr L79)) ho80 ?_
 · exact ScrD.ext' rfl rfl hd12 hd17 rfl rfl rfl rfl rfl rfl rfl rfl rfl rfl rfl rfl rfl rfl hbk
theorem dm_uniq {a b r c w : Nat} (hb : b < w) (hc : c < w) (h : a * w + b = r * w + c) : a = r ∧ b = c := by
 have key : ∀ p q : Nat, q < w → (p * w + q) / w = p := fun p q hq => by
  rw [Nat.mul_comm, Nat.mul_add_div (by omega), Nat.div_eq_of_lt hq, Nat.add_zero]
 have h1 := key a b hb
 rw [h, key r c hc] at h1
 subst h1
 exact ⟨rfl, by omega⟩
theorem dm_at {k w a b : Nat} (hb : b < w) : (k / w = a ∧ k % w = b) ↔ k = a * w + b := by
 have h := Nat.div_add_mod k w
 rw [Nat.mul_comm] at h
 constructor
 ·rintro ⟨h1, h2⟩
  rw [← h1, ← h2]; exact h.symm
 ·intro h1
  exact dm_uniq (Nat.mod_lt _ (by omega)) hb (h.trans h1)
def pasteIn (g h : GridD) (x y : Int) (k : Nat) : Prop :=
 (0 ≤ ((k % g.W.toNat : Nat) : Int) - x ∧ ((k % g.W.toNat : Nat) : Int) - x < h.W) ∧ 0 ≤ ((k / g.W.toNat : Nat) : Int) - y ∧ ((k / g.W.toNat : Nat) : Int) - y < h.H
instance (g h : GridD) (x y : Int) (k : Nat) : Decidable (pasteIn g h x y k) := by unfold pasteIn; infer_instance
theorem gat_set2 {α : Type} {F : Enc α} {xs : List α} {i k : Nat} {v : α} (hi : i < xs.length) : gat F (xs.set i v) k = if k = i then v else gat F xs k := by
 unfold gat
 rw [List.getD_eq_getElem?_getD, List.getD_eq_getElem?_getD, List.getElem?_set]
 by_cases h : i = k
 ·subst h; simp [hi]
 ·rw [if_neg h, if_neg (Ne.symm h)]
theorem gat_cut {α : Type} {F : Enc α} {xs : List α} {m n k : Nat} (h : k < n) : gat F ((xs.drop m).take n) k = gat F xs (m + k) := by
 unfold gat
 rw [List.getD_eq_getElem?_getD, List.getD_eq_getElem?_getD, List.getElem?_take_of_lt h, List.getElem?_drop]
theorem toNat_mul_nat {a : Nat} {b : Int} (hb : 0 ≤ b) : ((a : Int) * b).toNat = a * b.toNat := by
 rw [Int.toNat_mul (by omega) hb]; rfl
def rowAt (g : GridD) (y : Nat) : RowD := ⟨(g.Cells.drop (y * g.W.toNat)).take g.W.toNat⟩
def lastN {α : Type} (n : Nat) (l : List α) : List α := l.drop (l.length - n)
theorem lastN_len {α : Type} {n : Nat} {l : List α} : (lastN n l).length = min l.length n := by simp [lastN]; omega
theorem lastN_all {α : Type} {n : Nat} {l : List α} (h : l.length ≤ n) : lastN n l = l := by
 unfold lastN; rw [show l.length - n = 0 by omega]; rfl
def keepRows (s : ScrD) (n : Nat) : ScrD := { s with Back := lastN s.Limit.toNat (s.Back ++ (List.range n).map (rowAt s.Main)) }
theorem range_snoc {α : Type} {f : Nat → α} {n : Nat} : (List.range (n + 1)).map f = (List.range n).map f ++ [f n] := by
 rw [List.range_succ, List.map_append]; rfl
theorem k33_ (g : GridR) (y : Int) (w : World) (f_g : okGridR 549755813888 w g) (h0 : 0 ≤ y * g.W) (h1 : y * g.W ≤ (y + 1) * g.W) (h2 : (y + 1) * g.W ≤ g.Cells.n) (h3 : -1 ≤ y ∧ y ≤ 1048576) :
    Calls Try.prog 79 #[.agg #[i64 g.W, i64 g.H, .slice g.Cells.A g.Cells.n g.Cells.c], i64 y] w fun e w' => e = .returned (.slice (cutA g.Cells.A (y * g.W).toNat 6 g.Cells.c) (((y + 1) * g.W).toNat - (y * g.W).toNat) (g.Cells.c - (y * g.W).toNat)) ∧ St w [] [] w' := by
 have nb_g_Cells := f_g.Cells_n
 have nl_g_Cells := f_g.Cells.len
 have hcap := f_g.Cells_c
 refine enter 17 Try.func79 rfl Try.ntmps79 rfl rfl ?_
 have hs1 := St.init w
 refine WC.sr (WL.bx hs1 rfl (fun b2 _ hs3 => WL.r 1 hs3 [] rfl (WL.nil (WC.sr (WL.r 11 hs3 [0, 0, 0] rfl ?_)))))
 refine WL.val rfl rfl rfl (Run.sliceLH ((y * g.W).toNat) (((y + 1) * g.W).toNat) Try.runUnderlying23 Try.sizeOf58 rfl rfl rfl rfl ?_ ?_ ?_) ?_
 · first | rfl | (omega)
 · first | rfl | (omega)
 · refine ⟨?_, ?_, ?_⟩ <;> (omega)
 refine WL.r 1 hs3 [] rfl (WL.nil (WC.ret (rtv rfl rfl hs3 ?_)))
 rfl
theorem smScr_mono {B B' : Nat} {s : ScrD} (h : smScr B s) (hB : B ≤ B') : smScr B' s := ⟨Nat.le_trans h.1 hB, Nat.le_trans h.2.1 hB, Nat.le_trans h.2.2.1 hB, Nat.le_trans h.2.2.2.1 hB, fun y hy => Nat.le_trans (h.2.2.2.2 y hy) hB⟩
theorem rowAt_len {g : GridD} {i : Nat} : (rowAt g i).Cells.length ≤ g.W.toNat := by
 unfold rowAt
 rw [List.length_take]
 exact Nat.min_le_left _ _
def keepTo (s : ScrD) (n : Nat) : ScrD := { s with Back := s.Back ++ (List.range n).map (rowAt s.Main) }
theorem keepTo_zero {s : ScrD} : keepTo s 0 = s := by
 unfold keepTo
 rw [show (List.range 0).map (rowAt s.Main) = [] from rfl, List.append_nil]
theorem keepTo_succ {s : ScrD} {n : Nat} {r : RowD} (h : r = rowAt s.Main n) : keepTo s (n + 1) = { keepTo s n with Back := (keepTo s n).Back ++ [r] } := by
 subst h
 unfold keepTo
 rw [range_snoc, ← List.append_assoc]
theorem keepTo_sm {s : ScrD} {n B : Nat} (h : smScr B s) (hg : gridOk s.Main = true) (hl : s.Back.length + n ≤ B) (hB : 120 ≤ B) : smScr B (keepTo s n) := by
 refine ⟨h.1, h.2.1, h.2.2.1, by simp only [keepTo, List.length_append, List.length_map, List.length_range]; exact hl, fun y hy => ?_⟩
 rcases List.mem_append.1 hy with hy | hy
 ·exact h.2.2.2.2 y hy
 ·obtain ⟨i, _, rfl⟩ := List.mem_map.1 hy
  have h1 := gridOk_bnd hg
  exact Nat.le_trans rowAt_len (by omega)
theorem keepTo_drop {s d : ScrD} {n k : Nat} (h : d = keepTo s n) (hk : k = d.Back.length - s.Limit.toNat) : { d with Back := d.Back.drop k } = keepRows s n := by subst h; subst hk; rfl
theorem keepTo_all {s d : ScrD} {n : Nat} (h : d = keepTo s n) (hk : d.Back.length ≤ s.Limit.toNat) : d = keepRows s n := by
 subst h
 unfold keepRows
 rw [lastN_all (l := s.Back ++ List.map (rowAt s.Main) (List.range n)) hk]; rfl
theorem keepRows_sm {s : ScrD} {n B : Nat} (h : smScr B s) (hg : gridOk s.Main = true) (hB : 120 ≤ B) (hl : s.Limit.toNat ≤ B) : smScr B (keepRows s n) := by
 refine ⟨h.1, h.2.1, h.2.2.1, by simp only [keepRows]; rw [lastN_len]; omega, fun y hy => ?_⟩
 have hy' := List.mem_of_mem_drop hy
 rcases List.mem_append.1 hy' with hy | hy
 ·exact h.2.2.2.2 y hy
 ·obtain ⟨i, _, rfl⟩ := List.mem_map.1 hy
  have h1 := gridOk_bnd hg
  exact Nat.le_trans rowAt_len (by omega)
theorem ownScrR.lens {r : ScrR} {L : Hp} (h : ownScrR r L) : (r.Main.Cells.xs.length = r.Main.Cells.n ∧ r.Main.Cells.n ≤ r.Main.Cells.c) ∧ (r.Alt.Cells.xs.length = r.Alt.Cells.n ∧ r.Alt.Cells.n ≤ r.Alt.Cells.c) ∧ (r.Tabs.xs.length = r.Tabs.n ∧ r.Tabs.n ≤ r.Tabs.c) ∧ (r.Back.xs.length = r.Back.n ∧ r.Back.n ≤ r.Back.c) := by
 obtain ⟨L1, L2, L3, L4, rfl, o1, o2, o3, o4⟩ := h
 exact ⟨⟨OwnF.len_ o1, OwnF.cap o1⟩, ⟨OwnF.len_ o2, OwnF.cap o2⟩, ⟨OwnF.len_ o3, OwnF.cap o3⟩, ⟨OwnN.len_ o4, OwnN.cap o4⟩⟩
theorem gridFit_ok {g : GridD} {w h : Int} (hf : gridFit g w h = true) : gridOk g = true := by
 unfold gridFit at hf
 rw [Bool.and_eq_true] at hf
 exact hf.1
theorem scrOk_P {s : ScrD} (h : scrOk s = true) : scrP1 s = true ∧ scrP2 s = true ∧ scrP3 s = true ∧ scrP4 s = true ∧ isAsc s.Tabs 0 (s.W - 1) = true ∧ s.Back.all rowOk = true := by
 unfold scrOk scrIn at h
 simp only [Bool.and_eq_true] at h
 exact ⟨h.1.1.1.1, h.1.1.1.2, h.1.1.2.1, h.1.1.2.2, h.1.2, h.2⟩
theorem scrOk_main {s : ScrD} (h : scrOk s = true) : gridOk s.Main = true ∧ gridOk s.Alt = true := by
 have h1 := (scrOk_P h).1
 unfold scrP1 at h1
 rw [Bool.and_eq_true] at h1
 exact ⟨gridFit_ok h1.1, gridFit_ok h1.2⟩
theorem scrOk_bnd {s : ScrD} (h : scrOk s = true) : ((1 ≤ s.W ∧ s.W ≤ 120) ∧ (1 ≤ s.H ∧ s.H ≤ 120) ∧ s.Main.W = s.W ∧ s.Main.H = s.H ∧ s.Alt.W = s.W ∧ s.Alt.H = s.H) ∧ ((0 ≤ s.X ∧ s.X < s.W) ∧ 0 ≤ s.Y ∧ s.Y < s.H) ∧ ((0 ≤ s.SaveX ∧ s.SaveX < s.W) ∧ 0 ≤ s.SaveY ∧ s.SaveY < s.H) ∧ (0 ≤ s.Top ∧ s.Top ≤ s.Bot ∧ s.Bot < s.H) ∧ (0 ≤ s.Limit ∧ s.Limit ≤ 100) ∧ (s.Back.length : Int) ≤ s.Limit := by
 obtain ⟨h1, h2, h3, h4, _, _⟩ := scrOk_P h
 have b := scrP1_bnd h1
 unfold scrP2 gridHas at h2
 unfold scrP3 at h3
 unfold scrP4 at h4
 simp only [Bool.and_eq_true, within_iff, decide_eq_true_eq] at h2 h3 h4
 omega
theorem gridOk_new {w h : Int} (hs : isSize w h = true) : gridOk (gridNew w h) = true := by
 obtain ⟨h1, h2, h3, h4⟩ := isSize_bnd hs
 unfold gridOk
 rw [Bool.and_eq_true, Bool.and_eq_true]
 refine ⟨⟨hs, ?_⟩, ?_⟩
 ·rw [decide_eq_true_eq]
  show ((List.replicate (w * h).toNat blankC).length : Int) = w * h
  rw [List.length_replicate]; omega
 ·show cellsOk (List.replicate (w * h).toNat blankC) = true
  unfold cellsOk
  rw [List.all_eq_true]
  intro x hx
  rw [List.mem_replicate] at hx
  rw [hx.2]; decide
theorem tots_le {l : List RowD} {k : Nat} (h : ∀ y, y ∈ l → y.Cells.length ≤ k) : tots totRow l ≤ l.length * (k + 1) := by
 unfold tots
 have : (l.map totRow).sum ≤ l.length * k := by
  induction l with
  | nil => simp
  | cons y r ih =>
   have h1 := ih (fun z hz => h z (List.mem_cons_of_mem _ hz))
   have h2 := h y List.mem_cons_self
   simp only [List.map_cons, List.sum_cons, List.length_cons, totRow, Nat.add_mul]
   omega
 rw [Nat.mul_add]
 omega
theorem rowOk_len {r : RowD} (h : rowOk r = true) : r.Cells.length ≤ 120 := by
 unfold rowOk at h
 rw [Bool.and_eq_true, within_iff] at h
 omega
theorem back_bnd {b : List RowD} {l : Int} (h : ∀ y, y ∈ b → y.Cells.length ≤ 120) (hl : (b.length : Int) ≤ l) (h2 : l ≤ 100) : tots totRow b ≤ 12100 := by
 have h1 := tots_le h
 have h3 : b.length * 121 ≤ 100 * 121 := Nat.mul_le_mul_right _ (by omega)
 omega
theorem scrOk_back {s : ScrD} (h : scrOk s = true) : ∀ y, y ∈ s.Back → y.Cells.length ≤ 120 := by
 have := (scrOk_P h).2.2.2.2.2
 rw [List.all_eq_true] at this
 exact fun y hy => rowOk_len (this y hy)
theorem smTerm_mono {B B' : Nat} {t : TermD} (h : smTerm B t) (hB : B ≤ B') : smTerm B' t := ⟨⟨Nat.le_trans h.1.1 hB, Nat.le_trans h.1.2 hB⟩, smScr_mono h.2 hB⟩
theorem termOk_P {t : TermD} (h : termOk t = true) : vpOk t.P = true ∧ scrOk t.S = true := by
 unfold termOk at h
 rwa [Bool.and_eq_true] at h
theorem scrOk_attr {s : ScrD} (h : scrOk s = true) : attrOk s.A.Fg s.A.Bg = true ∧ attrOk s.SaveA.Fg s.SaveA.Bg = true := by
 have h2 := (scrOk_P h).2.1
 unfold scrP2 at h2
 simp only [Bool.and_eq_true] at h2
 exact h2.2.2
theorem gridOk_cells {g : GridD} (h : gridOk g = true) : g.Cells.length ≤ 4000 ∧ cellsOk g.Cells = true := by
 have b := gridOk_bnd h
 unfold gridOk at h
 rw [Bool.and_eq_true, Bool.and_eq_true, decide_eq_true_eq] at h
 exact ⟨by omega, h.2⟩
def partF (g : GridD) (F : Nat → CellD) (lo i k : Nat) : CellD := if lo ≤ k ∧ k < lo + i then F k else cat g.Cells k
theorem partF_zero {g : GridD} {F : Nat → CellD} {lo k : Nat} : partF g F lo 0 k = cat g.Cells k := by
 unfold partF; rw [if_neg (by omega)]
theorem partF_add {g : GridD} {F : Nat → CellD} {lo i m k : Nat} : partF g F lo (i + m) k = if lo + i ≤ k ∧ k < lo + i + m then F k else partF g F lo i k := by
 unfold partF
 by_cases h1 : lo + i ≤ k ∧ k < lo + i + m
 ·rw [if_pos h1, if_pos (by omega)]
 ·rw [if_neg h1]
  by_cases h2 : lo ≤ k ∧ k < lo + i
  ·rw [if_pos h2, if_pos (by omega)]
  ·rw [if_neg h2, if_neg (by omega)]
theorem partF_one {g : GridD} {F : Nat → CellD} {lo i k : Nat} : partF g F lo (i + 1) k = if k = lo + i then F k else partF g F lo i k := by
 rw [partF_add]
 by_cases h : k = lo + i
 ·rw [if_pos h, if_pos (by omega)]
 ·rw [if_neg h, if_neg (by omega)]
theorem at_div {w y x : Nat} (hx : x < w) : (y * w + x) / w = y ∧ (y * w + x) % w = x := (dm_at hx).2 rfl
theorem rollF_row {g : GridD} {top bot n : Int} {y x : Nat} (hw : (x : Int) < g.W) (h1 : top ≤ (y : Int)) (h2 : (y : Int) ≤ bot) : rollF g top bot n (y * g.W.toNat + x) = if top ≤ (y : Int) + n ∧ (y : Int) + n ≤ bot then cat g.Cells (((y : Int) + n).toNat * g.W.toNat + x) else blankC := by
 obtain ⟨e1, e2⟩ := at_div (w := g.W.toNat) (y := y) (x := x) (by omega)
 unfold rollF
 rw [e1, e2, if_pos ⟨h1, h2⟩]
theorem rollF_out {g : GridD} {top bot n : Int} {k : Nat} (h : ¬ (top ≤ ((k / g.W.toNat : Nat) : Int) ∧ ((k / g.W.toNat : Nat) : Int) ≤ bot)) : rollF g top bot n k = cat g.Cells k := by
 unfold rollF; rw [if_neg h]
theorem partF_roll {g : GridD} {top bot n : Int} {k i : Nat} (hw : 0 < g.W.toNat) (ht : 0 ≤ top) (hi : i = (bot - top + 1).toNat * g.W.toNat) (htb : top ≤ bot) : partF g (rollF g top bot n) (top.toNat * g.W.toNat) i k = rollF g top bot n k := by
 unfold partF
 by_cases h : top ≤ ((k / g.W.toNat : Nat) : Int) ∧ ((k / g.W.toNat : Nat) : Int) ≤ bot
 ·rw [if_pos]
  subst hi
  rw [← Nat.add_mul]
  have h3 := Nat.div_add_mod k g.W.toNat
  have h4 := Nat.mod_lt k hw
  rw [Nat.mul_comm] at h3
  have h5 : top.toNat ≤ k / g.W.toNat := by omega
  have h6 : k / g.W.toNat + 1 ≤ top.toNat + (bot - top + 1).toNat := by omega
  have h7 := Nat.mul_le_mul_right g.W.toNat h5
  have h8 := Nat.mul_le_mul_right g.W.toNat h6
  rw [Nat.add_mul, Nat.one_mul] at h8
  omega
 ·rw [rollF_out h]; split <;> rfl
theorem rollF_big {g : GridD} {top bot n m : Int} (h0 : 0 ≤ top) (hb : bot < g.H) (hn : g.H ≤ n ∧ g.H ≤ m ∨ n ≤ -g.H ∧ m ≤ -g.H) : gRoll g top bot n = gRoll g top bot m := by
 unfold gRoll
 congr 1
 funext k
 unfold rollF
 split
 ·rename_i h
  rw [if_neg (by omega), if_neg (by omega)]
 ·rfl
theorem roll_done {g : GridD} {top bot n m w h : Int} {a : Nat} {xs : List CellD} (hg : gridOk g = true) (h0 : 0 ≤ top) (htb : top ≤ bot) (hb : bot < g.H) (ha : (a : Int) = bot - top + 1) (hw : w = g.W) (hh : h = g.H) (hl : xs.length = g.Cells.length) (hm : n = m ∨ (g.H ≤ n ∧ g.H ≤ m ∨ n ≤ -g.H ∧ m ≤ -g.H))
  (hp : ∀ k, k < g.Cells.length → cat xs k = partF g (rollF g top bot m) (top.toNat * g.W.toNat) (a * g.W.toNat) k) : (⟨w, h, xs⟩ : GridD) = gRoll g top bot n := by
 have b := gridOk_bnd hg
 have e : gRoll g top bot n = gRoll g top bot m := by
  rcases hm with hm | hm
  ·rw [hm]
  ·exact rollF_big h0 hb hm
 rw [e, hw, hh]
 unfold gRoll gmap
 congr 1
 refine ext_gat (F := encCell) hl (fun k hk => ?_)
 rw [← partF_roll (g := g) (top := top) (bot := bot) (n := m) (i := a * g.W.toNat) (by omega) h0 (by congr 1; omega) htb]
 exact hp k hk
theorem gat_splice2 {xs ys : List CellD} {lo m k : Nat} (hy : m ≤ ys.length) (hx : lo + m ≤ xs.length) (hk : k < xs.length) : cat (xs.take lo ++ ys.take m ++ xs.drop (lo + m)) k = if lo ≤ k ∧ k < lo + m then cat ys (k - lo) else cat xs k := gat_splice hy hx hk
theorem asc_at {l : List Int} {lo hi : Int} (h : isAsc l lo hi = true) {i : Nat} (hi' : i < l.length) : (lo ≤ iat l i ∧ iat l i ≤ hi) ∧ (0 < i → iat l (i - 1) < iat l i) := by
 unfold isAsc at h
 rw [List.all_eq_true] at h
 have h4 := h i (List.mem_range.2 hi')
 unfold ascAt at h4
 rw [Bool.and_eq_true, within_iff, Bool.or_eq_true, decide_eq_true_eq, decide_eq_true_eq] at h4
 exact ⟨h4.1, fun h0 => by rcases h4.2 with h5 | h5; omega; exact h5⟩
theorem asc_lt {l : List Int} {lo hi : Int} (h : isAsc l lo hi = true) {i : Nat} : ∀ {j : Nat}, i < j → j < l.length → iat l i < iat l j := by
 intro j
 induction j with
 | zero => intro h1; omega
 | succ j ih =>
  intro h1 h2
  have h3 := (asc_at h h2).2 (by omega)
  rw [Nat.add_sub_cancel] at h3
  rcases Nat.lt_or_ge i j with h4 | h4
  ·have := ih h4 (by omega); omega
  ·have : i = j := by omega
   subst this; exact h3
theorem asc_ge {l : List Int} {lo hi : Int} (h : isAsc l lo hi = true) : ∀ {i : Nat}, i < l.length → lo + i ≤ iat l i := by
 intro i
 induction i with
 | zero => intro h1; have := (asc_at h h1).1; omega
 | succ i ih =>
  intro h1
  have h2 := ih (by omega)
  have h3 := (asc_at h h1).2 (by omega)
  rw [Nat.add_sub_cancel] at h3
  omega
theorem asc_len {l : List Int} {w : Int} (h0 : 1 ≤ w) (h1 : w ≤ 120) (h : isAsc l 0 (w - 1) = true) : l.length ≤ 120 := by
 rcases Nat.lt_or_ge 120 l.length with h2 | h2
 ·have h3 := asc_ge h (i := 120) h2
  have h4 := (asc_at h (i := 120) h2).1
  omega
 ·exact h2
theorem within_of {x a b : Int} (h : a ≤ x ∧ x ≤ b) : within x a b = true := within_iff.2 h
structure ScrFine (s : ScrD) : Prop where
 gM : gridOk s.Main = true
 gA : gridOk s.Alt = true
 dim : s.Main.W = s.W ∧ s.Main.H = s.H ∧ s.Alt.W = s.W ∧ s.Alt.H = s.H
 pos : (0 ≤ s.X ∧ s.X < s.W) ∧ 0 ≤ s.Y ∧ s.Y < s.H
 sav : (0 ≤ s.SaveX ∧ s.SaveX < s.W) ∧ 0 ≤ s.SaveY ∧ s.SaveY < s.H
 wrp : s.Wrap = true → s.X = s.W - 1
 aA : attrOk s.A.Fg s.A.Bg = true
 aS : attrOk s.SaveA.Fg s.SaveA.Bg = true
 reg : (0 ≤ s.Top ∧ s.Top ≤ s.Bot) ∧ s.Bot < s.H ∧ (s.Top = s.Bot → s.H = 1)
 lim : (0 ≤ s.Limit ∧ s.Limit ≤ 100) ∧ (s.Back.length : Int) ≤ s.Limit
 tab : isAsc s.Tabs 0 (s.W - 1) = true
 row : s.Back.all rowOk = true
theorem ScrFine.of {s : ScrD} (h : scrOk s = true) : ScrFine s := by
 obtain ⟨h1, h2, h3, h4, h5, h6⟩ := scrOk_P h
 have hb := scrOk_bnd h
 have hm := scrOk_main h
 have ha := scrOk_attr h
 refine ⟨hm.1, hm.2, ⟨hb.1.2.2.1, hb.1.2.2.2.1, hb.1.2.2.2.2⟩, hb.2.1, hb.2.2.1, ?_, ha.1, ha.2, ⟨⟨hb.2.2.2.1.1, hb.2.2.2.1.2.1⟩, hb.2.2.2.1.2.2, ?_⟩, hb.2.2.2.2, h5, h6⟩
 ·intro hw
  unfold scrP2 at h2
  rw [hw] at h2
  simp only [Bool.and_eq_true, Bool.not_true, Bool.false_or, decide_eq_true_eq] at h2
  exact h2.2.1
 ·intro he
  unfold scrP3 at h3
  rw [he] at h3
  simp only [Bool.and_eq_true, decide_true, Bool.not_true, Bool.false_or, decide_eq_true_eq] at h3
  exact h3.2.2
theorem ScrFine.ok {s : ScrD} (h : ScrFine s) : scrOk s = true := by
 have b := gridOk_bnd h.gM
 obtain ⟨d1, d2, d3, d4⟩ := h.dim
 have hp := h.pos
 have hs := h.sav
 have hr := h.reg
 have hl := h.lim
 refine scrOk_all ?_ ?_ ?_ ?_ h.tab h.row
 ·unfold scrP1 gridFit
  simp [h.gM, h.gA, d1, d2, d3, d4]
 ·unfold scrP2 gridHas
  rw [within_of (by omega), within_of (by omega), within_of (by omega), within_of (by omega), h.aA, h.aS]
  have hw := h.wrp
  cases hq : s.Wrap
  ·rfl
  ·simp [hw hq]
 ·unfold scrP3
  simp only [Bool.and_eq_true, decide_eq_true_eq, Bool.or_eq_true, Bool.not_eq_true', decide_eq_false_iff_not]
  refine ⟨hr.1, hr.2.1, ?_⟩
  by_cases he : s.Top = s.Bot
  ·exact .inr (hr.2.2 he)
  ·exact .inl he
 ·unfold scrP4
  rw [within_of hl.1, Bool.true_and, decide_eq_true_eq]
  exact hl.2
theorem scr_tot {s : ScrD} (h : scrOk s = true) : totScr s ≤ 20220 := by
 have f := ScrFine.of h
 have m := gridOk_cells f.gM
 have a := gridOk_cells f.gA
 have b := back_bnd (scrOk_back h) f.lim.2 f.lim.1.2
 have t : s.Tabs.length ≤ 120 := by
  have hb := scrOk_bnd h
  exact asc_len (by omega) (by omega) f.tab
 show s.Main.Cells.length + s.Alt.Cells.length + s.Tabs.length + tots totRow s.Back ≤ 20220
 omega
theorem blank_ok : cellOk blankC = true := by decide
theorem grid_len {g : GridD} (hg : gridOk g = true) : (g.Cells.length : Int) = g.W * g.H := by
 unfold gridOk at hg; rw [Bool.and_eq_true, Bool.and_eq_true, decide_eq_true_eq] at hg; exact hg.1.2
theorem cat_ok {g : GridD} {k : Nat} (hg : gridOk g = true) (hk : k < g.Cells.length) : cellOk (cat g.Cells k) = true := by
 have h := (gridOk_cells hg).2
 unfold cellsOk at h
 rw [List.all_eq_true] at h
 exact h _ (gat_mem (F := encCell) hk)
theorem gmap_ok {g : GridD} {f : Nat → CellD} (hg : gridOk g = true) (h : ∀ k, k < g.Cells.length → cellOk (f k) = true) : gridOk (gmap g f) = true := by
 have hg' := hg
 unfold gridOk at hg' ⊢
 rw [Bool.and_eq_true, Bool.and_eq_true] at hg' ⊢
 refine ⟨⟨hg'.1.1, ?_⟩, ?_⟩
 ·rw [decide_eq_true_eq, gmap_len]; exact grid_len hg
 ·unfold cellsOk
  rw [List.all_eq_true]
  intro x hx
  obtain ⟨k, hk, rfl⟩ := List.mem_map.1 hx
  exact h k (List.mem_range.1 hk)
theorem idx_lt {g : GridD} {r : Int} {x : Nat} (hg : gridOk g = true) (h0 : 0 ≤ r) (h1 : r < g.H) (hx : x < g.W.toNat) : r.toNat * g.W.toNat + x < g.Cells.length := by
 have b := gridOk_bnd hg
 have l := grid_len hg
 have e : ((g.H.toNat * g.W.toNat : Nat) : Int) = g.W * g.H := by rw [Int.natCast_mul, Int.toNat_of_nonneg (by omega), Int.toNat_of_nonneg (by omega), Int.mul_comm]
 have m := Nat.mul_le_mul_right g.W.toNat (show r.toNat + 1 ≤ g.H.toNat by omega)
 rw [Nat.add_mul, Nat.one_mul] at m
 omega
theorem gRoll_ok {g : GridD} {top bot n : Int} (hg : gridOk g = true) (h0 : 0 ≤ top) (hb : bot < g.H) : gridOk (gRoll g top bot n) = true := by
 have b := gridOk_bnd hg
 refine gmap_ok hg (fun k hk => ?_)
 unfold rollF
 split
 ·split
  ·exact cat_ok hg (idx_lt hg (by omega) (by omega) (Nat.mod_lt _ (by omega)))
  ·exact blank_ok
 ·exact cat_ok hg hk
theorem gShift_ok {g : GridD} {x y n : Int} (hg : gridOk g = true) (h0 : 0 ≤ x) (hy : 0 ≤ y ∧ y < g.H) : gridOk (gShift g x y n) = true := by
 have b := gridOk_bnd hg
 refine gmap_ok hg (fun k hk => ?_)
 unfold shiftF
 split
 ·rename_i h
  split
  ·have := idx_lt (r := ((k / g.W.toNat : Nat) : Int)) (x := (((k % g.W.toNat : Nat) : Int) - n).toNat) hg (by omega) (by omega) (by omega)
   rw [Int.toNat_natCast] at this
   exact cat_ok hg this
  ·exact blank_ok
 ·exact cat_ok hg hk
theorem gFill_ok {g : GridD} {x y w h : Int} {c : CellD} (hg : gridOk g = true) (hc : cellOk c = true) : gridOk (gFill g x y w h c) = true := by
 refine gmap_ok hg (fun k hk => ?_)
 unfold fillFn
 split
 ·exact hc
 ·exact cat_ok hg hk
def shownD (s : ScrD) : GridD := if s.OnAlt = true then s.Alt else s.Main
def putD (s : ScrD) (g : GridD) : ScrD := if s.OnAlt = true then { s with Alt := g } else { s with Main := g }
def shownR (x : ScrR) : GridR := if x.OnAlt = true then x.Alt else x.Main
theorem okScrR.shown {B : Nat} {w : World} {x : ScrR} (h : okScrR B w x) : okGridR B w (shownR x) := by
 unfold shownR; split
 ·exact h.Alt
 ·exact h.Main
theorem sepScrR.shown {T : List Nat} {x : ScrR} (h : sepScrR T x) : sepGridR T (shownR x) := by
 unfold shownR; split
 ·exact h.Alt
 ·exact h.Main
theorem ScrFine.shown {s : ScrD} (h : ScrFine s) : gridOk (shownD s) = true ∧ (shownD s).W = s.W ∧ (shownD s).H = s.H := by
 unfold shownD
 split
 ·exact ⟨h.gA, h.dim.2.2⟩
 ·exact ⟨h.gM, h.dim.1, h.dim.2.1⟩
theorem ScrFine.put {s : ScrD} {g : GridD} (h : ScrFine s) (hg : gridOk g = true) (hd : g.W = s.W ∧ g.H = s.H) : ScrFine (putD s g) := by
 unfold putD
 split
 ·exact ⟨h.gM, hg, ⟨h.dim.1, h.dim.2.1, hd⟩, h.pos, h.sav, h.wrp, h.aA, h.aS, h.reg, h.lim, h.tab, h.row⟩
 ·exact ⟨hg, h.gA, ⟨hd.1, hd.2, h.dim.2.2⟩, h.pos, h.sav, h.wrp, h.aA, h.aS, h.reg, h.lim, h.tab, h.row⟩
def rollD (s : ScrD) (top bot n : Int) : ScrD := putD s (gRoll (shownD s) top bot n)
def keepD (s : ScrD) (n : Int) : ScrD := if s.OnAlt = false ∧ s.Top = 0 then keepRows s (min n (s.Bot + 1)).toNat else s
def rollUpD (s : ScrD) (n : Int) : ScrD := rollD (keepD s n) s.Top s.Bot n
def wrapD (s : ScrD) (b : Bool) : ScrD := { s with Wrap := b }
def downD (s : ScrD) : ScrD := wrapD (if s.Y = s.Bot then rollUpD s 1 else if s.Y < s.H - 1 then { s with Y := s.Y + 1 } else s) false
def upD (s : ScrD) : ScrD := wrapD (if s.Y = s.Top then rollD s s.Top s.Bot (-1) else if s.Y > 0 then { s with Y := s.Y - 1 } else s) false
def saveD (s : ScrD) : ScrD := { s with SaveX := s.X, SaveY := s.Y, SaveA := s.A }
def backD (s : ScrD) : ScrD := { s with X := s.SaveX, Y := s.SaveY, A := s.SaveA, Wrap := false }
def tabL (s : ScrD) : List Int := ((List.range s.W.toNat).map (fun i : Nat => (i : Int))).filter (fun x => decide (x = s.X) || s.Tabs.contains x)
def tabD (s : ScrD) : ScrD := { s with Tabs := tabL s }
def resetD (s : ScrD) : ScrD := { scrNew s.W s.H s.Limit with Back := s.Back }
theorem ScrFine.roll {s : ScrD} {top bot n : Int} (h : ScrFine s) (h0 : 0 ≤ top) (hb : bot < s.H) : ScrFine (rollD s top bot n) := by
 have hs := h.shown
 exact h.put (gRoll_ok hs.1 h0 (by rw [hs.2.2]; exact hb)) hs.2
theorem rowAt_ok {g : GridD} {i : Nat} (hg : gridOk g = true) (hi : (i : Int) < g.H) : rowOk (rowAt g i) = true := by
 have b := gridOk_bnd hg
 have l := grid_len hg
 have h2 := idx_lt (r := (i : Int)) (x := 0) hg (by omega) hi (by omega)
 have h3 := idx_lt (r := (i : Int)) (x := g.W.toNat - 1) hg (by omega) hi (by omega)
 rw [Int.toNat_natCast] at h2 h3
 have hl : (rowAt g i).Cells.length = g.W.toNat := by
  show ((g.Cells.drop _).take _).length = _
  rw [List.length_take, List.length_drop]; omega
 unfold rowOk
 rw [Bool.and_eq_true]
 refine ⟨within_of (by omega), ?_⟩
 have hc := (gridOk_cells hg).2
 unfold cellsOk at hc ⊢
 rw [List.all_eq_true] at hc ⊢
 exact fun x hx => hc x (List.mem_of_mem_drop (List.mem_of_mem_take hx))
theorem ScrFine.keepRows {s : ScrD} {n : Nat} (h : ScrFine s) (hn : (n : Int) ≤ s.H) : ScrFine (keepRows s n) := by
 refine ⟨h.gM, h.gA, h.dim, h.pos, h.sav, h.wrp, h.aA, h.aS, h.reg, ⟨h.lim.1, ?_⟩, h.tab, ?_⟩
 ·show ((lastN _ _).length : Int) ≤ s.Limit
  rw [lastN_len]; have := h.lim.1; omega
 ·show (lastN _ _).all rowOk = true
  rw [List.all_eq_true]
  intro x hx
  rcases List.mem_append.1 (List.mem_of_mem_drop hx) with hx | hx
  ·exact List.all_eq_true.1 h.row x hx
  ·obtain ⟨i, hi, rfl⟩ := List.mem_map.1 hx
   exact rowAt_ok h.gM (by rw [h.dim.2.1]; have := List.mem_range.1 hi; omega)
theorem ScrFine.keep {s : ScrD} {n : Int} (h : ScrFine s) : ScrFine (keepD s n) := by
 unfold keepD
 split
 ·exact h.keepRows (by have := h.reg; omega)
 ·exact h
theorem keepD_eqs {s : ScrD} {n : Int} : (keepD s n).H = s.H ∧ (keepD s n).Top = s.Top ∧ (keepD s n).Bot = s.Bot ∧ (keepD s n).W = s.W ∧ (keepD s n).OnAlt = s.OnAlt ∧ (keepD s n).Main = s.Main ∧ (keepD s n).Alt = s.Alt := by
 unfold keepD; split <;> exact ⟨rfl, rfl, rfl, rfl, rfl, rfl, rfl⟩
theorem ScrFine.rollUp {s : ScrD} {n : Int} (h : ScrFine s) : ScrFine (rollUpD s n) := by
 have := h.reg
 exact h.keep.roll (by omega) (by rw [keepD_eqs.1]; omega)
theorem ScrFine.wrap0 {s : ScrD} (h : ScrFine s) : ScrFine (wrapD s false) :=
 ⟨h.gM, h.gA, h.dim, h.pos, h.sav, fun h9 => Bool.noConfusion h9, h.aA, h.aS, h.reg, h.lim, h.tab, h.row⟩
theorem ScrFine.y {s : ScrD} {y : Int} (h : ScrFine s) (hy : 0 ≤ y ∧ y < s.H) : ScrFine { s with Y := y } :=
 ⟨h.gM, h.gA, h.dim, ⟨h.pos.1, hy⟩, h.sav, h.wrp, h.aA, h.aS, h.reg, h.lim, h.tab, h.row⟩
theorem ScrFine.down {s : ScrD} (h : ScrFine s) : ScrFine (downD s) := by
 have hp := h.pos
 refine ScrFine.wrap0 ?_
 split
 ·exact h.rollUp
 ·split
  ·exact h.y (by omega)
  ·exact h
theorem ScrFine.up {s : ScrD} (h : ScrFine s) : ScrFine (upD s) := by
 have hp := h.pos
 have hr := h.reg
 refine ScrFine.wrap0 ?_
 split
 ·exact h.roll (by omega) (by omega)
 ·split
  ·exact h.y (by omega)
  ·exact h
theorem ScrFine.save {s : ScrD} (h : ScrFine s) : ScrFine (saveD s) :=
 ⟨h.gM, h.gA, h.dim, h.pos, h.pos, h.wrp, h.aA, h.aA, h.reg, h.lim, h.tab, h.row⟩
theorem ScrFine.back {s : ScrD} (h : ScrFine s) : ScrFine (backD s) :=
 ⟨h.gM, h.gA, h.dim, h.sav, h.sav, fun h9 => Bool.noConfusion h9, h.aS, h.aS, h.reg, h.lim, h.tab, h.row⟩
theorem roll_row {g : GridD} {top bot n : Int} {a k lo m : Nat} {xs ys : List CellD} (h0 : 0 ≤ top) (hlo : lo = (top.toNat + a) * g.W.toNat) (hm : m = g.W.toNat) (hy : m ≤ ys.length) (hx : lo + m ≤ xs.length) (hk : k < xs.length) (hb : top + a ≤ bot)
  (hv : ∀ j, j < g.W.toNat → cat ys j = if top ≤ top + a + n ∧ top + a + n ≤ bot then cat g.Cells ((top + a + n).toNat * g.W.toNat + j) else blankC) (hq : cat xs k = partF g (rollF g top bot n) (top.toNat * g.W.toNat) (a * g.W.toNat) k) :
  cat (xs.take lo ++ ys.take m ++ xs.drop (lo + m)) k = partF g (rollF g top bot n) (top.toNat * g.W.toNat) ((a + 1) * g.W.toNat) k := by
 rw [gat_splice2 hy hx hk, Nat.add_mul a 1, Nat.one_mul, partF_add, ← Nat.add_mul, ← hlo, hm]
 split
 ·rename_i hr
  rw [hv _ (by omega)]
  have e : k = (top.toNat + a) * g.W.toNat + (k - lo) := by omega
  have e2 : rollF g top bot n k = rollF g top bot n ((top.toNat + a) * g.W.toNat + (k - lo)) := congrArg _ e
  rw [e2, rollF_row (by omega) (by omega) (by omega), show ((top.toNat + a : Nat) : Int) = top + a by omega]
 ·exact hq
theorem roll_src {g : GridD} {y : Int} {j lo m : Nat} (hy : 0 ≤ y) (hw : 0 ≤ g.W) (hlo : lo = (y * g.W).toNat) (hm : m = g.W.toNat) (hj : j < g.W.toNat) : cat ((g.Cells.drop lo).take m) j = cat g.Cells (y.toNat * g.W.toNat + j) := by
 show gat encCell _ _ = _
 rw [gat_cut (by omega), hlo, Int.toNat_mul hy hw]
theorem cat_rep {n j : Nat} {x : CellD} (h : j < n) : cat (List.replicate n x) j = x := by
 show gat encCell _ _ = _
 rw [gat_lt (by rw [List.length_replicate]; exact h), List.getElem_replicate]
def sgrOne (a : AttrD) (n : Int) : AttrD :=
 if n = 0 then ⟨0, 0, false, false, false⟩
 else if n = 1 ∨ n = 22 then { a with Bold := decide (n = 1) }
 else if n = 4 ∨ n = 24 then { a with Under := decide (n = 4) }
 else if n = 7 ∨ n = 27 then { a with Turn := decide (n = 7) }
 else if 30 ≤ n ∧ n ≤ 37 then { a with Fg := n - 29 }
 else if n = 39 then { a with Fg := 0 }
 else if 40 ≤ n ∧ n ≤ 47 then { a with Bg := n - 39 }
 else if n = 49 then { a with Bg := 0 } else a
def sgrAll (a : AttrD) (l : List Int) : AttrD := l.foldl sgrOne a
theorem sgrAll_take {a : AttrD} {l : List Int} {i : Nat} (h : i < l.length) : sgrAll a (l.take (i + 1)) = sgrOne (sgrAll a (l.take i)) (iat l i) := by
 unfold sgrAll
 rw [List.take_add_one, gat_get (F := encI) h, List.foldl_append]
 rfl
def sgrRes (a : AttrD) (l : List Int) : AttrD := if attrOk a.Fg a.Bg = true ∧ 0 < l.length then sgrAll a l else ⟨0, 0, false, false, false⟩
theorem attrOk_iff {a b : Int} : attrOk a b = true ↔ (0 ≤ a ∧ a ≤ 8) ∧ 0 ≤ b ∧ b ≤ 8 := by
 unfold attrOk; rw [Bool.and_eq_true, within_iff, within_iff]
theorem sgrOne_ok {a : AttrD} {n : Int} (h : attrOk a.Fg a.Bg = true) : attrOk (sgrOne a n).Fg (sgrOne a n).Bg = true := by
 rw [attrOk_iff] at h ⊢
 unfold sgrOne
 repeat' split
 all_goals (first | omega | (simp only; omega))
theorem sgrAll_ok {l : List Int} : ∀ {a : AttrD}, attrOk a.Fg a.Bg = true → attrOk (sgrAll a l).Fg (sgrAll a l).Bg = true := by
 induction l with
 | nil => exact fun h => h
 | cons x r ih => exact fun h => ih (sgrOne_ok h)
theorem sgrRes_ok {a : AttrD} {l : List Int} : attrOk (sgrRes a l).Fg (sgrRes a l).Bg = true := by
 unfold sgrRes
 split
 ·rename_i h; exact sgrAll_ok h.1
 ·decide
def argI (l : List Int) (k : Nat) (d : Int) : Int := if k < l.length ∧ iat l k ≠ 0 then iat l k else d
theorem argI_bnd {l : List Int} {k : Nat} {d : Int} (h : areArgs l = true) (hd : 0 ≤ d ∧ d ≤ 9999) : 0 ≤ argI l k d ∧ argI l k d ≤ 9999 := by
 unfold argI
 split
 ·rename_i h1
  exact (areArgs_iff.1 h).2 _ (gat_mem (F := encI) h1.1)
 ·exact hd
theorem argI_pos {l : List Int} {k : Nat} {d : Int} (h : areArgs l = true) (hd : 1 ≤ d ∧ d ≤ 9999) : 1 ≤ argI l k d ∧ argI l k d ≤ 9999 := by
 have h0 := argI_bnd (k := k) h (d := d) (by omega)
 unfold argI at h0 ⊢
 split at h0
 ·rename_i h1; rw [if_pos h1]; have := h1.2; omega
 ·rename_i h1; rw [if_neg h1]; exact hd
def clampI (x hi : Int) : Int := max 0 (min x hi)
theorem clampI_bnd {x w : Int} (h : 1 ≤ w) : 0 ≤ clampI x (w - 1) ∧ clampI x (w - 1) < w := by unfold clampI; omega
def moveD (s : ScrD) (x y : Int) : ScrD := { s with X := clampI x (s.W - 1), Y := clampI y (s.H - 1), Wrap := false }
def clearF (g : GridD) (a b : Int) (k : Nat) : CellD := if a ≤ (k : Int) ∧ (k : Int) < b then blankC else cat g.Cells k
def clearD (s : ScrD) (a b : Int) : ScrD := putD s (gmap (shownD s) (clearF (shownD s) a b))
def eraseD (s : ScrD) (a b k : Int) : ScrD :=
 if k = 0 then clearD s (s.Y * s.W + s.X) b else if k = 1 then clearD s a (s.Y * s.W + s.X + 1) else if k = 2 then clearD s a b else s
def regionD (s : ScrD) (l : List Int) : ScrD :=
 if argI l 0 1 - 1 < argI l 1 s.H - 1 ∧ argI l 1 s.H - 1 < s.H then moveD { s with Top := argI l 0 1 - 1, Bot := argI l 1 s.H - 1 } 0 0 else s
def tabsD (s : ScrD) (k : Int) : ScrD := { s with Tabs := s.Tabs.filter fun x => (decide (k = 0) && !decide (x = s.X)) || (!decide (k = 0) && !decide (k = 3)) }
def linesD (s : ScrD) (n : Int) : ScrD := if within s.Y s.Top s.Bot = true then { rollD s s.Y s.Bot n with X := 0, Wrap := false } else s
def modeD (s : ScrD) (n : Int) (on : Bool) : ScrD :=
 if n = 7 then { s with NoWrap := !on, Wrap := s.Wrap && on }
 else if n = 25 then { s with Hide := !on }
 else if (n = 1049 ∧ on = true) ∧ s.OnAlt = false then { saveD s with Alt := gridNew s.W s.H, OnAlt := true }
 else if (n = 1049 ∧ on = false) ∧ s.OnAlt = true then backD { s with OnAlt := false } else s
def csiD (s : ScrD) (l : List Int) (b : Int) : ScrD :=
 if b = 65 then moveD s s.X (s.Y - argI l 0 1)
 else if b = 66 then moveD s s.X (s.Y + argI l 0 1)
 else if b = 67 then moveD s (s.X + argI l 0 1) s.Y
 else if b = 68 then moveD s (s.X - argI l 0 1) s.Y
 else if b = 71 then moveD s (argI l 0 1 - 1) s.Y
 else if b = 100 then moveD s s.X (argI l 0 1 - 1)
 else if b = 72 ∨ b = 102 then moveD s (argI l 1 1 - 1) (argI l 0 1 - 1)
 else if b = 74 then eraseD s 0 (s.W * s.H) (argI l 0 0)
 else if b = 75 then eraseD s (s.Y * s.W) ((s.Y + 1) * s.W) (argI l 0 0)
 else if b = 88 then clearD s (s.Y * s.W + s.X) (min (s.Y * s.W + s.X + argI l 0 1) ((s.Y + 1) * s.W))
 else if b = 64 then putD s (gShift (shownD s) s.X s.Y (argI l 0 1))
 else if b = 80 then putD s (gShift (shownD s) s.X s.Y (-argI l 0 1))
 else if b = 76 then linesD s (-argI l 0 1)
 else if b = 77 then linesD s (argI l 0 1)
 else if b = 83 then rollUpD s (argI l 0 1)
 else if b = 84 then rollD s s.Top s.Bot (-argI l 0 1)
 else if b = 109 then { s with A := sgrRes s.A l }
 else if b = 114 then regionD s l
 else if b = 103 then tabsD s (argI l 0 0)
 else s
def seqD (s : ScrD) (mark : Bool) (l : List Int) (b : Int) : ScrD :=
 if mark = false then csiD s l b else if b = 104 ∨ b = 108 then l.foldl (fun s n => modeD s n (decide (b = 104))) s else s
theorem ScrFine.move {s : ScrD} {x y : Int} (h : ScrFine s) : ScrFine (moveD s x y) := by
 have hp := h.pos
 exact ⟨h.gM, h.gA, h.dim, ⟨clampI_bnd (by omega), clampI_bnd (by omega)⟩, h.sav, fun h9 => Bool.noConfusion h9, h.aA, h.aS, h.reg, h.lim, h.tab, h.row⟩
theorem ScrFine.clear {s : ScrD} {a b : Int} (h : ScrFine s) : ScrFine (clearD s a b) := by
 have hs := h.shown
 refine h.put (gmap_ok hs.1 (fun k hk => ?_)) hs.2
 unfold clearF
 split
 ·exact blank_ok
 ·exact cat_ok hs.1 hk
theorem ScrFine.erase {s : ScrD} {a b k : Int} (h : ScrFine s) : ScrFine (eraseD s a b k) := by
 unfold eraseD
 repeat' split
 all_goals first | exact h.clear | exact h
theorem ScrFine.region {s : ScrD} {l : List Int} (h : ScrFine s) (hl : areArgs l = true) : ScrFine (regionD s l) := by
 have b := gridOk_bnd h.gM
 obtain ⟨d1, d2, _⟩ := h.dim
 unfold regionD
 split
 ·rename_i hr
  have h1 := argI_pos (k := 0) hl (d := 1) (by omega)
  have h' : ScrFine { s with Top := argI l 0 1 - 1, Bot := argI l 1 s.H - 1 } := ⟨h.gM, h.gA, h.dim, h.pos, h.sav, h.wrp, h.aA, h.aS, ⟨by constructor <;> (simp only; omega), hr.2, fun he => by simp only at he; omega⟩, h.lim, h.tab, h.row⟩
  exact h'.move
 ·exact h
theorem ScrFine.wx {s : ScrD} (h : ScrFine s) : ScrFine { s with X := 0, Wrap := false } := by
 have hp := h.pos
 exact ⟨h.gM, h.gA, h.dim, ⟨by constructor <;> (simp only; omega), hp.2⟩, h.sav, fun h9 => Bool.noConfusion h9, h.aA, h.aS, h.reg, h.lim, h.tab, h.row⟩
theorem ScrFine.lines {s : ScrD} {n : Int} (h : ScrFine s) : ScrFine (linesD s n) := by
 unfold linesD
 split
 ·rename_i hw
  rw [within_iff] at hw
  have hr := h.reg
  exact (h.roll (by omega) (by omega)).wx
 ·exact h
theorem asc_pair {l : List Int} {lo hi : Int} : isAsc l lo hi = true ↔ l.Pairwise (· < ·) ∧ ∀ x, x ∈ l → lo ≤ x ∧ x ≤ hi := by
 constructor
 ·intro h
  constructor
  ·rw [List.pairwise_iff_getElem]
   intro i j hi' hj hij
   have := asc_lt h hij hj
   rwa [show iat l i = l[i] from gat_lt hi', show iat l j = l[j] from gat_lt hj] at this
  ·intro x hx
   obtain ⟨i, hi', rfl⟩ := List.mem_iff_getElem.1 hx
   have := (asc_at h hi').1
   rwa [show iat l i = l[i] from gat_lt hi'] at this
 ·rintro ⟨h1, h2⟩
  refine isAsc_all fun i hi' => ?_
  unfold ascAt
  rw [Bool.and_eq_true, within_iff, Bool.or_eq_true, decide_eq_true_eq, decide_eq_true_eq, show iat l i = l[i] from gat_lt hi']
  refine ⟨h2 _ (List.getElem_mem hi'), ?_⟩
  rcases Nat.eq_zero_or_pos i with h3 | h3
  ·exact .inl h3
  ·right
   rw [show iat l (i - 1) = l[i - 1] from gat_lt (by omega)]
   exact List.pairwise_iff_getElem.1 h1 (i - 1) i (by omega) hi' (by omega)
theorem asc_sub {l m : List Int} {lo hi : Int} (h : isAsc l lo hi = true) (hm : m.Sublist l) : isAsc m lo hi = true := by
 rw [asc_pair] at h ⊢
 exact ⟨h.1.sublist hm, fun x hx => h.2 x (hm.subset hx)⟩
theorem ScrFine.tabs {s : ScrD} {l : List Int} (h : ScrFine s) (hl : isAsc l 0 (s.W - 1) = true) : ScrFine { s with Tabs := l } :=
 ⟨h.gM, h.gA, h.dim, h.pos, h.sav, h.wrp, h.aA, h.aS, h.reg, h.lim, hl, h.row⟩
theorem ScrFine.sgr {s : ScrD} {l : List Int} (h : ScrFine s) : ScrFine { s with A := sgrRes s.A l } :=
 ⟨h.gM, h.gA, h.dim, h.pos, h.sav, h.wrp, sgrRes_ok, h.aS, h.reg, h.lim, h.tab, h.row⟩
theorem ScrFine.shift {s : ScrD} {n : Int} (h : ScrFine s) : ScrFine (putD s (gShift (shownD s) s.X s.Y n)) := by
 have hs := h.shown
 have hp := h.pos
 exact h.put (gShift_ok hs.1 hp.1.1 (by rw [hs.2.2]; exact hp.2)) hs.2
theorem fine_ite {p : Prop} [Decidable p] {a b : ScrD} (ha : ScrFine a) (hb : ScrFine b) : ScrFine (if p then a else b) := by
 by_cases h : p
 ·rw [if_pos h]; exact ha
 ·rw [if_neg h]; exact hb
theorem ScrFine.csi {s : ScrD} {l : List Int} {b : Int} (h : ScrFine s) (hl : areArgs l = true) : ScrFine (csiD s l b) := by
 have hr := h.reg
 unfold csiD
 repeat' (with_reducible refine fine_ite ?_ ?_)
 all_goals first | exact h.move | exact h.erase | exact h.clear | exact h.shift | exact h.lines | exact h.rollUp | exact h.roll (by omega) (by omega) | exact h.sgr | exact h.region hl | exact h.tabs (asc_sub h.tab List.filter_sublist) | exact h
theorem isSize_of {g : GridD} (hg : gridOk g = true) : isSize g.W g.H = true := by
 unfold gridOk at hg; rw [Bool.and_eq_true, Bool.and_eq_true] at hg; exact hg.1.1
theorem ScrFine.size {s : ScrD} (h : ScrFine s) : isSize s.W s.H = true := by
 have := isSize_of h.gM
 rwa [h.dim.1, h.dim.2.1] at this
theorem ScrFine.mode {s : ScrD} {n : Int} {on : Bool} (h : ScrFine s) : ScrFine (modeD s n on) := by
 unfold modeD
 split
 ·exact ⟨h.gM, h.gA, h.dim, h.pos, h.sav, fun h9 => h.wrp (by simp only [Bool.and_eq_true] at h9; exact h9.1), h.aA, h.aS, h.reg, h.lim, h.tab, h.row⟩
 ·split
  ·exact ⟨h.gM, h.gA, h.dim, h.pos, h.sav, h.wrp, h.aA, h.aS, h.reg, h.lim, h.tab, h.row⟩
  ·split
   ·exact ⟨h.gM, gridOk_new h.size, ⟨h.dim.1, h.dim.2.1, rfl, rfl⟩, h.pos, h.pos, h.wrp, h.aA, h.aA, h.reg, h.lim, h.tab, h.row⟩
   ·split
    ·exact ⟨h.gM, h.gA, h.dim, h.sav, h.sav, fun h9 => Bool.noConfusion h9, h.aS, h.aS, h.reg, h.lim, h.tab, h.row⟩
    ·exact h
def modesD (s : ScrD) (l : List Int) (on : Bool) : ScrD := l.foldl (fun s n => modeD s n on) s
theorem modesD_take {s : ScrD} {l : List Int} {i : Nat} {on : Bool} (h : i < l.length) : modesD s (l.take (i + 1)) on = modeD (modesD s (l.take i) on) (iat l i) on := by
 unfold modesD
 rw [List.take_add_one, gat_get (F := encI) h, List.foldl_append]
 rfl
theorem ScrFine.modes {l : List Int} {on : Bool} : ∀ {s : ScrD}, ScrFine s → ScrFine (modesD s l on) := by
 induction l with
 | nil => exact fun h => h
 | cons x r ih => exact fun h => ih h.mode
theorem ScrFine.seq {s : ScrD} {mark : Bool} {l : List Int} {b : Int} (h : ScrFine s) (hl : areArgs l = true) : ScrFine (seqD s mark l b) := by
 unfold seqD
 split
 ·exact h.csi hl
 ·split
  ·exact ScrFine.modes h
  ·exact h
theorem pair_ext : ∀ {l m : List Int}, l.Pairwise (· < ·) → m.Pairwise (· < ·) → (∀ x, x ∈ l ↔ x ∈ m) → l = m
 | [], [], _, _, _ => rfl
 | [], y :: m, _, _, h => by have := (h y).2 List.mem_cons_self; cases this
 | x :: l, [], _, _, h => by have := (h x).1 List.mem_cons_self; cases this
 | x :: l, y :: m, hl, hm, h => by
  rw [List.pairwise_cons] at hl hm
  have e : x = y := by
   rcases List.mem_cons.1 ((h x).1 List.mem_cons_self) with e | h1
   ·exact e
   ·rcases List.mem_cons.1 ((h y).2 List.mem_cons_self) with e | h2
    ·exact e.symm
    ·have := hl.1 y h2
     have := hm.1 x h1
     omega
  subst e
  rw [pair_ext hl.2 hm.2 fun z => ?_]
  constructor
  ·intro hz
   rcases List.mem_cons.1 ((h z).1 (List.mem_cons_of_mem _ hz)) with e | h1
   ·have := hl.1 z hz; omega
   ·exact h1
  ·intro hz
   rcases List.mem_cons.1 ((h z).2 (List.mem_cons_of_mem _ hz)) with e | h1
   ·have := hm.1 z hz; omega
   ·exact h1
def lowb (l : List Int) (t : Int) : Nat := (l.filter fun x => decide (x < t)).length
theorem lowb_of {l : List Int} {t : Int} {k : Nat} (hk : k ≤ l.length) (h1 : ∀ m, m < k → iat l m < t) (h2 : ∀ m, k ≤ m → m < l.length → t ≤ iat l m) : lowb l t = k := by
 unfold lowb
 rw [← List.take_append_drop k l, List.filter_append]
 have a : (l.take k).filter (fun x => decide (x < t)) = l.take k := by
  rw [List.filter_eq_self]
  intro x hx
  obtain ⟨i, hi, rfl⟩ := List.mem_iff_getElem.1 hx
  rw [List.length_take] at hi
  have := h1 i (by omega)
  rw [show iat l i = l[i]'(by omega) from gat_lt (by omega)] at this
  rw [List.getElem_take, decide_eq_true_eq]; exact this
 have b : (l.drop k).filter (fun x => decide (x < t)) = [] := by
  rw [List.filter_eq_nil_iff]
  intro x hx
  obtain ⟨i, hi, rfl⟩ := List.mem_iff_getElem.1 hx
  rw [List.length_drop] at hi
  have := h2 (k + i) (by omega) (by omega)
  rw [show iat l (k + i) = l[k + i]'(by omega) from gat_lt (by omega)] at this
  rw [List.getElem_drop, decide_eq_true_eq]; omega
 rw [a, b, List.append_nil, List.length_take]; omega
theorem lowb_le {l : List Int} {t : Int} : lowb l t ≤ l.length := List.length_filter_le _ _
theorem asc_split {l : List Int} {lo hi t : Int} (h : isAsc l lo hi = true) : (∀ m, m < lowb l t → iat l m < t) ∧ ∀ m, lowb l t ≤ m → m < l.length → t ≤ iat l m := by
 have key : ∃ k, k ≤ l.length ∧ (∀ m, m < k → iat l m < t) ∧ ∀ m, k ≤ m → m < l.length → t ≤ iat l m := by
  have : ∀ n, n ≤ l.length → ∃ k, k ≤ n ∧ (∀ m, m < k → iat l m < t) ∧ ∀ m, k ≤ m → m < n → t ≤ iat l m := by
   intro n
   induction n with
   | zero => intro _; exact ⟨0, by omega, fun m hm => by omega, fun m _ hm => by omega⟩
   | succ n ih =>
    intro hn
    obtain ⟨k, h1, h2, h3⟩ := ih (by omega)
    by_cases hx : iat l n < t
    ·refine ⟨n + 1, by omega, fun m hm => ?_, fun m h4 h5 => by omega⟩
     rcases Nat.lt_or_ge m n with h6 | h6
     ·have := asc_lt h h6 (by omega); omega
     ·obtain rfl : m = n := by omega
      exact hx
    ·refine ⟨k, by omega, h2, fun m h4 h5 => ?_⟩
     rcases Nat.lt_or_ge m n with h6 | h6
     ·exact h3 m h4 h6
     ·obtain rfl : m = n := by omega
      omega
  exact this _ (Nat.le_refl _)
 obtain ⟨k, h1, h2, h3⟩ := key
 rw [lowb_of h1 h2 h3]
 exact ⟨h2, h3⟩
def insL (l : List Int) (k : Nat) (x : Int) : List Int := l.take k ++ [x] ++ l.drop k
theorem mem_insL {l : List Int} {k : Nat} {x y : Int} : y ∈ insL l k x ↔ y = x ∨ y ∈ l := by
 unfold insL
 rw [List.append_assoc, List.mem_append, List.mem_append, List.mem_singleton]
 constructor
 ·rintro (h | h | h)
  ·exact .inr (List.mem_of_mem_take h)
  ·exact .inl h
  ·exact .inr (List.mem_of_mem_drop h)
 ·rintro (h | h)
  ·exact .inr (.inl h)
  ·rw [← List.take_append_drop k l] at h
   rcases List.mem_append.1 h with h | h
   ·exact .inl h
   ·exact .inr (.inr h)
theorem pair_insL {l : List Int} {x : Int} {lo hi : Int} (h : isAsc l lo hi = true) (hx : x ∉ l) : (insL l (lowb l x) x).Pairwise (· < ·) := by
 have hp := (asc_pair.1 h).1
 obtain ⟨h1, h2⟩ := asc_split (t := x) h
 have hT : ∀ a, a ∈ l.take (lowb l x) → a < x := by
  intro a ha
  obtain ⟨i, hi', rfl⟩ := List.mem_iff_getElem.1 ha
  rw [List.length_take] at hi'
  have := h1 i (by omega)
  rw [show iat l i = l[i]'(by omega) from gat_lt (by omega)] at this
  rw [List.getElem_take]; exact this
 have hD : ∀ a, a ∈ l.drop (lowb l x) → x < a := by
  intro a ha
  have hm := List.mem_of_mem_drop ha
  obtain ⟨i, hi', rfl⟩ := List.mem_iff_getElem.1 ha
  rw [List.length_drop] at hi'
  have := h2 (lowb l x + i) (by omega) (by omega)
  rw [show iat l (lowb l x + i) = l[lowb l x + i]'(by omega) from gat_lt (by omega)] at this
  rw [List.getElem_drop] at hm ⊢
  have : l[lowb l x + i]'(by omega) ≠ x := fun e => hx (e ▸ hm)
  omega
 unfold insL
 rw [List.append_assoc, List.pairwise_append]
 refine ⟨hp.sublist (List.take_sublist _ _), ?_, ?_⟩
 ·rw [List.singleton_append, List.pairwise_cons]
  exact ⟨hD, hp.sublist (List.drop_sublist _ _)⟩
 ·intro a ha b hb
  have h3 := hT a ha
  rcases List.mem_append.1 hb with hb | hb
  ·rw [List.mem_singleton] at hb; omega
  ·have := hD b hb; omega
theorem mem_tabL {s : ScrD} (h : ScrFine s) {y : Int} : y ∈ tabL s ↔ y = s.X ∨ y ∈ s.Tabs := by
 have hp := h.pos
 unfold tabL
 rw [List.mem_filter, List.mem_map]
 simp only [Bool.or_eq_true, decide_eq_true_eq, List.contains_iff_mem]
 constructor
 ·exact fun h1 => h1.2
 ·intro h1
  refine ⟨?_, h1⟩
  have : 0 ≤ y ∧ y < s.W := by
   rcases h1 with h1 | h1
   ·omega
   ·have := (asc_pair.1 h.tab).2 y h1; omega
  exact ⟨y.toNat, List.mem_range.2 (by omega), by omega⟩
theorem pair_tabL {s : ScrD} : (tabL s).Pairwise (· < ·) := by
 unfold tabL
 refine List.Pairwise.sublist List.filter_sublist ?_
 rw [List.pairwise_map]
 exact List.Pairwise.imp (fun h => by omega) List.pairwise_lt_range
theorem tabL_ins {s : ScrD} (h : ScrFine s) (hx : s.X ∉ s.Tabs) : insL s.Tabs (lowb s.Tabs s.X) s.X = tabL s :=
 pair_ext (pair_insL h.tab hx) pair_tabL fun y => by rw [mem_insL, mem_tabL h]
theorem tabL_has {s : ScrD} (h : ScrFine s) (hx : s.X ∈ s.Tabs) : s.Tabs = tabL s :=
 pair_ext (asc_pair.1 h.tab).1 pair_tabL fun y => by
  rw [mem_tabL h]
  constructor
  ·exact .inr
  ·rintro (rfl | h1)
   ·exact hx
   ·exact h1
theorem ScrFine.tabD {s : ScrD} (h : ScrFine s) : ScrFine (tabD s) := by
 have hp := h.pos
 refine h.tabs (asc_pair.2 ⟨pair_tabL, fun y hy => ?_⟩)
 rcases (mem_tabL h).1 hy with h1 | h1
 ·omega
 ·exact (asc_pair.1 h.tab).2 y h1
theorem tabsL_asc {w : Int} (h : 1 ≤ w) : isAsc (tabsL w) 0 (w - 1) = true := by
 rw [asc_pair]
 constructor
 ·unfold tabsL
  rw [List.pairwise_map]
  exact List.Pairwise.imp (fun h => by omega) List.pairwise_lt_range
 ·intro x hx
  obtain ⟨i, hi, rfl⟩ := List.mem_map.1 hx
  have := List.mem_range.1 hi
  omega
theorem ScrFine.fresh {w h l : Int} (hs : isSize w h = true) (hl : 0 ≤ l ∧ l ≤ 100) : ScrFine (scrNew w h l) := by
 obtain ⟨h1, h2, _⟩ := isSize_bnd hs
 refine ⟨gridOk_new hs, gridOk_new hs, ⟨rfl, rfl, rfl, rfl⟩, ?_, ?_, fun h9 => Bool.noConfusion h9, (show attrOk 0 0 = true by decide), (show attrOk 0 0 = true by decide), ?_, ⟨hl, ?_⟩, tabsL_asc h1.1, rfl⟩
 ·show (0 ≤ (0 : Int) ∧ (0 : Int) < w) ∧ 0 ≤ (0 : Int) ∧ (0 : Int) < h; omega
 ·show (0 ≤ (0 : Int) ∧ (0 : Int) < w) ∧ 0 ≤ (0 : Int) ∧ (0 : Int) < h; omega
 ·show (0 ≤ (0 : Int) ∧ (0 : Int) ≤ h - 1) ∧ h - 1 < h ∧ ((0 : Int) = h - 1 → h = 1); omega
 ·exact hl.1
theorem ScrFine.reset {s : ScrD} (h : ScrFine s) : ScrFine (resetD s) := by
 have f := ScrFine.fresh h.size h.lim.1
 exact ⟨f.gM, f.gA, f.dim, f.pos, f.sav, f.wrp, f.aA, f.aS, f.reg, h.lim, f.tab, h.row⟩
def escD (s : ScrD) (b : Int) : ScrD :=
 if b = 68 then downD s else if b = 77 then upD s else if b = 69 then { downD s with X := 0 } else if b = 55 then saveD s else if b = 56 then backD s else if b = 72 then tabD s else if b = 99 then resetD s else s
theorem ScrFine.x0 {s : ScrD} (h : ScrFine s) (hw : s.Wrap = false) : ScrFine { s with X := 0 } := by
 have hp := h.pos
 exact ⟨h.gM, h.gA, h.dim, ⟨by constructor <;> (simp only; omega), hp.2⟩, h.sav, fun h9 => (by rw [show s.Wrap = true from h9] at hw; cases hw), h.aA, h.aS, h.reg, h.lim, h.tab, h.row⟩
theorem ScrFine.esc {s : ScrD} {b : Int} (h : ScrFine s) : ScrFine (escD s b) := by
 unfold escD
 repeat' (with_reducible refine fine_ite ?_ ?_)
 all_goals first | exact h.down | exact h.up | exact h.down.x0 rfl | exact h.save | exact h.back | exact h.tabD | exact h.reset | exact h
def runeD (s : ScrD) (r : Int) : ScrD :=
 let s1 := if s.Wrap = true then { downD s with X := 0 } else s
 let s2 := putD s1 (gFill (shownD s1) s1.X s1.Y 1 1 ⟨r, s1.A⟩)
 if s1.X = s1.W - 1 then wrapD s2 (!s1.NoWrap) else { s2 with X := s1.X + 1 }
def nextTab (s : ScrD) : Int := if 0 ≤ findI (fun n => decide (s.X < n)) s.Tabs then iat s.Tabs (findI (fun n => decide (s.X < n)) s.Tabs).toNat else s.W - 1
def ctlD (s : ScrD) (b : Int) : ScrD :=
 if b = 8 then moveD s (s.X - 1) s.Y else if b = 9 then moveD s (nextTab s) s.Y else if b = 10 ∨ b = 11 ∨ b = 12 then downD s else if b = 13 then moveD s 0 s.Y else s
def scrRuneRes (s : ScrD) (r : Int) : ScrD := if scrOk s = true then (if shows r = true then runeD s r else s) else scr0
def scrCtlRes (s : ScrD) (b : Int) : ScrD := if scrOk s = true then ctlD s b else scr0
theorem putD_eqs {s : ScrD} {g : GridD} : (putD s g).X = s.X ∧ (putD s g).W = s.W ∧ (putD s g).NoWrap = s.NoWrap ∧ (putD s g).Y = s.Y ∧ (putD s g).OnAlt = s.OnAlt ∧ (putD s g).Wrap = s.Wrap := by
 unfold putD; split <;> exact ⟨rfl, rfl, rfl, rfl, rfl, rfl⟩
theorem ScrFine.rune {s : ScrD} {r : Int} (h : ScrFine s) (hr : shows r = true) : ScrFine (runeD s r) := by
 have h1 : ScrFine (if s.Wrap = true then { downD s with X := 0 } else s) := by
  split
  ·exact h.down.x0 rfl
  ·exact h
 unfold runeD
 generalize (if s.Wrap = true then { downD s with X := 0 } else s) = s1 at h1
 have hp := h1.pos
 have hs := h1.shown
 have h2 : ScrFine (putD s1 (gFill (shownD s1) s1.X s1.Y 1 1 ⟨r, s1.A⟩)) := h1.put (gFill_ok hs.1 (by unfold cellOk; rw [hr, h1.aA]; rfl)) hs.2
 obtain ⟨e1, e2, _, _, _, _⟩ := putD_eqs (s := s1) (g := gFill (shownD s1) s1.X s1.Y 1 1 ⟨r, s1.A⟩)
 show ScrFine (if s1.X = s1.W - 1 then _ else _)
 split
 ·rename_i hx
  exact ⟨h2.gM, h2.gA, h2.dim, h2.pos, h2.sav, fun _ => by show (putD _ _).X = (putD _ _).W - 1; rw [e1, e2]; exact hx, h2.aA, h2.aS, h2.reg, h2.lim, h2.tab, h2.row⟩
 ·rename_i hx
  refine ⟨h2.gM, h2.gA, h2.dim, ⟨?_, h2.pos.2⟩, h2.sav, ?_, h2.aA, h2.aS, h2.reg, h2.lim, h2.tab, h2.row⟩
  ·show 0 ≤ s1.X + 1 ∧ s1.X + 1 < (putD _ _).W
   rw [e2]; omega
  ·intro hw
   have h3 := h2.wrp hw
   rw [e1, e2] at h3
   exact absurd h3 hx
theorem ScrFine.ctl {s : ScrD} {b : Int} (h : ScrFine s) : ScrFine (ctlD s b) := by
 unfold ctlD
 repeat' (with_reducible refine fine_ite ?_ ?_)
 all_goals first | exact h.move | exact h.down | exact h
def scrDownRes (s : ScrD) : ScrD := if scrOk s = true then downD s else scr0
theorem k34_ (v_s : Value) (s : List RowR) (L_s : Hp) (i : Int) (j : Int) (w : World) (o_s : OwnN encRowR ownRowR 56 v_s s L_s) (h_s : Hh w L_s) (hd_ : ((L_s).map (·.1)).Nodup) (hi : i = 0) (hj : 0 < j ∧ j ≤ s.length) (hn : s.length ≤ 549755813888) :
    Calls Try.prog 94 #[v_s, i64 i, i64 j] w fun e w' => ∃ A c n xs L1, e = .returned (.slice A n c) ∧ St w (L_s.map (·.1)) L1 w' ∧ OwnN encRowR ownRowR 56 (.slice A n c) xs L1 ∧ xs = s.drop j.toNat := by
 obtain ⟨A_s, c_s, rfl⟩ := o_s.shape
 refine enter 33 Try.func94 rfl Try.ntmps94 rfl rfl ?_
 have hs1 := St.takes1 w L_s h_s hd_
 refine WC.r1 hs1 [] rfl (WC.sr (WL.r 5 hs1 [] rfl ?_))
 have hc_ := OwnN.cap o_s
 refine WL.val rfl rfl rfl (Run.slice3 0 j.toNat s.length Try.runUnderlying29 Try.sizeOf56 rfl rfl rfl rfl rfl ?_ ?_ ?_ ?_) ?_
 · omega
 · omega
 · rfl
 · omega
 refine WL.nil (WC.seq (fun K2 hK2 => WC.r1 hs1 [] rfl ?_))
 refine WC.cq rfl (fun h3 qh3 => ?_) (fun h3 qh3 => ?_)
 ·exfalso; omega
 refine WC.skip (hK2 _ _ (WC.sr ?_))
 obtain ⟨L4, L5, hs8, ho6, ho7⟩ := OwnN.open_ hs1 o_s
 refine WL.r 3 hs8 [] rfl (WL.nil (WC.seq (fun K9 hK9 => WC.rH (hs8.rm L4) hs8 (fun _ hs10 => ?_))))
 refine WH.rn [0, 1] (hs10.rm L4) [] rfl rfl ?_
 refine WH.take 2 rfl (by kernel_rfl) rfl rfl rfl (hs10.rm L4) (fun w_ hs_ => (Run.sliceH0 0 Try.runUnderlying29 Try.sizeOf56 rfl rfl rfl ?_ ?_)) ?_
 · exact hi
 · exact Nat.zero_le _
 refine WH.rn [3, 4] (hs10.rm L4) [] rfl rfl ?_
 have hc_ := OwnF.cap ho6
 refine WH.take 5 rfl (by kernel_rfl) rfl rfl rfl (hs10.rm L4) (fun w_ hs_ => (Run.sliceL (j.toNat) Try.runUnderlying29 Try.sizeOf56 rfl rfl rfl ?_ ?_)) ?_
 · first | rfl | (omega)
 · refine ⟨?_, ?_, ?_⟩ <;> (omega)
 refine WH.o1 6 rfl ?_
 refine WL.appendR hs10 (OwnF.take (k := 0) ho6 (Nat.zero_le _)) (SlF.src (SlF.cutL (j.toNat) (SlF.ofOwn ho6 (hs10.ow L4)) (by refine ⟨?_, ?_, ?_⟩ <;> (omega))) Try.underlying29) Try.underlying29 inf56 rfl rfl rfl rfl rfl rfl rfl ?_ ?_ (fun L11 whs12 hs12 ho13 => ?_)
 · rw [List.length_drop]; omega
 · omega
 have hdl : 0 + (s.drop j.toNat).length = s.length - j.toNat := by rw [List.length_drop]; omega
 rw [hdl, List.take_zero, List.nil_append] at ho13
 rw [hdl]
 refine WL.nil ⟨(hs12.rm L11), WH.rn [7] (hs12.rm L11) [] rfl rfl (WH.dn (hK9 _ _ (WC.sr (WL.r 4 hs12 [] rfl ?_))))⟩
 refine WL.val rfl rfl rfl (Run.sliceT (s.length - j.toNat) s.length Try.runUnderlying29 Try.sizeOf56 rfl rfl rfl rfl ?_ ?_ ?_) ?_
 · omega
 · omega
 · omega
 refine WL.clearT hs12 ho13 Try.underlying29 Try.zeroValue56 rfl rfl rfl rfl rfl ?_ (fun L14 whs15 hs15 ho16 => ?_)
 · omega
 refine WL.nil (WC.r1 hs15 [] rfl (WC.ret (retV1 rfl (resV.tmp rfl) ?_)))
 obtain ⟨L17, hs18, ho19⟩ := OwnN.foldD ((hs15.fr L5).fr L14) ho16 ho7
 exact ⟨_, _, _, _, _, rfl, St.keep1 hs18, ho19, rfl⟩
theorem part_next {g : GridD} {f : Nat → CellD} {lo a j k : Nat} {xs : List CellD} {v : CellD} (hj : j = lo + a) (hl : j < xs.length) (hv : v = f (lo + a)) (hq : cat xs k = partF g f lo a k) : cat (xs.set j v) k = partF g f lo (a + 1) k := by
 subst hj
 rw [partF_one]
 show gat encCell (xs.set (lo + a) v) k = _
 rw [gat_set2 hl]
 split
 ·rename_i hk; subst hk; exact hv
 ·exact hq
theorem part_done {g : GridD} {f : Nat → CellD} {lo a : Nat} {w h : Int} {xs : List CellD} (hw : w = g.W) (hh : h = g.H) (hl : xs.length = g.Cells.length) (ho : ∀ k, k < g.Cells.length → ¬ (lo ≤ k ∧ k < lo + a) → f k = cat g.Cells k)
  (hp : ∀ k, k < g.Cells.length → cat xs k = partF g f lo a k) : (⟨w, h, xs⟩ : GridD) = gmap g f := by
 subst hw hh
 unfold gmap
 congr 1
 refine ext_gat (F := encCell) hl fun k hk => ?_
 have h1 := hp k hk
 unfold partF at h1
 by_cases h2 : lo ≤ k ∧ k < lo + a
 ·rw [if_pos h2] at h1; exact h1
 ·rw [if_neg h2] at h1; rw [ho k hk h2]; exact h1
theorem dm_eq {w k : Nat} : k = k / w * w + k % w := by
 have := Nat.div_add_mod k w
 rw [Nat.mul_comm] at this
 exact this.symm
theorem shiftF_at {g : GridD} {x y n : Int} {a : Nat} (h0 : 0 ≤ x) (h1 : 0 ≤ y) (h2 : x + a < g.W) : shiftF g x y n (y.toNat * g.W.toNat + x.toNat + a) = if x ≤ x + a - n ∧ x + a - n < g.W then cat g.Cells (y.toNat * g.W.toNat + (x + a - n).toNat) else blankC := by
 obtain ⟨e1, e2⟩ := at_div (w := g.W.toNat) (y := y.toNat) (x := x.toNat + a) (by omega)
 unfold shiftF
 rw [Nat.add_assoc, e1, e2, if_pos ⟨by omega, by omega⟩, show ((x.toNat + a : Nat) : Int) = x + a by omega]
theorem shiftF_out {g : GridD} {x y n : Int} {k : Nat} (hw : 0 < g.W.toNat) (h0 : 0 ≤ x) (h1 : 0 ≤ y) (hx : x < g.W) (h : ¬ (y.toNat * g.W.toNat + x.toNat ≤ k ∧ k < y.toNat * g.W.toNat + x.toNat + (g.W - x).toNat)) : shiftF g x y n k = cat g.Cells k := by
 unfold shiftF
 rw [if_neg]
 rintro ⟨h2, h3⟩
 apply h
 have h4 := dm_eq (w := g.W.toNat) (k := k)
 have h5 := Nat.mod_lt k hw
 have h6 : k / g.W.toNat = y.toNat := by omega
 rw [h6] at h4
 omega
theorem shift_big {g : GridD} {x y n m : Int} (h0 : 0 ≤ x) (hn : n = m ∨ (g.W ≤ n ∧ g.W ≤ m ∨ n ≤ -g.W ∧ m ≤ -g.W)) : gShift g x y n = gShift g x y m := by
 rcases hn with rfl | hn
 ·rfl
 ·unfold gShift
  congr 1
  funext k
  unfold shiftF
  split
  ·rename_i h
   have h5 : ((k % g.W.toNat : Nat) : Int) < g.W ∨ g.W ≤ 0 := by
    rcases Nat.eq_zero_or_pos g.W.toNat with h6 | h6
    ·omega
    ·have := Nat.mod_lt k h6; omega
   rw [if_neg (by omega), if_neg (by omega)]
  ·rfl
theorem shift_done {g : GridD} {x y n m w h : Int} {a : Nat} {xs : List CellD} (h0 : 0 ≤ x ∧ x < g.W) (h1 : 0 ≤ y) (ha : (a : Int) = g.W - x) (hw : w = g.W) (hh : h = g.H) (hl : xs.length = g.Cells.length) (hm : n = m ∨ (g.W ≤ n ∧ g.W ≤ m ∨ n ≤ -g.W ∧ m ≤ -g.W))
  (hp : ∀ k, k < g.Cells.length → cat xs k = partF g (shiftF g x y m) (y.toNat * g.W.toNat + x.toNat) a k) : (⟨w, h, xs⟩ : GridD) = gShift g x y n := by
 rw [shift_big h0.1 hm]
 exact part_done hw hh hl (fun k _ hk => shiftF_out (by omega) h0.1 h1 h0.2 (by rw [show (g.W - x).toNat = a by omega]; exact hk)) hp
theorem clearF_out {g : GridD} {a b : Int} {k : Nat} (h : ¬ (a ≤ (k : Int) ∧ (k : Int) < b)) : clearF g a b k = cat g.Cells k := by unfold clearF; rw [if_neg h]
theorem clearF_in {g : GridD} {a b : Int} {k : Nat} (h : a ≤ (k : Int) ∧ (k : Int) < b) : clearF g a b k = blankC := by unfold clearF; rw [if_pos h]
theorem countP_lowb {l : List Int} {t : Int} : l.countP (fun x => decide (x < t)) = lowb l t := List.countP_eq_length_filter
theorem asc_le {l : List Int} {lo hi : Int} (h : isAsc l lo hi = true) : l.Pairwise (· ≤ ·) := (asc_pair.1 h).1.imp (fun h => Int.le_of_lt h)
def isMove (b : Int) : Bool := decide (b = 65 ∨ b = 66 ∨ b = 67 ∨ b = 68 ∨ b = 71 ∨ b = 100 ∨ b = 72 ∨ b = 102)
def moveByD (s : ScrD) (n m b : Int) : ScrD :=
 if b = 65 then moveD s s.X (s.Y - n) else if b = 66 then moveD s s.X (s.Y + n) else if b = 67 then moveD s (s.X + n) s.Y else if b = 68 then moveD s (s.X - n) s.Y
 else if b = 71 then moveD s (n - 1) s.Y else if b = 100 then moveD s s.X (n - 1) else if b = 72 ∨ b = 102 then moveD s (m - 1) (n - 1) else s
theorem csiD_move {s : ScrD} {l : List Int} {b : Int} (h : isMove b = true) : csiD s l b = moveByD s (argI l 0 1) (argI l 1 1) b := by
 unfold isMove at h
 rw [decide_eq_true_eq] at h
 rcases h with rfl | rfl | rfl | rfl | rfl | rfl | rfl | rfl <;> rfl
theorem findI_bnd {p : Int → Bool} {s : List Int} (h : ¬ findI p s = -1) : 0 ≤ findI p s ∧ findI p s < s.length := by
 rcases findI_cases (p := p) (xs := s) with ⟨h1, _⟩ | ⟨i, hi, h1, _⟩
 ·exact absurd h1 h
 ·rw [h1]; omega
structure DelTo (p : Int → Bool) (s : List Int) (j m : Nat) (zs : List Int) : Prop where
 len : zs.length = s.length
 pre : zs.take m = (s.take j).filter (fun x => !p x)
 rest : ∀ k, j ≤ k → k < s.length → iat zs k = iat s k
theorem delTo_start {p : Int → Bool} {s : List Int} (h : ¬ findI p s = -1) : DelTo p s ((findI p s).toNat + 1) (findI p s).toNat s := by
 rcases findI_cases (p := p) (xs := s) with ⟨h1, _⟩ | ⟨i, hi, h1, h2, h3⟩
 ·exact absurd h1 h
 ·rw [h1, Int.toNat_natCast]
  refine ⟨rfl, ?_, fun _ _ _ => rfl⟩
  rw [List.take_add_one, List.getElem?_eq_getElem hi, List.filter_append]
  have e1 : (s.take i).filter (fun x => !p x) = s.take i := by
   rw [List.filter_eq_self]
   intro x hx
   obtain ⟨k, hk, rfl⟩ := List.mem_iff_getElem.1 hx
   rw [List.length_take] at hk
   rw [List.getElem_take, h3 k (by omega)]; rfl
  rw [e1]
  show _ = s.take i ++ List.filter _ [s[i]]
  rw [List.filter_cons, if_neg (by rw [h2]; decide)]
  exact (List.append_nil _).symm
theorem DelTo.keep {p : Int → Bool} {s zs : List Int} {j m : Nat} (h : DelTo p s j m zs) (hj : j < s.length) (hm : m < j) (hp : p (iat zs j) = false) : DelTo p s (j + 1) (m + 1) (zs.set m (iat zs j)) := by
 have hl := h.len
 refine ⟨by rw [List.length_set]; exact hl, ?_, fun k h1 h2 => ?_⟩
 ·rw [List.take_add_one, List.take_set_of_le (Nat.le_refl _), List.getElem?_set_self (by omega), h.pre, List.take_add_one (l := s), gat_get (F := encI) hj, List.filter_append]
  congr 1
  show _ = List.filter _ [iat s j]
  rw [← h.rest j (Nat.le_refl _) hj, List.filter_cons, if_pos (by rw [hp]; decide)]
  rfl
 ·show gat encI (zs.set m _) k = _
  rw [gat_set2 (by omega), if_neg (by omega)]
  exact h.rest k (by omega) h2
theorem DelTo.skip {p : Int → Bool} {s zs : List Int} {j m : Nat} (h : DelTo p s j m zs) (hj : j < s.length) (hp : p (iat zs j) = true) : DelTo p s (j + 1) m zs := by
 refine ⟨h.len, ?_, fun k h1 h2 => h.rest k (by omega) h2⟩
 rw [h.pre, List.take_add_one (l := s), gat_get (F := encI) hj, List.filter_append]
 show _ = _ ++ List.filter _ [iat s j]
 rw [← h.rest j (Nat.le_refl _) hj, List.filter_cons, if_neg (by rw [hp]; decide)]
 exact (List.append_nil _).symm
theorem DelTo.all {p : Int → Bool} {s zs : List Int} {j m : Nat} (h : DelTo p s j m zs) (hj : s.length ≤ j) : zs.take m = s.filter (fun x => !p x) := by
 rw [h.pre, List.take_of_length_le hj]
theorem del_none {p : Int → Bool} {s : List Int} (h : findI p s = -1) : s.filter (fun x => !p x) = s := by
 rcases findI_cases (p := p) (xs := s) with ⟨_, h1⟩ | ⟨i, hi, h1, _⟩
 ·rw [List.filter_eq_self]; intro x hx; rw [h1 x hx]; rfl
 ·rw [h1] at h; omega
theorem tabsD_0 {s : ScrD} : tabsD s 0 = { s with Tabs := s.Tabs.filter fun x => !decide (x = s.X) } := by
 unfold tabsD
 congr 1
 exact List.filter_congr (fun x _ => by simp)
theorem tabsD_3 {s : ScrD} : tabsD s 3 = { s with Tabs := [] } := by
 unfold tabsD
 congr 1
 rw [List.filter_eq_nil_iff]
 intro x _; simp
theorem tabsD_o {s : ScrD} {k : Int} (h0 : ¬ k = 0) (h3 : ¬ k = 3) : tabsD s k = s := by
 unfold tabsD
 rw [show s.Tabs.filter _ = s.Tabs from List.filter_eq_self.2 (fun x _ => by simp [h0, h3])]
theorem moveByD_no {s : ScrD} {n m b : Int} (h : isMove b = false) : moveByD s n m b = s := by
 unfold isMove at h
 rw [decide_eq_false_iff_not] at h
 unfold moveByD
 rw [if_neg (by omega), if_neg (by omega), if_neg (by omega), if_neg (by omega), if_neg (by omega), if_neg (by omega), if_neg (by omega)]
theorem isMove_no {b : Int} (h : isMove b = false) : ¬ b = 65 ∧ ¬ b = 66 ∧ ¬ b = 67 ∧ ¬ b = 68 ∧ ¬ b = 71 ∧ ¬ b = 100 ∧ ¬ (b = 72 ∨ b = 102) := by
 unfold isMove at h
 rw [decide_eq_false_iff_not] at h
 omega
theorem fine_smB {s : ScrD} {B : Nat} (h : ScrFine s) (hB : 20220 ≤ B) : smScr B s := totScr_sm (Nat.le_trans (scr_tot h.ok) hB)
theorem k35_ (g : GridR) (top : Int) (bot : Int) (n : Int) (w : World) (f_g : okGridR 549755813888 w g) (hg : gridOk g.dat = true) (ht : 0 ≤ top ∧ top ≤ bot ∧ bot < g.H) (hn : -100000 ≤ n ∧ n ≤ 100000) :
    Calls Try.prog 128 #[.agg #[i64 g.W, i64 g.H, .slice g.Cells.A g.Cells.n g.Cells.c], i64 top, i64 bot, i64 n] w fun e w' => ∃ r L1, e = .returned (.agg #[i64 r.W, i64 r.H, .slice r.Cells.A r.Cells.n r.Cells.c]) ∧ St w [] L1 w' ∧ ownGridR r L1 ∧ r.dat = gRoll g.dat top bot n := by
 have nb_g_Cells := f_g.Cells_n
 have nl_g_Cells := f_g.Cells.len
 have hgb : (1 ≤ g.W ∧ g.W ≤ 120) ∧ (1 ≤ g.H ∧ g.H ≤ 120) ∧ 1 ≤ g.W * g.H ∧ g.W * g.H ≤ 4000 := gridOk_bnd hg
 have hgl : (g.Cells.xs.length : Int) = g.W * g.H := grid_len hg
 have hsmg : smGrid 1048576 g.dat := by show g.Cells.xs.length ≤ 1048576; omega
 refine enter 48 Try.func128 rfl Try.ntmps128 rfl rfl ?_
 have hs1 := St.init w
 refine WC.sr (WL.bx hs1 rfl (fun b2 _ hs3 => WL.al hs3 Try.zeroValue25 rfl rfl (fun b4 _ hs5 => WL.nil (WC.sr (WL.r 1 hs5 [1] rfl ?_)))))
 refine WL.cl Try.call36 rfl (k31_ g _ (okGridR.st0 f_g hs5) ?_) ?_
 · first | assumption | rfl | omega
 rintro _ whs6 ⟨r7, L1_8, rfl, hs6, ho9, hd10⟩
 replace hs6 := hs5.callF hs6
 refine ⟨_, rfl, ?_⟩
 replace hs6 := St.back [_, _] hs6
 skip
 refine WL.al hs6 Try.zeroValue25 rfl rfl (fun b11 _ hs12 => WL.st tbk hs12 0 rfl rfl (fun _ hs13 => WL.nil (WC.seq (fun K14 hK14 => WC.r1 hs13 [] rfl (WC.block ?_)))))
 have hM19 := (St.grp1 (L1 := L1_8) [_] ((((hs13.fb b2).fb b4).fr L1_8).fb b11))
 refine WC.lV [1, 2, 3, 4, 8, 9] rfl hM19 (fun k_ (a_ : Hp) f => ∃ (a : Nat) (r : GridR) (L17 : Hp), k_ = (bot - top + 1).toNat - a ∧ a_ = [(b11, .cells (List.toArray [i64 r.W, i64 r.H, .slice r.Cells.A r.Cells.n r.Cells.c]) 25 (0, 0))] ++ L17 ∧ (top + (a : Int) ≤ bot + 1) ∧ (r.W = g.W ∧ r.H = g.H ∧ r.Cells.xs.length = g.Cells.xs.length) ∧ (∀ k, k < g.Cells.xs.length → cat r.Cells.xs k = partF g.dat (rollF g.dat top bot n) (top.toNat * g.W.toNat) (a * g.W.toNat) k) ∧ ownGridR r L17 ∧ Sub [(10, .int .i64 (top + a))] f) (((fun (a : Nat) => (bot - top + 1).toNat - a) (0))) ?_ ?_
 ·refine ⟨0, r7, L1_8, rfl, rfl, ?_, ?_, ?_, ho9, ⟨?_, trivial⟩⟩
  · omega
  · exact ⟨congrArg GridD.W hd10, congrArg GridD.H hd10, congrArg (fun d : GridD => d.Cells.length) hd10⟩
  · intro k hk; rw [Nat.zero_mul, partF_zero]; exact congrArg (fun d : GridD => cat d.Cells k) hd10
  · (refine congrArg some (congrArg (Value.int _) ?_); omega)
 rintro _ _ f w ⟨a, r, L17, rfl, rfl, p0, p1, p2, ho18, hG⟩ hF hs20
 refine WC.sub _ (hG.app hF) ?_
 clear hG hF
 replace hs20 := St.ungrp1 [_] hs20
 have hs21 := (((hs20.fb b2).fb b4).fb b11)
 have hsmr : smGrid 549755813888 r.dat := by show r.Cells.xs.length ≤ 549755813888; omega
 refine WC.seq (fun K22 hK22 => WC.r1 hs21 [] rfl ?_)
 refine WC.cq rfl (fun h23 qh23 => ?_) (fun h23 qh23 => ?_)
 ·have hab : top + (a : Int) ≤ bot := by omega
  have hv0 : 0 ≤ (top + (a : Int)) * g.W := Int.mul_nonneg (by omega) (by omega)
  have hv1 : (top + (a : Int) + 1) * g.W = (top + (a : Int)) * g.W + g.W := by rw [Int.add_mul, Int.one_mul]
  have hv2 : (top + (a : Int) + 1) * g.W ≤ g.H * g.W := Int.mul_le_mul_of_nonneg_right (by omega) (by omega)
  rw [Int.mul_comm g.H g.W] at hv2
  have hrw : r.W = g.W := p1.1
  have hz0 : (top + (a : Int)) * r.W = (top + (a : Int)) * g.W := by rw [hrw]
  have hz1 : (top + (a : Int) + 1) * r.W = (top + (a : Int) + 1) * g.W := by rw [hrw]
  have hnr := ownGridR.len ‹ownGridR r _›
  have hcr := OwnF.cap ‹ownGridR r _›
  have hlr := f_g.Cells.len
  have hcg := f_g.Cells_c
  have hlo0 : ((top + (a : Int)) * r.W).toNat = (top.toNat + a) * g.W.toNat := by rw [hrw, Int.toNat_mul (by omega) (by omega)]; congr 1; omega
  have hmm1 : ((top + (a : Int) + 1) * r.W).toNat - ((top + (a : Int)) * r.W).toNat = g.W.toNat := by rw [hz0, hz1]; omega
  refine WC.skip (hK22 _ _ (WC.seq (fun K24 hK24 => WC.block (WC.r1 hs21 [] rfl (WC.sr (WL.r 1 hs21 [] rfl (WL.cl Try.call33 rfl (k0_ _ _ _ _) ?_)))))))
  rintro _ whs25 ⟨rfl, hs25⟩
  replace hs25 := hs21.call0 hs25
  refine ⟨_, rfl, WL.r 1 hs25 [] rfl ?_⟩
  apply WL.gA 4 Acts.nil hs25 rfl
  ·intro g26 J27
   have qg26 := g26
   try simp only [bf, within_iff, within_not] at qg26
   refine WL.runA tbk 3 (Acts.nil.cons (j := 2) rfl g26) hs25 [] rfl trivial (WL.call (wantT rfl g26) rfl rfl (Run.call Try.call33 rfl rfl rfl) (k0_ _ _ _ _) ?_)
   rintro _ whs28 ⟨rfl, hs28⟩
   replace hs28 := hs25.call0 hs28
   refine ⟨_, rfl, WL.eA 4 Acts.nil J27 hs28 g26 rfl rfl⟩
  intro _ hs29
  refine WL.nil (WC.cq rfl (fun h30 qh30 => ?_) (fun h30 qh30 => ?_))
  ·have hin : top ≤ top + (a : Int) + n ∧ top + (a : Int) + n ≤ bot := by have h9 := h30; simp only [Bool.and_eq_true, within_iff] at h9; omega
   have hu0 : 0 ≤ (top + (a : Int) + n) * g.W := Int.mul_nonneg (by omega) (by omega)
   have hu1 : (top + (a : Int) + n + 1) * g.W = (top + (a : Int) + n) * g.W + g.W := by rw [Int.add_mul, Int.one_mul]
   have hu2 : (top + (a : Int) + n + 1) * g.W ≤ g.H * g.W := Int.mul_le_mul_of_nonneg_right (by omega) (by omega)
   rw [Int.mul_comm g.H g.W] at hu2
   have hsrc : ((top + (a : Int) + n + 1) * g.W).toNat - ((top + (a : Int) + n) * g.W).toNat = g.W.toNat := by omega
   refine WC.rH (hs29.rm L17) hs29 (fun _ hs31 => ?_)
   refine WH.rn [0, 1, 3, 4] (hs31.rm L17) [0, 2] rfl rfl (WH.o1 2 rfl (WL.cl Try.call79 rfl (k33_ r _ _ (ownGridR.ok (B := 549755813888) ho18 (hs31.ow L17) hsmr) ?_ ?_ ?_ ?_) ?_))
   iterate 4 first | assumption | rfl | omega
   rintro _ whs32 ⟨rfl, hs32⟩
   replace hs32 := hs31.call0 hs32
   refine ⟨_, rfl, WL.nil ⟨(hs32.rm L17), WH.o1 5 rfl (WL.cl Try.call79 rfl (k33_ g _ _ (okGridR.st0 f_g hs32) ?_ ?_ ?_ ?_) ?_)⟩⟩
   iterate 4 first | assumption | rfl | omega
   rintro _ whs33 ⟨rfl, hs33⟩
   replace hs33 := hs32.call0 hs33
   refine ⟨_, rfl, WL.nil ⟨(hs33.rm L17), WH.o1 6 rfl ?_⟩⟩
   refine WL.copyF (lo := ((top + (a : Int)) * r.W).toNat) (hs33.fr L17) ho18 (SlF.cutC (lo := (((top + (a : Int)) + n) * g.W).toNat) (hi := ((((top + (a : Int)) + n) + 1) * g.W).toNat) (SlF.st0 f_g.Cells hs33) (by refine ⟨?_, ?_, ?_⟩ <;> (omega))) Try.underlying23 Try.underlying23 inf58 rfl rfl rfl rfl rfl rfl rfl (.inl rfl) ?_ ?_ (fun L34 _ hs35 ho36 => ?_)
   · omega
   · omega
   replace hs35 := St.back [_, _, _] hs35
   refine WL.nil ⟨(hs35.rm L34), WH.dn (hK24 _ _ (WC.region (WL.r 3 hs35 [] rfl (WL.nil (tkN ?_)))))⟩
   have hF37 := (St.grp1 (L1 := L34) [_] ((((hs35.fb b2).fb b4).fr L34).fb b11))
   refine ⟨sbF rfl, _, hF37, _, ?_, a + 1, ⟨r.W, r.H, SlD.of ho36⟩, L34, rfl, rfl, ?_, ?_, ?_, ho36, ⟨?_, trivial⟩⟩
   · omega
   · omega
   · exact ⟨p1.1, p1.2.1, by simp only [List.length_append, List.length_take, List.length_drop]; omega⟩
   · intro k hk; show cat _ k = partF g.dat (rollF g.dat top bot n) (top.toNat * g.dat.W.toNat) ((a + 1) * g.dat.W.toNat) k; first | exact roll_row ht.1 hlo0 (by show _ = g.W.toNat; (try simp only [List.length_replicate]); omega) (by first | (simp only [List.length_take, List.length_drop]; omega) | (simp only [List.length_replicate]; omega)) (by (try simp only [List.length_replicate]); omega) (by omega) hab (fun j hj => by have _ := hin; rw [if_pos hin]; exact roll_src (by omega) (by show 0 ≤ g.W; omega) rfl hsrc hj) (p2 k hk) | exact roll_row ht.1 hlo0 (by show _ = g.W.toNat; (try simp only [List.length_replicate]); omega) (by first | (simp only [List.length_take, List.length_drop]; omega) | (simp only [List.length_replicate]; omega)) (by (try simp only [List.length_replicate]); omega) (by omega) hab (fun j hj => by rw [if_neg hout]; exact cat_rep hj) (p2 k hk)
   · (refine congrArg some (congrArg (Value.int _) ?_); omega)
  have hout : ¬ (top ≤ top + (a : Int) + n ∧ top + (a : Int) + n ≤ bot) := by intro h8; have h9 := h30; simp [within] at h9; omega
  refine WC.rH (hs29.rm L17) hs29 (fun _ hs38 => ?_)
  refine WH.rn [0, 1, 5, 6] (hs38.rm L17) [0, 2] rfl rfl (WH.o1 2 rfl (WL.cl Try.call79 rfl (k33_ r _ _ (ownGridR.ok (B := 549755813888) ho18 (hs38.ow L17) hsmr) ?_ ?_ ?_ ?_) ?_))
  iterate 4 first | assumption | rfl | omega
  rintro _ whs39 ⟨rfl, hs39⟩
  replace hs39 := hs38.call0 hs39
  refine ⟨_, rfl, WL.nil ⟨(hs39.rm L17), WH.o1 3 rfl (WL.cl Try.call96 rfl (k15_ _) ?_)⟩⟩
  rintro _ whs40 ⟨rfl, hs40⟩
  replace hs40 := hs39.call0 hs40
  refine ⟨_, rfl, WL.nil ⟨(hs40.rm L17), WH.o1 4 rfl (WL.buildF (F := encCell) hs40 ([blankC]) Try.runUnderlying23 Try.sizeOf58 Try.zeroValue58 rfl rfl rfl rfl rfl rfl rfl rfl rfl rfl rfl rfl (fun A44 c45 L41 whs42 hs42 ho43 => ?_))⟩⟩
  replace hs42 := St.back [_, _, _] hs42
  refine WL.nil ⟨((hs42.rm L41).rm L17), WH.o1 7 rfl (WL.cl Try.call95 rfl (k18_ _ _ _ _ _ _ (SlF.ofOwn ho43 (hs42.ow L41)) ?_ ?_) ?_)⟩
  iterate 2 first | assumption | rfl | omega
  rintro _ whs46 ⟨A47, c48, L1_49, rfl, hs46, ho50⟩
  replace hs46 := hs42.callF hs46
  refine ⟨_, rfl, ?_⟩
  replace hs46 := St.back [_, _, _] hs46
  refine WL.nil ⟨(((hs46.rm L1_49).rm L41).rm L17), WH.o1 8 rfl (WL.copyF (lo := ((top + (a : Int)) * r.W).toNat) (hs46.fr L17) ho18 (SlF.ofOwn ho50 (hs46.ow L1_49)) Try.underlying23 Try.underlying23 inf58 rfl rfl rfl rfl rfl rfl rfl (.inl rfl) ?_ ?_ (fun L51 _ hs52 ho53 => ?_))⟩
  · omega
  · omega
  replace hs52 := St.back [_, _, _] hs52
  refine WL.nil ⟨(((hs52.rm L51).rm L1_49).rm L41), WH.dn (hK24 _ _ (WC.region (WL.r 3 hs52 [] rfl (WL.nil (tkN ?_)))))⟩
  replace hs52 := ((hs52.rm L1_49).rm L41)
  have hF54 := (St.grp1 (L1 := L51) [_] ((((hs52.fb b2).fb b4).fr L51).fb b11))
  refine ⟨sbF rfl, _, hF54, _, ?_, a + 1, ⟨r.W, r.H, SlD.of ho53⟩, L51, rfl, rfl, ?_, ?_, ?_, ho53, ⟨?_, trivial⟩⟩
  · omega
  · omega
  · exact ⟨p1.1, p1.2.1, by simp only [List.length_append, List.length_take, List.length_drop]; omega⟩
  · intro k hk; show cat _ k = partF g.dat (rollF g.dat top bot n) (top.toNat * g.dat.W.toNat) ((a + 1) * g.dat.W.toNat) k; first | exact roll_row ht.1 hlo0 (by show _ = g.W.toNat; (try simp only [List.length_replicate]); omega) (by first | (simp only [List.length_take, List.length_drop]; omega) | (simp only [List.length_replicate]; omega)) (by (try simp only [List.length_replicate]); omega) (by omega) hab (fun j hj => by have _ := hin; rw [if_pos hin]; exact roll_src (by omega) (by show 0 ≤ g.W; omega) rfl hsrc hj) (p2 k hk) | exact roll_row ht.1 hlo0 (by show _ = g.W.toNat; (try simp only [List.length_replicate]); omega) (by first | (simp only [List.length_take, List.length_drop]; omega) | (simp only [List.length_replicate]; omega)) (by (try simp only [List.length_replicate]); omega) (by omega) hab (fun j hj => by rw [if_neg hout]; exact cat_rep hj) (p2 k hk)
  · (refine congrArg some (congrArg (Value.int _) ?_); omega)
 refine WC.exit (hK14 _ _ (WC.sr (WL.r 1 hs21 [0] rfl (WL.st tbk hs21 1 rfl rfl (fun _ hs55 => WL.nil (WC.ret (retV1 rfl (resV.cellA tbk hs55 1 rfl rfl rfl rfl) ?_)))))))
 refine ⟨r, _, rfl, (St.keep1 (hs55.fr L17)), ?_, ?_⟩
 · exact ho18
 · exact roll_done hg ht.1 ht.2.1 ht.2.2 (m := n) (by omega) p1.1 p1.2.1 p1.2.2 (.inl rfl) p2
open Go Go.RowKit Go.Shelf
theorem frozen_of_heap {w : World} {b k : Nat} {cl : List Value} {e : TypeId} {lo hi : Nat} (h : w.heap[b]? = some (.cells cl.toArray e (lo, hi))) (hf : hi ≤ lo ∨ hi ≤ k ∨ k < lo) : w.frozen? ⟨b, k, none⟩ = false := by
 simp only [World.frozen?, h, Bool.and_eq_false_iff, decide_eq_false_iff_not]
 omega
theorem some_of_heap {w : World} {b k : Nat} {cl : List Value} {e : TypeId} {fz : Nat × Nat} (h : w.heap[b]? = some (.cells cl.toArray e fz)) (hk : k < cl.length) : (w.cell? ⟨b, k, none⟩).isSome = true := by
 rw [cell_of_heap (v := cl[k]) h (by simp [hk])]; rfl
theorem St.setCells (P : Program) {w0 w : World} {T : List Nat} {L : Hp} (hst : St w0 T L w) (i : Nat) {b off : Nat} {cl vs : List Value} {e : TypeId} {lo hi : Nat} (hi' : nthL L i = some (b, .cells cl.toArray e (lo, hi))) (h1 : ∀ v, v ∈ vs → v.oneCell' = true) (hlt : off + vs.length ≤ cl.length) (hfz : hi ≤ lo ∨ hi ≤ off ∨ off + vs.length ≤ lo) :
  St w0 T (setL L i (.cells (cl.take off ++ vs ++ cl.drop (off + vs.length)).toArray e (lo, hi))) (w.setCells b off vs) := by
 obtain ⟨w', hr, hs⟩ := hst.stored (P := P) i (off := off) hi' h1 hlt hfz
 have hh := (hst.own _ (nthL_mem hi')).1
 have h2 := run_storeCells_cells (P := P) b off vs 0 w (fun j hj => by rw [Nat.add_zero]; exact some_of_heap hh (by omega)) (fun j hj => by rw [Nat.add_zero]; exact frozen_of_heap hh (by omega)) h1
 rw [hr] at h2
 injection h2 with _ h3
 rw [Nat.add_zero] at h3
 exact h3 ▸ hs
section
variable {α : Type} {P Q R : List α} {x : α}
theorem ins_shift (hR : 1 ≤ R.length) :
  ((P ++ Q ++ R).take (P.length + 1) ++ Q ++ (P ++ Q ++ R).drop (P.length + 1 + Q.length)).take P.length ++ [x] ++ ((P ++ Q ++ R).take (P.length + 1) ++ Q ++ (P ++ Q ++ R).drop (P.length + 1 + Q.length)).drop (P.length + 1) = P ++ [x] ++ Q ++ R.drop 1 := by
 have hQR : ((Q ++ R).take 1).length = 1 := by rw [List.length_take, List.length_append]; omega
 have e1 : (P ++ Q ++ R).take (P.length + 1) = P ++ (Q ++ R).take 1 := by rw [List.append_assoc, List.take_length_add_append]
 have e2 : (P ++ Q ++ R).drop (P.length + 1 + Q.length) = R.drop 1 := by rw [show P.length + 1 + Q.length = (P ++ Q).length + 1 by rw [List.length_append]; omega, List.drop_length_add_append]
 rw [e1, e2]
 have e3 : (P ++ (Q ++ R).take 1 ++ Q ++ R.drop 1).take P.length = P := by rw [List.append_assoc, List.append_assoc]; exact List.take_left
 have e4 : (P ++ (Q ++ R).take 1 ++ Q ++ R.drop 1).drop (P.length + 1) = Q ++ R.drop 1 := by
  rw [List.append_assoc (P ++ _), List.drop_left' (by rw [List.length_append]; omega)]
 rw [e3, e4]
 simp only [List.append_assoc]
theorem ins_new (Z : List α) (hZ : Q.length + 1 ≤ Z.length) :
  (((P ++ Z).take P.length ++ [x] ++ (P ++ Z).drop (P.length + 1)).take (P.length + 1) ++ Q ++ ((P ++ Z).take P.length ++ [x] ++ (P ++ Z).drop (P.length + 1)).drop (P.length + 1 + Q.length)) = P ++ [x] ++ Q ++ Z.drop (Q.length + 1) := by
 have e0 : (P ++ Z).take P.length ++ [x] ++ (P ++ Z).drop (P.length + 1) = (P ++ [x]) ++ Z.drop 1 := by
  rw [List.take_left, List.drop_length_add_append]
 have hp : (P ++ [x]).length = P.length + 1 := by simp
 rw [e0, ← hp, List.take_left, List.drop_length_add_append, List.drop_drop, Nat.add_comm 1]
end
theorem rowsI : ∀ l : List Int, rows encI l = l.map (Value.int .i64)
 | [] => rfl
 | x :: l => by rw [rows_cons, rowsI l]; rfl
section
variable {P : Program} {ρ : Ren} {w : World}
theorem search_rd (L : Lays2.n25 P ρ) {A : Option Addr} {n c : Nat} {s : List Int} {x : Int} (f_s : SlF encI w A n s) (hasc : s.Pairwise (· ≤ ·)) (hn : n ≤ 1048576) :
  Calls P (ρ.f 25) #[.slice A n c, .int .i64 x] w fun e w' => e = .returned (.tuple #[.int .i64 (s.countP (· < x) : Nat), .bool (s.contains x)]) ∧ St w [] [] w' := by
 have hl := f_s.len
 by_cases h0 : n = 0
 ·subst h0
  obtain rfl : s = [] := List.eq_nil_of_length_eq_zero hl
  refine (Any.slices_BinarySearch_int_empty L A c x w).mono ?_
  rintro e w' ⟨rfl, rfl⟩
  exact ⟨rfl, St.init _⟩
 ·have hr := f_s.rd
  have hat : ∀ j, (hj : j < s.length) → (rows encI s)[j]? = some (.int .i64 (s.getD j 0)) := fun j hj => by
   rw [rowsI, List.getElem?_map, List.getElem?_eq_getElem hj, List.getD_eq_getElem?_getD, List.getElem?_eq_getElem hj]
   rfl
  cases A with
  | none => have := hr.some_ (by omega); cases this
  | some a =>
   obtain ⟨b, off, sp⟩ := a
   cases sp with
   | some q =>
    have h1 := hr.cell 0 _ (hat 0 (by omega))
    have e1 : (adr (some ⟨b, off, some q⟩)).add 0 = ⟨b, off, some q⟩ := by unfold adr Addr.add; split <;> simp_all
    rw [e1] at h1
    unfold World.cell? at h1
    split at h1 <;> simp at h1
   | none =>
    refine (Any.slices_BinarySearch_int L b off n c s x w (by omega) (by omega) (fun j hj => ?_) (by rw [List.take_of_length_le (by omega)]; exact hasc)).mono ?_
    ·have h1 := hr.cell j _ (hat j hj)
     rwa [show (adr (some ⟨b, off, none⟩)).add j = ⟨b, off + j, none⟩ from addr_at b off j] at h1
    ·rintro e w' ⟨rfl, q, rfl⟩
     rw [List.take_of_length_le (by omega)]
     exact ⟨rfl, ⟨rfl, rfl, rfl, Nat.le_refl _, fun _ _ _ => rfl, fun _ h => (by cases h), List.nodup_nil⟩⟩
theorem insert_own (L : Lays2.n21 P ρ) {v : Value} {s : List Int} {Ls : Hp} {i b c0 : Nat} {x : Int} (o_s : OwnF encI (ρ.t 3) v s Ls) (h_s : ∀ p, p ∈ Ls → w.heap[p.1]? = some p.2) (hi : i ≤ s.length) (hn : s.length ≤ 1048576) (hb : w.heap[b]? = some (.cells [Value.int .i64 x].toArray (ρ.t 3) (0, 0))) (hne : b ∉ Ls.map (·.1)) :
  Calls P (ρ.f 21) #[v, .int .i64 i, .slice (some ⟨b, 0, none⟩) 1 c0] w fun e w' => ∃ A c L1, e = .returned (.slice A (s.length + 1) c) ∧ St w (Ls.map (·.1)) L1 w' ∧ OwnF encI (ρ.t 3) (.slice A (s.length + 1) c) (s.take i ++ [x] ++ s.drop i) L1 := by
 have hst : St w (Ls.map (·.1)) Ls w := St.take w Ls h_s o_s.keys
 have hl : (s.take i ++ [x] ++ s.drop i).length = s.length + 1 := by simp; omega
 have hvs : ∀ j u, [Value.int .i64 x][j]? = some u → w.cell? ⟨b, 0 + j, none⟩ = some u := fun j u hj => by rw [Nat.zero_add]; exact cell_of_heap hb hj
 have h1v : ∀ u ∈ [Value.int .i64 x], u.oneCell' = true := by intro u hu; rw [List.mem_singleton] at hu; subst hu; rfl
 have hsa : w.shape? b = some (ρ.t 3, 1) := by simp [World.shape?, hb]
 have hfa : w.frozen? ⟨b, 0, none⟩ = false := frozen_of_heap hb (by omega)
 have hfe : w.frozen? ⟨b, 1, none⟩ = false := frozen_of_heap hb (by omega)
 have hml : maxLen = 9223372036854775807 := rfl
 -- the parts
 generalize hP : s.take i = p at hl ⊢
 generalize hQ : s.drop i = q at hl ⊢
 have hpq : s = p ++ q := by rw [← hP, ← hQ, List.take_append_drop]
 have hpl : p.length = i := by rw [← hP, List.length_take]; omega
 have hql : q.length = s.length - i := by rw [← hQ, List.length_drop]
 have rl : ∀ l : List Int, (rows encI l).length = l.length := fun l => by rw [rows_len]; exact Nat.mul_one _
 have hrow : rows encI (p ++ [x] ++ q) = rows encI p ++ [Value.int .i64 x] ++ rows encI q := by rw [rows_append, rows_append]; rfl
 have hrl := rl (p ++ [x] ++ q)
 have hrs : rows encI s = rows encI p ++ rows encI q := by rw [hpq, rows_append]
 have htp : (rows encI p ++ rows encI q).take i = rows encI p := List.take_left' (by rw [rl]; exact hpl)
 have hdp : (rows encI p ++ rows encI q).drop i = rows encI q := List.drop_left' (by rw [rl]; exact hpl)
 have rp := rl p
 have rq := rl q
 have hz : ∀ n, (Builtin.zeroCells (Value.int .i64 0).cells n).toList.length = n := fun n => by rw [Array.length_toList, size_zeroCells]; exact Nat.mul_one _
 -- a block that is ours
 have fin : ∀ (w' : World) (g cap lo hi' : Nat) (pre cl : List Value), St w (Ls.map (·.1)) ([(g, .cells (pre ++ cl).toArray (ρ.t 3) (lo, hi'))]) w' → cl.length = cap → s.length + 1 ≤ cap → cap ≤ maxLen → cl.take (s.length + 1) = rows encI (p ++ [x] ++ q) → (hi' ≤ lo ∨ (pre ++ cl).length ≤ lo) →
   ∃ A c L1, (Ending.returned (.slice (some ⟨g, pre.length, none⟩) (s.length + 1) cap)) = .returned (.slice A (s.length + 1) c) ∧ St w (Ls.map (·.1)) L1 w' ∧ OwnF encI (ρ.t 3) (.slice A (s.length + 1) c) (p ++ [x] ++ q) L1 := by
  intro w' g cap lo hi' pre cl hs h1 h2 h3 h4 h5
  refine ⟨_, _, _, rfl, hs, by rw [rows_len], .inr ⟨g, cap, pre.length, pre, cl, (lo, hi'), by rw [hl], rfl, by rw [hl]; exact h2, h3, by rw [h1]; exact (Nat.mul_one _).symm, ?_, h5, rfl⟩⟩
  rw [hl, ← h4]; exact congrArg (fun k => cl.take k) (Nat.mul_one _)
 have growEnd : ∀ (A : Option Addr) (cap : Nat), i = s.length → s.length ≤ cap → cap < s.length + 1 → (A = none → s.length = 0) → (∀ a, A = some a → ∀ j u, (rows encI p ++ rows encI q)[j]? = some u → w.cell? (a.add j) = some u) →
   Calls P (ρ.f 21) #[.slice A s.length cap, .int .i64 i, .slice (some ⟨b, 0, none⟩) 1 c0] w fun e w' => ∃ A c L1, e = .returned (.slice A (s.length + 1) c) ∧ St w (Ls.map (·.1)) L1 w' ∧ OwnF encI (ρ.t 3) (.slice A (s.length + 1) c) (p ++ [x] ++ q) L1 := by
  intro A cap e1 h1 h2 h3 h4
  rw [show ((i : Nat) : Int) = ((s.length : Nat) : Int) by rw [e1]]
  refine (Any2.slices_Insert_int_end_grow L A s.length cap b 0 1 c0 (rows encI p ++ rows encI q) [.int .i64 x] w (by omega) h1 h2 (by omega) (by rw [List.length_append]; omega) rfl h3 h4 hvs h1v).mono ?_
  rintro e w' ⟨rfl, rfl⟩
  have hq0 : q = [] := List.eq_nil_of_length_eq_zero (by omega)
  have hge := grownCap_ge w (s.length + 1) cap (ρ.t 3)
  have hcm : grownCap w (s.length + 1) cap (ρ.t 3) ≤ maxLen := grownCap_le_maxLen w (s.length + 1) cap (ρ.t 3) (by omega)
  have ec : ((rows encI p ++ rows encI q ++ [Value.int .i64 x]).toArray ++ Builtin.zeroCells (Value.int .i64 0).cells (grownCap w (s.length + 1) cap (ρ.t 3) - (s.length + 1))) = ([] ++ (rows encI (p ++ [x] ++ q) ++ (Builtin.zeroCells (Value.int .i64 0).cells (grownCap w (s.length + 1) cap (ρ.t 3) - (s.length + 1))).toList)).toArray := by
   rw [hrow, hq0]; apply Array.toList_inj.1; simp [rows_nil]
  rw [ec]
  refine fin _ w.heap.size _ 0 0 [] (rows encI (p ++ [x] ++ q) ++ (Builtin.zeroCells (Value.int .i64 0).cells (grownCap w (s.length + 1) cap (ρ.t 3) - (s.length + 1))).toList) ?_ ?_ hge hcm (List.take_left' (by omega)) (.inl (Nat.le_refl _))
  ·exact (hst.drew.alloc _).drop (List.Sublist.cons_cons _ (List.nil_sublist _))
  ·rw [List.length_append, hrl, hl, hz]
   omega
 rcases o_s.2 with ⟨⟨A, rfl⟩, h0, rfl⟩ | ⟨g, cap, o, pre, cl, ⟨lo, hi'⟩, rfl, rfl, hnc, hcm, hcl, htk, hfz, rfl⟩
 ·have h2 := growEnd A 0 (by omega) (by omega) (by omega) (fun _ => h0) (fun a _ j u hj => by
   rw [List.getElem?_eq_none (by rw [List.length_append]; omega)] at hj; cases hj)
  rwa [h0] at h2 ⊢
 ·have hh := h_s _ List.mem_cons_self
  simp only at hh hfz
  have hcl' : cl.length = cap := by rw [hcl]; exact Nat.mul_one _
  have htk' : cl.take s.length = rows encI p ++ rows encI q := by rw [← hrs, ← htk]; exact congrArg (fun k => cl.take k) (Nat.mul_one _).symm
  have hpc : (pre ++ cl).length = pre.length + cl.length := List.length_append
  have hcs : ∀ j u, (rows encI p ++ rows encI q)[j]? = some u → w.cell? ⟨g, pre.length + j, none⟩ = some u := fun j u hj => by
   refine cell_of_heap hh ?_
   rw [List.getElem?_append_right (by omega), show pre.length + j - pre.length = j by omega, ← hj, ← htk', List.getElem?_take]
   have hj2 := (List.getElem?_eq_some_iff.1 hj).1
   rw [List.length_append] at hj2
   rw [if_pos (by omega)]
  have hgb : b ≠ g := fun h9 => hne (by rw [h9]; exact List.mem_cons_self)
  by_cases hroom : s.length + 1 ≤ cap
  ·obtain ⟨r, hr⟩ : ∃ r, cl = rows encI p ++ rows encI q ++ r := ⟨cl.drop s.length, by rw [← htk', List.take_append_drop]⟩
   have hrlen : r.length = cap - s.length := by
    have h9 := congrArg List.length hr
    rw [List.length_append, List.length_append] at h9
    omega
   by_cases he : i = s.length
   ·rw [show ((i : Nat) : Int) = ((s.length : Nat) : Int) by rw [he]]
    refine (Any2.slices_Insert_int_end_room L g pre.length s.length cap b 0 1 c0 [.int .i64 x] w (by omega) hroom (by omega) rfl (fun j hj => some_of_heap hh (by omega)) (fun j hj => frozen_of_heap hh (by omega)) hvs h1v).mono ?_
    rintro e w' ⟨rfl, rfl⟩
    have h2 := St.setCells P hst 0 (off := pre.length + s.length) (vs := [.int .i64 x]) rfl h1v (by simp only [List.length_singleton]; omega) (by simp only [List.length_singleton]; omega)
    rw [splice_pre] at h2
    have hq0 : q = [] := List.eq_nil_of_length_eq_zero (by omega)
    refine fin _ g cap lo hi' pre _ h2 ?_ hroom hcm ?_ ?_
    ·simp only [List.length_append, List.length_take, List.length_drop, List.length_singleton]; omega
    ·rw [htk', hrow, hq0, rows_nil, List.append_nil, List.append_nil]
     exact List.take_left' (by rw [List.length_append, rl, List.length_singleton, hpl, he])
    ·simp only [List.length_append, List.length_take, List.length_drop, List.length_singleton]; omega
   ·refine (Any2.slices_Insert_int_shift L g pre.length s.length cap i b 0 1 c0 (rows encI p ++ rows encI q) [.int .i64 x] w (by omega) (by omega) hroom (by omega) hgb (by rw [List.length_append]; omega) rfl hcs (fun j hj => some_of_heap hh (by omega)) (fun j hj => frozen_of_heap hh (by omega)) hvs (fun u hu => by rw [← rows_append] at hu; exact rows_one u hu) h1v (ρ.t 3) (ρ.t 3) 1 (pre ++ cl).length hsa (by simp [World.shape?, hh]) (by omega) hfa hfe).mono ?_
    rintro e w' ⟨rfl, rfl⟩
    rw [hdp]
    have h2 := St.setCells P hst.drew 0 (off := pre.length + (i + 1)) (vs := rows encI q) rfl rows_one (by omega) (by omega)
    rw [splice_pre] at h2
    have h3 := St.setCells P h2 0 (off := pre.length + i) (vs := [.int .i64 x]) rfl h1v (by simp only [List.length_append, List.length_take, List.length_drop, List.length_singleton]; omega) (by simp only [List.length_append, List.length_take, List.length_drop, List.length_singleton]; omega)
    rw [splice_pre] at h3
    have e9 := ins_shift (P := rows encI p) (Q := rows encI q) (R := r) (x := Value.int .i64 x) (by omega)
    rw [← hr, rp, hpl] at e9
    have e8 : cl.take i ++ [Value.int .i64 x] ++ cl.drop (i + 1) = cl.take i ++ [Value.int .i64 x] ++ cl.drop (i + 1) := rfl
    refine fin _ g cap lo hi' pre _ h3 ?_ hroom hcm ?_ ?_
    ·simp only [List.length_append, List.length_take, List.length_drop, List.length_singleton]; omega
    ·rw [show [Value.int .i64 x].length = 1 from rfl, e9, hrow]
     exact List.take_left' (by simp only [List.length_append, List.length_singleton]; omega)
    ·simp only [List.length_append, List.length_take, List.length_drop, List.length_singleton]; omega
  ·by_cases he : i = s.length
   ·exact growEnd _ cap he hnc (by omega) (fun h9 => by cases h9) (fun a ha j u hj => by cases ha; rw [addr_at]; exact hcs j u hj)
   ·refine (Any2.slices_Insert_int_grow L g pre.length s.length cap i b 0 1 c0 (rows encI p ++ rows encI q) [.int .i64 x] w (by omega) (by omega) hnc (by omega) (by omega) (by rw [List.length_append]; omega) rfl hcs hvs (fun u hu => by rw [← rows_append] at hu; exact rows_one u hu) h1v).mono ?_
    rintro e w' ⟨rfl, rfl⟩
    rw [hdp, htp]
    have hge := grownCap_ge w (s.length + 1) cap (ρ.t 3)
    have hcm : grownCap w (s.length + 1) cap (ρ.t 3) ≤ maxLen := grownCap_le_maxLen w (s.length + 1) cap (ρ.t 3) (by omega)
    obtain ⟨Z, hZ⟩ : ∃ Z : List Value, Z = (Builtin.zeroCells (Value.int .i64 0).cells (s.length + 1 - i)).toList ++ (Builtin.zeroCells (Value.int .i64 0).cells (grownCap w (s.length + 1) cap (ρ.t 3) - (s.length + 1))).toList := ⟨_, rfl⟩
    have hZl : Z.length = grownCap w (s.length + 1) cap (ρ.t 3) - i := by
     rw [hZ, List.length_append, hz, hz]
     omega
    have ec : ((rows encI p).toArray ++ Builtin.zeroCells (Value.int .i64 0).cells (s.length + 1 - i) ++ Builtin.zeroCells (Value.int .i64 0).cells (grownCap w (s.length + 1) cap (ρ.t 3) - (s.length + 1))) = (rows encI p ++ Z).toArray := by
     rw [hZ]; apply Array.toList_inj.1; simp
    rw [ec]
    have h1 := hst.alloc (.cells (rows encI p ++ Z).toArray (ρ.t 3) (0, 0))
    have h2 := St.setCells P h1.drew 0 (off := i) (vs := [.int .i64 x]) rfl h1v (by simp only [List.length_append, List.length_singleton]; omega) (.inl (Nat.le_refl _))
    have h3 := St.setCells P h2.drew 0 (off := i + 1) (vs := rows encI q) rfl rows_one (by simp only [List.length_append, List.length_take, List.length_drop, List.length_singleton]; omega) (.inl (Nat.le_refl _))
    have e9 := ins_new (P := rows encI p) (Q := rows encI q) (x := Value.int .i64 x) Z (by omega)
    rw [rp, hpl] at e9
    rw [show [Value.int .i64 x].length = 1 from rfl, e9] at h3
    refine fin _ w.heap.size _ 0 0 [] (rows encI p ++ [Value.int .i64 x] ++ rows encI q ++ Z.drop ((rows encI q).length + 1)) (h3.drop (List.Sublist.cons_cons _ (List.nil_sublist _))) ?_ hge hcm ?_ (.inl (Nat.le_refl _))
    ·simp only [List.length_append, List.length_singleton, List.length_drop]; omega
    ·rw [hrow]
     exact List.take_left' (by simp only [List.length_append, List.length_singleton]; omega)
end
def lays25_ren : Go.Shelf.Ren := ⟨fun | 25 => 121 | 31 => 133 | 32 => 134 | 37 => 142 | n => n, fun | 0 => 0 | 3 => 3 | 4 => 4 | 22 => 28 | 40 => 122 | n => n, fun n => n⟩
theorem lays25 : Go.Proofs.Lays2.n25 Try.prog lays25_ren := {
  mixed := by kernel_rfl
  f25 := Try.func121.trans (congrArg some (by kernel_rfl))
  f31 := Try.func133.trans (congrArg some (by kernel_rfl))
  f32 := Try.func134.trans (congrArg some (by kernel_rfl))
  f37 := Try.func142.trans (congrArg some (by kernel_rfl))
  t0 := Try.underlying0
  a0 := Try.isAgg0
  z0 := Try.sizeOf0
  v0 := Try.zeroValue0
  t3 := Try.underlying3
  a3 := Try.isAgg3
  z3 := Try.sizeOf3
  v3 := Try.zeroValue3
  t4 := Try.underlying4
  a4 := Try.isAgg4
  z4 := Try.sizeOf4
  v4 := Try.zeroValue4
  t22 := Try.underlying28
  a22 := Try.isAgg28
  z22 := Try.sizeOf28
  v22 := Try.zeroValue28
  t40 := Try.underlying122
  a40 := Try.isAgg122
  z40 := Try.sizeOf122
  v40 := Try.zeroValue122 }
def lays21_ren : Go.Shelf.Ren := ⟨fun | 21 => 122 | 27 => 135 | 28 => 136 | 35 => 143 | 39 => 144 | n => n, fun | 0 => 0 | 3 => 3 | 4 => 4 | 22 => 28 | n => n, fun n => n⟩
theorem lays21 : Go.Proofs.Lays2.n21 Try.prog lays21_ren := {
  mixed := by kernel_rfl
  f21 := Try.func122.trans (congrArg some (by kernel_rfl))
  f27 := Try.func135.trans (congrArg some (by kernel_rfl))
  f28 := Try.func136.trans (congrArg some (by kernel_rfl))
  f35 := Try.func143.trans (congrArg some (by kernel_rfl))
  f39 := Try.func144.trans (congrArg some (by kernel_rfl))
  t0 := Try.underlying0
  a0 := Try.isAgg0
  z0 := Try.sizeOf0
  v0 := Try.zeroValue0
  t3 := Try.underlying3
  a3 := Try.isAgg3
  z3 := Try.sizeOf3
  v3 := Try.zeroValue3
  t4 := Try.underlying4
  a4 := Try.isAgg4
  z4 := Try.sizeOf4
  v4 := Try.zeroValue4
  t22 := Try.underlying28
  a22 := Try.isAgg28
  z22 := Try.sizeOf28
  v22 := Try.zeroValue28
  i3 := by kernel_rfl }
theorem k36_ (A_s : Option Addr) (n_s c_s : Nat) (s : List Int) (x : Int) (w : World) (f_s : SlF encI w A_s n_s s) (hp : s.Pairwise (· ≤ ·)) (hn : n_s ≤ 1048576) :
    Calls Try.prog 121 #[.slice A_s n_s c_s, i64 x] w fun e w' => e = .returned (.tuple #[i64 (lowb s x), .bool (decide (x ∈ s))]) ∧ St w [] [] w' := by
 refine (search_rd lays25 f_s hp hn).mono ?_
 rintro e w' ⟨rfl, h1⟩
 refine ⟨?_, h1⟩
 rw [countP_lowb, List.contains_eq_mem]
theorem k37_ (v_s : Value) (s : List Int) (L_s : Hp) (i : Nat) (b_v : Nat) (x : Int) (w : World) (o_s : OwnF encI 3 v_s s L_s) (h_s : Hh w L_s) (hv : w.heap[b_v]? = some (.cells [Value.int .i64 x].toArray 3 (0, 0))) (hvn : b_v ∉ L_s.map (·.1)) (hi : i ≤ s.length) (hn : s.length ≤ 1048576) :
    Calls Try.prog 122 #[v_s, .int .i64 i, .slice (some ⟨b_v, 0, none⟩) 1 1] w fun e w' => ∃ A c L1, e = .returned (.slice A (s.length + 1) c) ∧ St w (L_s.map (·.1)) L1 w' ∧ OwnF encI 3 (.slice A (s.length + 1) c) (insL s i x) L1 := by
 exact (insert_own lays21 o_s h_s hi hn hv hvn).mono fun e w' h => h
theorem built_27 : Try.prog.built 27 [] = some (List.toArray [.int .i64 0, .int .i64 0, .bool false, .bool false, .bool false]) := by kernel_rfl
theorem k38_ (b_a : Nat) (a : AttrD) (n : Int) (w : World) (hb : w.heap[b_a]? = some (Obj.cells (List.toArray [i64 a.Fg, i64 a.Bg, .bool a.Bold, .bool a.Under, .bool a.Turn]) 27 (0, 0))) (hn : 0 ≤ n ∧ n ≤ 9999) :
    Calls Try.prog 129 #[.pointer (some ⟨b_a, 0, none⟩), i64 n] w fun e w' => e = .returned (.tuple #[]) ∧ St w [b_a] [(b_a, Obj.cells (List.toArray [i64 (sgrOne a n).Fg, i64 (sgrOne a n).Bg, .bool (sgrOne a n).Bold, .bool (sgrOne a n).Under, .bool (sgrOne a n).Turn]) 27 (0, 0))] w' := by
 refine enter 74 Try.func129 rfl Try.ntmps129 rfl rfl ?_
 have hs1 := St.take1 w b_a _ hb
 refine WC.block (WC.r1 hs1 [] rfl (WC.cq rfl (fun h2 qh2 => ?_) (fun h2 qh2 => ?_)))
 ·have e0 : n = 0 := by have h9 := h2; (try simp only [within_iff] at h9); first | exact h9 | (simp at h9; omega)
  refine WC.region (WL.r 1 hs1 [] rfl ?_)
  refine WL.val rfl rfl rfl (Run.build rfl rfl rfl rfl (built_27)) (WL.r 1 hs1 [] rfl (WL.st tbk hs1 0 rfl rfl (fun _ hs3 => WL.nil (ibN (retK0 rfl (⟨rfl, ?_⟩))))))
  unfold sgrOne
  rw [if_pos e0]
  exact hs3
 have e0 : ¬ (n = 0) := by have h9 := h2; (try simp only [within_not] at h9); first | exact h9 | (simp at h9; omega)
 refine WC.sr (WL.r 3 hs1 [] rfl (WL.pO tbk 2 Acts.nil hs1 [] rfl rfl rfl rfl (fun g_ => trivial) (WL.r 1 hs1 [] rfl (WL.nil (WC.cq rfl (fun h4 qh4 => ?_) (fun h4 qh4 => ?_))))))
 ·have e1 : n = 1 ∨ n = 22 := by have h9 := h4; (try simp only [within_iff] at h9); first | exact h9 | (simp at h9; omega)
  refine WC.region (WL.r 5 hs1 [] rfl (WL.st tbk hs1 0 rfl rfl (fun _ hs5 => WL.nil (ibN (retK0 rfl (⟨rfl, ?_⟩))))))
  unfold sgrOne
  rw [if_neg e0, if_pos e1]
  exact hs5
 have e1 : ¬ (n = 1 ∨ n = 22) := by have h9 := h4; (try simp only [within_not] at h9); first | exact h9 | (simp at h9; omega)
 refine WC.sr (WL.r 3 hs1 [] rfl (WL.pO tbk 2 Acts.nil hs1 [] rfl rfl rfl rfl (fun g_ => trivial) (WL.r 1 hs1 [] rfl (WL.nil (WC.cq rfl (fun h6 qh6 => ?_) (fun h6 qh6 => ?_))))))
 ·have e4 : n = 4 ∨ n = 24 := by have h9 := h6; (try simp only [within_iff] at h9); first | exact h9 | (simp at h9; omega)
  refine WC.region (WL.r 5 hs1 [] rfl (WL.st tbk hs1 0 rfl rfl (fun _ hs7 => WL.nil (ibN (retK0 rfl (⟨rfl, ?_⟩))))))
  unfold sgrOne
  rw [if_neg e0, if_neg e1, if_pos e4]
  exact hs7
 have e4 : ¬ (n = 4 ∨ n = 24) := by have h9 := h6; (try simp only [within_not] at h9); first | exact h9 | (simp at h9; omega)
 refine WC.sr (WL.r 3 hs1 [] rfl (WL.pO tbk 2 Acts.nil hs1 [] rfl rfl rfl rfl (fun g_ => trivial) (WL.r 1 hs1 [] rfl (WL.nil (WC.cq rfl (fun h8 qh8 => ?_) (fun h8 qh8 => ?_))))))
 ·have e7 : n = 7 ∨ n = 27 := by have h9 := h8; (try simp only [within_iff] at h9); first | exact h9 | (simp at h9; omega)
  refine WC.region (WL.r 5 hs1 [] rfl (WL.st tbk hs1 0 rfl rfl (fun _ hs9 => WL.nil (ibN (retK0 rfl (⟨rfl, ?_⟩))))))
  unfold sgrOne
  rw [if_neg e0, if_neg e1, if_neg e4, if_pos e7]
  exact hs9
 have e7 : ¬ (n = 7 ∨ n = 27) := by have h9 := h8; (try simp only [within_not] at h9); first | exact h9 | (simp at h9; omega)
 refine WC.sr (WL.r 1 hs1 [] rfl (WL.cl Try.call33 rfl (k0_ _ _ _ _) ?_))
 rintro _ whs10 ⟨rfl, hs10⟩
 replace hs10 := hs1.call0 hs10
 refine ⟨_, rfl, WL.r 1 hs10 [] rfl (WL.nil (WC.cq rfl (fun h11 qh11 => ?_) (fun h11 qh11 => ?_)))⟩
 ·have e30 : 30 ≤ n ∧ n ≤ 37 := by have h9 := h11; (try simp only [within_iff] at h9); first | exact h9 | (simp at h9; omega)
  refine WC.region (WL.r 5 hs10 [] rfl (WL.st tbk hs10 0 rfl rfl (fun _ hs12 => WL.nil (ibN (retK0 rfl (⟨rfl, ?_⟩))))))
  unfold sgrOne
  rw [if_neg e0, if_neg e1, if_neg e4, if_neg e7, if_pos e30]
  exact hs12
 have e30 : ¬ (30 ≤ n ∧ n ≤ 37) := by have h9 := h11; (try simp only [within_not] at h9); first | exact h9 | (simp at h9; omega)
 refine WC.r1 hs10 [] rfl (WC.cq rfl (fun h13 qh13 => ?_) (fun h13 qh13 => ?_))
 ·have e39 : n = 39 := by have h9 := h13; (try simp only [within_iff] at h9); first | exact h9 | (simp at h9; omega)
  refine WC.region (WL.r 3 hs10 [] rfl (WL.st tbk hs10 0 rfl rfl (fun _ hs14 => WL.nil (ibN (retK0 rfl (⟨rfl, ?_⟩))))))
  unfold sgrOne
  rw [if_neg e0, if_neg e1, if_neg e4, if_neg e7, if_neg e30, if_pos e39]
  exact hs14
 have e39 : ¬ (n = 39) := by have h9 := h13; (try simp only [within_not] at h9); first | exact h9 | (simp at h9; omega)
 refine WC.sr (WL.r 1 hs10 [] rfl (WL.cl Try.call33 rfl (k0_ _ _ _ _) ?_))
 rintro _ whs15 ⟨rfl, hs15⟩
 replace hs15 := hs10.call0 hs15
 refine ⟨_, rfl, WL.r 1 hs15 [] rfl (WL.nil (WC.cq rfl (fun h16 qh16 => ?_) (fun h16 qh16 => ?_)))⟩
 ·have e40 : 40 ≤ n ∧ n ≤ 47 := by have h9 := h16; (try simp only [within_iff] at h9); first | exact h9 | (simp at h9; omega)
  refine WC.region (WL.r 5 hs15 [] rfl (WL.st tbk hs15 0 rfl rfl (fun _ hs17 => WL.nil (ibN (retK0 rfl (⟨rfl, ?_⟩))))))
  unfold sgrOne
  rw [if_neg e0, if_neg e1, if_neg e4, if_neg e7, if_neg e30, if_neg e39, if_pos e40]
  exact hs17
 have e40 : ¬ (40 ≤ n ∧ n ≤ 47) := by have h9 := h16; (try simp only [within_not] at h9); first | exact h9 | (simp at h9; omega)
 refine WC.r1 hs15 [] rfl (WC.cq rfl (fun h18 qh18 => ?_) (fun h18 qh18 => ?_))
 ·have e49 : n = 49 := by have h9 := h18; (try simp only [within_iff] at h9); first | exact h9 | (simp at h9; omega)
  refine WC.region (WL.r 3 hs15 [] rfl (WL.st tbk hs15 0 rfl rfl (fun _ hs19 => WL.nil (ibN (retK0 rfl (⟨rfl, ?_⟩))))))
  unfold sgrOne
  rw [if_neg e0, if_neg e1, if_neg e4, if_neg e7, if_neg e30, if_neg e39, if_neg e40, if_pos e49]
  exact hs19
 have e49 : ¬ (n = 49) := by have h9 := h18; (try simp only [within_not] at h9); first | exact h9 | (simp at h9; omega)
 refine WC.skip (ibN (retK0 rfl (⟨rfl, ?_⟩)))
 unfold sgrOne
 rw [if_neg e0, if_neg e1, if_neg e4, if_neg e7, if_neg e30, if_neg e39, if_neg e40, if_neg e49]
 exact hs15
theorem k39_ (a_Fg : Int) (a_Bg : Int) (a_Bold : Bool) (a_Under : Bool) (a_Turn : Bool) (A_l : Option Addr) (n_l c_l : Nat) (l : List Int) (w : World) (f_l : SlF encI w A_l n_l l) (hl : areArgs l = true) (hn : n_l ≤ 549755813888) :
    Calls Try.prog 109 #[.agg #[i64 a_Fg, i64 a_Bg, .bool a_Bold, .bool a_Under, .bool a_Turn], .slice A_l n_l c_l] w fun e w' => ∃ r : AttrD, e = .returned (.agg #[i64 r.Fg, i64 r.Bg, .bool r.Bold, .bool r.Under, .bool r.Turn]) ∧ St w [] [] w' ∧ r = sgrRes (⟨a_Fg, a_Bg, a_Bold, a_Under, a_Turn⟩ : AttrD) l := by
 have hll := f_l.len
 refine enter 25 Try.func109 rfl Try.ntmps109 rfl rfl ?_
 have hs1 := St.init w
 refine WC.sr (WL.bx hs1 rfl (fun b2 _ hs3 => WL.al hs3 Try.zeroValue27 rfl rfl (fun b4 _ hs5 => WL.nil (WC.seq (fun K6 hK6 => WC.sr (WL.r 1 hs5 [1] rfl (WL.cl Try.call31 rfl (k2_ _ _ _ _ _ _) ?_)))))))
 rintro _ whs7 ⟨rfl, hs7⟩
 replace hs7 := hs5.call0 hs7
 refine ⟨_, rfl, WL.r 1 hs7 [] rfl (WL.nil (WC.cq rfl (fun h8 qh8 => ?_) (fun h8 qh8 => ?_)))⟩
 ·have hk : ¬ (attrOk a_Fg a_Bg = true ∧ 0 < l.length) := by rintro ⟨z7, z8⟩; have h9 := h8; first | (simp [z7] at h9; omega) | (simp [z7] at h9)
  refine WC.sr ?_
  refine WL.val rfl rfl rfl (Run.build rfl rfl rfl rfl (built_27)) (WL.st tbk hs7 0 rfl rfl (fun _ hs9 => WL.nil (WC.ret (tkR ?_))))
  clear hK6
  refine retV1 rfl (resV.cellA tbk hs9 0 rfl rfl rfl rfl) ?_
  exact ⟨⟨0, 0, false, false, false⟩, rfl, hs9.nil, by unfold sgrRes; rw [if_neg hk]⟩
 have hc0 := h8
 refine WC.skip (hK6 _ _ (WC.seq (fun K10 hK10 => WC.r1 hs7 [] rfl ?_)))
 refine WC.cq rfl (fun h11 qh11 => ?_) (fun h11 qh11 => ?_)
 ·have hk : ¬ (attrOk a_Fg a_Bg = true ∧ 0 < l.length) := by rintro ⟨z7, z8⟩; have h9 := h11; first | (simp [z7] at h9; omega) | (simp [z7] at h9)
  refine WC.sr ?_
  refine WL.val rfl rfl rfl (Run.build rfl rfl rfl rfl (built_27)) (WL.st tbk hs7 0 rfl rfl (fun _ hs12 => WL.nil (WC.ret (tkR ?_))))
  clear hK10
  refine retV1 rfl (resV.cellA tbk hs12 0 rfl rfl rfl rfl) ?_
  exact ⟨⟨0, 0, false, false, false⟩, rfl, hs12.nil, by unfold sgrRes; rw [if_neg hk]⟩
 have hc1 := h11
 have hk2 : attrOk a_Fg a_Bg = true ∧ 0 < l.length := by (try simp at hc0); (try simp at hc1); first | exact ⟨hc0, by omega⟩ | exact ⟨hc0.1, by omega⟩
 refine WC.skip (hK10 _ _ (WC.seq (fun K13 hK13 => WC.r1 hs7 [] rfl (WC.block ?_))))
 have hM14 := (St.grp0 [_] (hs7.fb b2))
 refine WC.lV [2, 4, 9, 13, 15, 16] rfl hM14 (fun k_ (a_ : Hp) f => ∃ (i : Nat) (q : AttrD), k_ = n_l - i ∧ a_ = [(b2, .cells (List.toArray [i64 q.Fg, i64 q.Bg, .bool q.Bold, .bool q.Under, .bool q.Turn]) 27 (0, 0))] ∧ (i ≤ n_l) ∧ (q = sgrAll (⟨a_Fg, a_Bg, a_Bold, a_Under, a_Turn⟩ : AttrD) (l.take i)) ∧ Sub [(17, .int .i64 i)] f) (((fun (i : Nat) (q : AttrD) => n_l - i) (0) ((⟨a_Fg, a_Bg, a_Bold, a_Under, a_Turn⟩ : AttrD)))) ?_ ?_
 ·refine ⟨0, (⟨a_Fg, a_Bg, a_Bold, a_Under, a_Turn⟩ : AttrD), rfl, rfl, ?_, ?_, ⟨rfl, trivial⟩⟩
  · exact Nat.zero_le _
  · rfl
 rintro _ _ f w ⟨i, q, rfl, rfl, p0, p1, hG⟩ hF hs15
 refine WC.sub _ (hG.app hF) ?_
 clear hG hF
 replace hs15 := St.ungrp0 [_] hs15
 have hs16 := ((hs15.fb b4).fb b2)
 refine WC.r1 hs16 [] rfl (WC.seq (fun K17 hK17 => ?_))
 refine WC.cq rfl (fun h18 qh18 => ?_) (fun h18 qh18 => ?_)
 ·have hnn := (areArgs_iff.1 hl).2 _ (gat_mem (F := encI) (show i < l.length by omega))
  refine WC.skip (hK17 _ _ (WC.seq (fun K19 hK19 => WC.block (WC.sr ?_))))
  refine WL.val rfl rfl rfl (Run.idxN Try.runUnderlying28 Try.sizeOf3 rfl rfl rfl ?_ ?_ ?_) ?_
  · exact SlF.some_ (SlF.st0 f_l hs16)
  · omega
  · omega
  refine WL.val rfl rfl rfl (Run.load Try.isAgg3 rfl rfl (SlF.one1 (SlF.st0 f_l hs16) ?_ rfl)) ?_
  · omega
  refine WL.r 1 hs16 [] rfl (WL.nil (WC.region (WL.r 1 hs16 [] rfl ?_)))
  have hF20 : St _ _ ([(b2, _)] ++ _) _ := hs16
  refine WL.call rfl rfl rfl (Run.call Try.call129 rfl rfl rfl) (k38_ _ q _ _ (hF20.own _ List.mem_cons_self).1 ?_) ?_
  · omega
  rintro _ whs21 ⟨rfl, hs21⟩
  replace hs21 := St.lend hF20 hs21
  refine ⟨_, rfl, WL.nil (hK19 _ _ (WC.region (WL.r 2 hs21 [] rfl (WL.nil (tkN ?_)))))⟩
  have hF22 := (St.grp0 [_] ((hs21.fb b4).fb b2))
  refine ⟨sbF rfl, _, hF22, _, ?_, i + 1, (sgrOne q (gat encI l i)), rfl, rfl, ?_, ?_, ⟨rfl, trivial⟩⟩
  · omega
  · omega
  · rw [sgrAll_take (by omega), ← p1]
 refine WC.exit (hK13 _ _ (WC.sr (WL.r 1 hs16 [0] rfl (WL.st tbk hs16 1 rfl rfl (fun _ hs23 => WL.nil (WC.ret (retV1 rfl (resV.cellA tbk hs23 1 rfl rfl rfl rfl) ?_)))))))
 exact ⟨q, rfl, hs23.nil, by unfold sgrRes; rw [if_pos hk2, p1, List.take_of_length_le (by omega)]⟩
theorem nthL_eq : ∀ (L : Hp) (i : Nat), nthL L i = L[i]?
 | [], _ => rfl
 | _ :: _, 0 => rfl
 | _ :: L, i + 1 => (nthL_eq L i).trans (by simp)
section
variable {P : Program} {w0 w : World} {T : List Nat} {L : Hp} {n : Nat} {ol : List Oper} {o : Oper} {rest : List Oper} {f : Fr} {d : Nat} {K : Fr → World → Prop}
theorem St.setObj (h : St w0 T L w) {i b : Nat} {o1 : Obj} (hi : nthL L i = some (b, o1)) (o2 : Obj) : St w0 T (setL L i o2) { w with heap := w.heap.setIfInBounds b o2 } := by
 have hb := (h.own _ (nthL_mem hi))
 have hlt := lt_of_heap hb.1
 have hother : ∀ k, k ≠ b → (w.heap.setIfInBounds b o2)[k]? = w.heap[k]? := fun k hk => by
  rw [Array.getElem?_setIfInBounds]; rw [if_neg (fun h => hk h.symm)]
 refine ⟨h.os, h.tape, h.output, by simpa using h.size, fun k hk hT => ?_, fun p hp => ?_, by rw [setL_keys]; exact h.nodup⟩
 ·refine (hother k ?_).trans (h.keep k hk hT)
  rintro rfl
  rcases hb.2 with h1 | h1
  ·simp at h1; omega
  ·exact hT h1
 ·rcases setL_mem hi h.nodup hp with rfl | ⟨hm, hne⟩
  ·refine ⟨?_, hb.2⟩
   show (w.heap.setIfInBounds b o2)[b]? = some o2
   rw [Array.getElem?_setIfInBounds, if_pos rfl]
   simp only at hlt
   rw [if_pos hlt]
  ·exact ⟨(hother p.1 hne).trans (h.own p hm).1, (h.own p hm).2⟩
theorem WL.makeMap {t : TypeId} (hst : St w0 T L w) (ho : o.op = .makeMap t none) (hw : want ol o f = some true) (hd : o.dst = some d) (hn : Nat.blt d n = true)
  (k : ∀ b w', St w0 T ((b, .map #[] 0) :: L) w' → WL P n ol rest K ((d, .map (some b)) :: f) w') : WL P n ol (o :: rest) K f w := by
 refine WL.val (w' := w.alloc (.map #[] 0)) hw hd hn (fun ρ hρ => ?_) (k _ _ (hst.alloc _))
 simp [execOp, ho, Instr.makeMap]
theorem WL.mapPut {L' : Hp} {t kt et : TypeId} {kd : TypeDesc} {x y z : Operand} {b clock : Nat} {es : Array MapEntry} {key v : Value} (hst : St w0 T L w) (i : Nat) (hi : nthL L i = some (b, .map es clock)) (hm : P.underlying t = some (.map kt et)) (hkd : P.underlying kt = some kd)
  (ho : o.op = .insert t x y z) (hw : want ol o f = some true) (hd : o.dst = none) (hx : ev f x = some (.map (some b))) (hy : ev f y = some key) (hz : ev f z = some v) (hL : setLK L i (.map (es.push { key := key, val := v, born := clock }) (clock + 1)) some = some L') (hk : MapKept.IsKey kd key) (hf : Instr.findNow kd key es.toList 0 = some none)
  (k : ∀ w', St w0 T L' w' → WL P n ol rest K f w') : WL P n ol (o :: rest) K f w := by
 have hb := (hst.own _ (nthL_mem hi)).1
 refine WL.unit (w' := { w with heap := w.heap.setIfInBounds b (.map (es.push { key := key, val := v, born := clock }) (clock + 1)) }) hw hd (fun ρ hρ => ?_) (k _ (Option.some.inj (setLK_some hL) ▸ hst.setObj hi _))
 simp [execOp, ho, hρ _ _ hx, hρ _ _ hy, hρ _ _ hz, Instr.mapUpdate, run_underlying hm, MapKept.run_getObj_map hb, MapKept.run_checkKey hkd hk, MapKept.run_findKey hkd hf, MapKept.run_setObj_map _ hb, Result.andThen]
theorem Run.mapGet {t kt et : TypeId} {kd : TypeDesc} {x y : Operand} {b clock : Nat} {es : Array MapEntry} {key v : Value} (hm : P.underlying t = some (.map kt et)) (hkd : P.underlying kt = some kd) (ho : o.op = .lookup t x y false) (hx : ev f x = some (.map (some b))) (hy : ev f y = some key)
  (hb : w.heap[b]? = some (.map es clock)) (hk : MapKept.IsKey kd key) (hf : ∃ j, Instr.findNow kd key es.toList 0 = some (some (j, v))) : Run P o f w (.value v) w := fun ρ hρ => by
 obtain ⟨j, hf⟩ := hf
 simp [execOp, ho, hρ _ _ hx, hρ _ _ hy, Instr.lookup, run_underlying hm, MapKept.run_getObj_map hb, MapKept.run_checkKey hkd hk, MapKept.run_findKey hkd hf, Result.andThen]
theorem St.neq (h : St w0 T L w) {i j : Nat} {p q : Nat × Obj} (hi : nthL L i = some p) (hj : nthL L j = some q) (hij : i ≠ j) : p.1 ≠ q.1 := by
 intro he
 rw [nthL_eq] at hi hj
 have h1 : (L.map (·.1))[i]? = some p.1 := by rw [List.getElem?_map, hi]; rfl
 have h2 : (L.map (·.1))[j]? = some q.1 := by rw [List.getElem?_map, hj]; rfl
 exact hij ((List.getElem?_inj (List.getElem?_eq_some_iff.1 h1).1 h.nodup).1 (h1.trans (he ▸ h2.symm)))
theorem St.untouch {w' : World} (h : St w T L w') (hT : ∀ k, k ∈ T → ∃ q, (k, q) ∈ L) (hL : ∀ p, p ∈ L → w.heap[p.1]? = some p.2) : St w [] [] w' := by
 refine ⟨h.os, h.tape, h.output, h.size, fun k hk _ => ?_, fun _ hp => (by cases hp), List.nodup_nil⟩
 by_cases hm : k ∈ T
 ·obtain ⟨q, hq⟩ := hT k hm
  exact (h.own _ hq).1.trans (hL _ hq).symm
 ·exact h.keep k hk hm
end
theorem k40_ (A_s : Option Addr) (n_s c_s : Nat) (s : List Int) (p : Int → Bool) (cv : Value) (w : World) (f_s : SlF encI w A_s n_s s) (hcl : ∀ w1 : World, St w [] [] w1 → ∀ m : Int, Calls Try.prog 112 #[i64 m, cv] w1 fun e w2 => e = .returned (.bool (p m)) ∧ St w1 [] [] w2) (hn : n_s ≤ 1048576) :
    Calls Try.prog 102 #[.slice A_s n_s c_s, .func (.func 112) #[] #[cv]] w fun e w' => e = .returned (i64 (findI p s)) ∧ St w [] [] w' := by
 refine enter 19 Try.func102 rfl Try.ntmps102 rfl rfl ?_
 have hs1 := St.init w
 refine WC.r1 hs1 [] rfl (WC.seq (fun K2 hK2 => WC.r1 hs1 [] rfl (WC.block ?_)))
 refine WC.lS [0, 1, 7] rfl hs1 (fun k_ f w' => ∃ (i : Nat), k_ = n_s - i ∧ (i ≤ n_s) ∧ (∀ j, j < i → p (iat s j) = false) ∧ Sub [(8, .int .i64 i)] f) ((fun (i : Nat) => n_s - i) (0)) ?_ ?_
 ·refine ⟨0, rfl, ?_, ?_, ⟨rfl, trivial⟩⟩
  · exact Nat.zero_le _
  · exact fun j hj => absurd hj (by omega)
 clear hs1
 rintro _ f w ⟨i, rfl, p0, p1, hG⟩ hF hs3
 refine WC.sub _ (hG.app hF) ?_
 clear hG hF
 refine WC.r1 hs3 [] rfl (WC.seq (fun K4 hK4 => ?_))
 refine WC.cond rfl (fun h5 => ?_) (fun h5 => ?_)
 ·have qh5 := h5
  try simp only [decide_eq_true_eq, decide_eq_false_iff_not] at qh5
  refine WC.skip (hK4 _ _ (WC.seq (fun K6 hK6 => WC.block (WC.r1 hs3 [] rfl (WC.sr (WL.r 3 hs3 [] rfl ?_))))))
  refine WL.val rfl rfl rfl (Run.idxN Try.runUnderlying28 Try.sizeOf3 rfl rfl rfl ?_ ?_ ?_) ?_
  · exact SlF.some_ (SlF.st0 f_s hs3)
  · omega
  · omega
  refine WL.val rfl rfl rfl (Run.load Try.isAgg3 rfl rfl (SlF.one1 (SlF.st0 f_s hs3) ?_ rfl)) ?_
  · omega
  refine WL.call rfl rfl rfl (Run.callC Try.call112 rfl rfl rfl) (hcl _ hs3 _) ?_
  rintro _ whs7 ⟨rfl, hs7⟩
  replace hs7 := hs3.call0 hs7
  refine ⟨_, rfl, WL.nil (WC.cond rfl (fun h8 => ?_) (fun h8 => ?_))⟩
  ·have qh8 := h8
   try simp only [decide_eq_true_eq, decide_eq_false_iff_not] at qh8
   refine WC.r1 hs7 [] rfl (WC.ret (ibR (tkR (tkR (ibR (tkR ?_))))))
   clear hK6 hK2
   refine rtv rfl rfl hs7 ?_
   rw [findI_some (F := encI) (by rw [f_s.len]; omega) p1 h8]
  have qh8 := h8
  try simp only [decide_eq_true_eq, decide_eq_false_iff_not] at qh8
  refine WC.skip (hK6 _ _ (WC.region (WL.r 2 hs7 [] rfl (WL.nil (tkN ?_)))))
  refine ⟨sbF rfl, hs7, _, ?_, i + 1, rfl, ?_, ?_, ⟨rfl, trivial⟩⟩
  · omega
  · omega
  · intro j hj; rcases Nat.lt_or_ge j i with h_ | h_
    · exact p1 j h_
    · obtain rfl : j = i := by omega
      exact h8
 have qh5 := h5
 try simp only [decide_eq_true_eq, decide_eq_false_iff_not] at qh5
 refine WC.exit (hK2 _ _ (WC.r1 hs3 [] rfl (WC.ret (rtv rfl rfl hs3 ?_))))
 rw [findI_none (F := encI) (fun j hj => p1 j (by rw [f_s.len] at hj; omega))]
theorem k41_ (v_s : Value) (s : List Int) (L_s : Hp) (p : Int → Bool) (cv : Value) (w : World) (o_s : OwnF encI 3 v_s s L_s) (h_s : Hh w L_s) (hcl : ∀ (w1 : World) (Lx : Hp), St w (L_s.map (·.1)) Lx w1 → ∀ m : Int, Calls Try.prog 112 #[i64 m, cv] w1 fun e w2 => e = .returned (.bool (p m)) ∧ St w1 [] [] w2) (hn : s.length ≤ 1048576) :
    Calls Try.prog 111 #[v_s, .func (.func 112) #[] #[cv]] w fun e w' => ∃ A c n xs L1, e = .returned (.slice A n c) ∧ St w (L_s.map (·.1)) L1 w' ∧ OwnF encI 3 (.slice A n c) xs L1 ∧ xs = s.filter (fun x => !p x) := by
 obtain ⟨A_s, c_s, rfl⟩ := o_s.shape
 refine enter 42 Try.func111 rfl Try.ntmps111 rfl rfl ?_
 have hs1 := St.lent1 w L_s o_s h_s
 refine WC.r1 hs1 [] rfl (WC.sr (WL.r 2 hs1 [] rfl ?_))
 refine WL.cl Try.call102 rfl (k40_ _ _ _ _ _ _ _ (SlF.ofOwn o_s (hs1.ow L_s)) (fun w_ hx_ => hcl _ _ (St.call0 hs1 hx_)) ?_) ?_
 · first | assumption | rfl | omega
 rintro _ whs2 ⟨rfl, hs2⟩
 replace hs2 := hs1.call0 hs2
 refine ⟨_, rfl, WL.r 1 hs2 [] rfl (WL.nil (WC.seq (fun K3 hK3 => WC.r1 hs2 [] rfl ?_)))⟩
 refine WC.cq rfl (fun h4 qh4 => ?_) (fun h4 qh4 => ?_)
 ·have hfi : findI p s = -1 := by have h9 := h4; simpa using h9
  refine WC.r1 hs2 [] rfl (WC.ret (tkR ?_))
  clear hK3
  refine retV1 rfl (resV.tmp rfl) (⟨_, _, _, _, _, rfl, (St.keep1 hs2), o_s, (del_none hfi).symm⟩)
 have hfi : ¬ findI p s = -1 := by have h9 := h4; simpa using h9
 obtain ⟨hf0, hf1⟩ := findI_bnd hfi
 refine WC.skip (hK3 _ _ (WC.seq (fun K5 hK5 => WC.r1 hs2 [] rfl (WC.block ?_))))
 refine WC.lO [1, 4, 12] rfl hs2 (fun k_ f L_ => ∃ (j m : Nat) (zs : List Int), k_ = s.length - j ∧ (j ≤ s.length) ∧ (m < j) ∧ (DelTo p s j m zs) ∧ OwnF encI 3 (.slice A_s (s.length) c_s) (zs) L_ ∧ Sub [(0, .slice A_s (s.length) c_s), (6, .int .i64 j), (5, .int .i64 m)] f) (((fun (j m : Nat) (zs : List Int) => s.length - j) ((findI p s).toNat + 1) ((findI p s).toNat) (s))) ?_ ?_
 ·refine ⟨(findI p s).toNat + 1, (findI p s).toNat, s, rfl, ?_, ?_, ?_, o_s, ⟨rfl, ?_, ?_, trivial⟩⟩
  · omega
  · omega
  · exact delTo_start hfi
  · (refine congrArg some (congrArg (Value.int _) ?_); omega)
  · (refine congrArg some (congrArg (Value.int _) ?_); omega)
 clear hs2
 rintro _ f w L8 ⟨j, m, zs, rfl, p0, p1, p2, ho9, hG⟩ hF hs10
 refine WC.sub _ (hG.app hF) ?_
 clear hG hF
 have hzl := p2.len
 refine WC.seq (fun K11 hK11 => WC.r1 hs10 [] rfl ?_)
 refine WC.cq rfl (fun h12 qh12 => ?_) (fun h12 qh12 => ?_)
 ·refine WC.skip (hK11 _ _ (WC.seq (fun K13 hK13 => WC.block (WC.sr (WL.r 2 hs10 [] rfl ?_)))))
  refine WL.val rfl rfl rfl (Run.idxN Try.runUnderlying28 Try.sizeOf3 rfl rfl rfl ?_ ?_ ?_) ?_
  · exact SlF.some_ (SlF.ofOwn ho9 (hs10.ow L8))
  · first | omega | (simp only [List.length_set]; omega)
  · first | omega | (simp only [List.length_set]; omega)
  refine WL.val rfl rfl rfl (Run.load Try.isAgg3 rfl rfl (SlF.one1 (SlF.ofOwn ho9 (hs10.ow L8)) ?_ rfl)) ?_
  · first | omega | (simp only [List.length_set]; omega)
  refine WL.r 1 hs10 [] rfl (WL.nil (WC.sr (WL.r 2 hs10 [] rfl (WL.call rfl rfl rfl (Run.callC Try.call112 rfl rfl rfl) (hcl _ _ hs10 _) ?_))))
  rintro _ whs14 ⟨rfl, hs14⟩
  replace hs14 := hs10.call0 hs14
  refine ⟨_, rfl, WL.r 1 hs14 [] rfl (WL.nil (WC.cq rfl (fun h15 qh15 => ?_) (fun h15 qh15 => ?_)))⟩
  ·refine WC.sr (WL.r 3 hs14 [] rfl (WL.val rfl rfl rfl (Run.idxN Try.runUnderlying28 Try.sizeOf3 rfl rfl rfl ?_ ?_ ?_) ?_))
   · exact SlF.some_ (SlF.ofOwn ho9 (hs14.ow L8))
   · first | omega | (simp only [List.length_set]; omega)
   · first | omega | (simp only [List.length_set]; omega)
   refine WL.storeF1 (x' := _) hs14 ho9 Try.sizeOf3 rfl rfl rfl rfl rfl rfl rfl rfl rfl ?_ rfl (fun L16 whs17 hs17 ho18 _ => ?_)
   · first | omega | (simp only [List.length_set]; omega)
   refine WL.nil (WC.region (WL.r 3 hs17 [] rfl (WL.nil (hK13 _ _ (WC.region (WL.r 3 hs17 [] rfl (WL.nil ?_)))))))
   refine tkN (⟨sbF rfl, _, hs17, _, ?_, j + 1, (m + 1), _, rfl, ?_, ?_, ?_, ho18, ⟨rfl, ?_, ?_, trivial⟩⟩)
   · omega
   · omega
   · omega
   · first | exact p2.keep (by omega) (by omega) (by have h9 := h15; simpa using h9) | exact p2.skip (by omega) (by have h9 := h15; simpa using h9)
   · (refine congrArg some (congrArg (Value.int _) ?_); omega)
   · (refine congrArg some (congrArg (Value.int _) ?_); omega)
  refine WC.skip (hK13 _ _ (WC.region (WL.r 3 hs14 [] rfl (WL.nil (tkN ?_)))))
  refine ⟨sbF rfl, _, hs14, _, ?_, j + 1, m, _, rfl, ?_, ?_, ?_, ho9, ⟨rfl, ?_, ?_, trivial⟩⟩
  · omega
  · omega
  · omega
  · first | exact p2.keep (by omega) (by omega) (by have h9 := h15; simpa using h9) | exact p2.skip (by omega) (by have h9 := h15; simpa using h9)
  · (refine congrArg some (congrArg (Value.int _) ?_); omega)
  · (refine congrArg some (congrArg (Value.int _) ?_); omega)
 refine WC.exit (hK5 _ _ (WC.sr (WL.r 2 hs10 [] rfl ?_)))
 have hc_ := OwnF.cap ho9
 refine WL.val rfl rfl rfl (Run.sliceL (m) Try.runUnderlying28 Try.sizeOf3 rfl rfl rfl ?_ ?_) ?_
 · first | rfl | (omega)
 · refine ⟨?_, ?_, ?_⟩ <;> (omega)
 have hmt : (zs.take m).length = m := by rw [List.length_take]; omega
 have hcz := OwnF.cap ho9
 refine WL.clearT (m := m) (q := s.length - m) hs10 (OwnF.take (k := m) ho9 (by omega)) Try.underlying28 Try.zeroValue3 rfl rfl rfl rfl rfl ?_ (fun L19 whs20 hs20 ho21 => ?_)
 · omega
 refine WL.nil (WC.sr (WL.r 2 hs20 [] rfl (WL.val rfl rfl rfl (Run.sliceH0 m Try.runUnderlying28 Try.sizeOf3 rfl rfl rfl ?_ ?_) ?_)))
 · omega
 · omega
 refine WL.r 1 hs20 [] rfl (WL.nil (WC.ret (retV1 rfl (resV.tmp rfl) (⟨_, _, _, _, _, rfl, (St.keep1 hs20), ho21, p2.all (by omega)⟩))))
theorem k42_ (A_b : Option Addr) (n_b c_b : Nat) (b : List UInt8) (w : World) (f_b : SlF encB w A_b n_b b) (hc : n_b ≤ c_b) (hn : n_b ≤ 549755813888) :
    Calls Try.prog 85 #[.slice A_b n_b c_b] w fun e w' => e = .returned (.bool (runeBeg b)) ∧ St w [] [] w' := by
 have hbl := f_b.len
 have hb0 : (gat encB b (Int.toNat 0)).toNat < 2 ^ 8 := (gat encB b 0).toNat_lt
 refine enter 47 Try.func85 rfl Try.ntmps85 rfl rfl ?_
 have hs1 := St.init w
 refine WC.r1 hs1 [] rfl (WC.seq (fun K2 hK2 => WC.r1 hs1 [] rfl (WC.block (WC.r1 hs1 [] rfl ?_))))
 refine WC.cD rfl (fun qh3 => ?_) (fun qh3 => ?_)
 ·refine WC.sr (WL.r 1 hs1 [] rfl (WL.val rfl rfl rfl (Run.idx Try.runUnderlying22 Try.sizeOf5 rfl rfl rfl ?_ ?_ ?_) ?_))
  · exact SlF.some_ (SlF.st0 f_b hs1)
  · omega
  · omega
  refine WL.val rfl rfl rfl (Run.load Try.isAgg5 rfl rfl (SlF.one1 (SlF.st0 f_b hs1) ?_ rfl)) ?_
  · omega
  refine WL.r 1 hs1 [] rfl (WL.cl Try.call33 rfl (k0_ _ _ _ _) ?_)
  rintro _ whs4 ⟨rfl, hs4⟩
  replace hs4 := hs1.call0 hs4
  refine ⟨_, rfl, WL.r 1 hs4 [] rfl (WL.nil (WC.ret (ibR (tkR ?_))))⟩
  clear hK2
  refine rtv rfl rfl hs4 ?_
  obtain ⟨x, rfl⟩ : ∃ x, b = [x] := List.length_eq_one_iff.1 (by omega)
  rfl
 refine WC.r1 hs1 [] rfl (WC.cD rfl (fun qh5 => ?_) (fun qh5 => ?_))
 ·have htl := tlV_bnd (l := b.drop 1) (by rw [List.length_drop]; omega)
  refine WC.sr (WL.r 1 hs1 [] rfl (WL.val rfl rfl rfl (Run.sliceL (1) Try.runUnderlying22 Try.sizeOf5 rfl rfl rfl ?_ ?_) ?_))
  · first | rfl | (omega)
  · refine ⟨?_, ?_, ?_⟩ <;> (omega)
  refine WL.cl Try.call123 rfl (k8_ _ _ _ _ _ (SlF.cutL (1) (SlF.st0 f_b hs1) (by refine ⟨?_, ?_, ?_⟩ <;> (omega))) ?_) ?_
  · first | assumption | rfl | omega
  rintro _ whs6 ⟨rfl, hs6⟩
  replace hs6 := hs1.call0 hs6
  refine ⟨_, rfl, WL.r 5 hs6 [] rfl (WL.nil (WC.sr (WL.r 1 hs6 [] rfl (WL.val rfl rfl rfl (Run.idx Try.runUnderlying22 Try.sizeOf5 rfl rfl rfl ?_ ?_ ?_) ?_))))⟩
  · exact SlF.some_ (SlF.st0 f_b hs6)
  · omega
  · omega
  refine WL.val rfl rfl rfl (Run.load Try.isAgg5 rfl rfl (SlF.one1 (SlF.st0 f_b hs6) ?_ rfl)) ?_
  · omega
  refine WL.r 7 hs6 [] rfl (WL.nil (WC.sr (WL.r 2 hs6 [] rfl ?_)))
  apply WL.gA 4 Acts.nil hs6 rfl
  ·intro g7 J8
   have qg7 := g7
   try simp only [bf, within_iff, within_not] at qg7
   refine WL.runA tbk 1 (Acts.nil.cons (j := 1) rfl g7) hs6 [] rfl trivial (WL.val (wantT rfl g7) rfl rfl (Run.idx Try.runUnderlying22 Try.sizeOf5 rfl rfl rfl ?_ ?_ ?_) ?_)
   · exact SlF.some_ (SlF.st0 f_b hs6)
   · omega
   · omega
   refine WL.val (wantT rfl g7) rfl rfl (Run.load Try.isAgg5 rfl rfl (SlF.one1 (SlF.st0 f_b hs6) ?_ rfl)) ?_
   · omega
   refine WL.runA tbk 1 (Acts.nil.cons (j := 1) rfl g7) hs6 [] rfl trivial (WL.eA 4 Acts.nil J8 hs6 g7 rfl rfl)
  intro _ hs9
  refine WL.r 1 hs9 [] rfl (WL.pA tbk 2 Acts.nil hs9 [] rfl rfl rfl rfl (fun g_ => trivial) (WL.r 1 hs9 [] rfl ?_))
  apply WL.gA 2 Acts.nil hs9 rfl
  ·intro g10 J11
   have qg10 := g10
   try simp only [bf, within_iff, within_not] at qg10
   refine WL.runA tbk 1 (Acts.nil.cons (j := 11) rfl g10) hs9 [] rfl trivial (WL.call (wantT rfl g10) rfl rfl (Run.call Try.call48 rfl rfl rfl) (k1_ _ _) ?_)
   rintro _ whs12 ⟨rfl, hs12⟩
   replace hs12 := hs9.call0 hs12
   refine ⟨_, rfl, WL.eA 2 Acts.nil J11 hs12 g10 rfl rfl⟩
  intro _ hs13
  refine WL.r 1 hs13 [] rfl (WL.nil (WC.ret (ibR (tkR ?_))))
  clear hK2
  refine retV1 rfl (resV.tmp rfl) (⟨congrArg Ending.returned (congrArg Value.bool (beg_two (by omega))), hs13.nil⟩)
 refine WC.skip (hK2 _ _ (WC.r1 hs1 [] rfl (WC.ret (rtv rfl rfl hs1 ?_))))
 have h9 : ¬ (b.length = 1 ∨ b.length = 2) := by omega
 rw [beg_len h9]
theorem k43_ (n : Int) (w : World) :
    Calls Try.prog 76 #[i64 n] w fun e w' => e = .returned (.bool (!within n 0 9999)) ∧ St w [] [] w' := by
 refine enter 6 Try.func76 rfl Try.ntmps76 rfl rfl ?_
 have hs1 := St.init w
 refine WC.r1 hs1 [] rfl (WC.sr (WL.r 1 hs1 [] rfl (WL.cl Try.call33 rfl (k0_ _ _ _ _) ?_)))
 rintro _ whs2 ⟨rfl, hs2⟩
 replace hs2 := hs1.call0 hs2
 refine ⟨_, rfl, WL.r 2 hs2 [] rfl (WL.nil (WC.ret (rtv rfl rfl hs2 ?_)))⟩
 rfl
theorem k44_ (A_s : Option Addr) (n_s c_s : Nat) (s : List Int) (w : World) (f_s : SlF encI w A_s n_s s) (hn : n_s ≤ 1099511627776) :
    Calls Try.prog 102 #[.slice A_s n_s c_s, .func (.func 76) #[] #[]] w fun e w' => e = .returned (.int .i64 (findI (fun n => !within n 0 9999) s)) ∧ St w [] [] w' := by
 refine enter 19 Try.func102 rfl Try.ntmps102 rfl rfl ?_
 have hs1 := St.init w
 refine WC.r1 hs1 [] rfl (WC.seq (fun K2 hK2 => WC.r1 hs1 [] rfl (WC.block ?_)))
 refine WC.lS [0, 1, 7] rfl hs1 (fun k_ f w' => ∃ (i : Nat), k_ = n_s - i ∧ (i ≤ n_s) ∧ (∀ j, j < i → (fun n => !within n 0 9999) (gat encI s j) = false) ∧ Sub [(8, .int .i64 i)] f) ((fun (i : Nat) => n_s - i) (0)) ?_ ?_
 ·refine ⟨0, rfl, ?_, ?_, ⟨rfl, trivial⟩⟩
  · exact Nat.zero_le _
  · exact fun j hj => absurd hj (by omega)
 clear hs1
 rintro _ f w ⟨i, rfl, p0, p1, hG⟩ hF hs3
 refine WC.sub _ (hG.app hF) ?_
 clear hG hF
 refine WC.r1 hs3 [] rfl (WC.seq (fun K4 hK4 => ?_))
 refine WC.cond rfl (fun h5 => ?_) (fun h5 => ?_)
 ·have qh5 := h5
  try simp only [decide_eq_true_eq, decide_eq_false_iff_not] at qh5
  refine WC.skip (hK4 _ _ (WC.seq (fun K6 hK6 => WC.block (WC.r1 hs3 [] rfl (WC.sr (WL.r 3 hs3 [] rfl ?_))))))
  refine WL.val rfl rfl rfl (Run.idxN Try.runUnderlying28 Try.sizeOf3 rfl rfl rfl ?_ ?_ ?_) ?_
  · exact SlF.some_ (SlF.st0 f_s hs3)
  · omega
  · omega
  refine WL.val rfl rfl rfl (Run.load Try.isAgg3 rfl rfl (SlF.one1 (SlF.st0 f_s hs3) ?_ rfl)) ?_
  · omega
  refine WL.cl Try.call76 rfl (k43_ _ _) ?_
  rintro _ whs7 ⟨rfl, hs7⟩
  replace hs7 := hs3.call0 hs7
  refine ⟨_, rfl, WL.nil (WC.cond rfl (fun h8 => ?_) (fun h8 => ?_))⟩
  ·have qh8 := h8
   try simp only [decide_eq_true_eq, decide_eq_false_iff_not] at qh8
   refine WC.r1 hs7 [] rfl (WC.ret (ibR (tkR (tkR (ibR (tkR ?_))))))
   clear hK6 hK2
   refine rtv rfl rfl hs7 ?_
   rw [findI_some (F := encI) (by rw [f_s.len]; omega) p1 h8]
  have qh8 := h8
  try simp only [decide_eq_true_eq, decide_eq_false_iff_not] at qh8
  refine WC.skip (hK6 _ _ (WC.region (WL.r 2 hs7 [] rfl (WL.nil (tkN ?_)))))
  refine ⟨sbF rfl, hs7, _, ?_, i + 1, rfl, ?_, ?_, ⟨rfl, trivial⟩⟩
  · omega
  · omega
  · intro j hj; rcases Nat.lt_or_ge j i with h_ | h_
    · exact p1 j h_
    · obtain rfl : j = i := by omega
      exact h8
 have qh5 := h5
 try simp only [decide_eq_true_eq, decide_eq_false_iff_not] at qh5
 refine WC.exit (hK2 _ _ (WC.r1 hs3 [] rfl (WC.ret (rtv rfl rfl hs3 ?_))))
 rw [findI_none (F := encI) (fun j hj => p1 j (by rw [f_s.len] at hj; omega))]
theorem k45_ (A_s : Option Addr) (n_s c_s : Nat) (s : List Int) (w : World) (f_s : SlF encI w A_s n_s s) (hn : n_s ≤ 549755813888) :
    Calls Try.prog 75 #[.slice A_s n_s c_s, .func (.func 76) #[] #[]] w fun e w' => e = .returned (.bool (decide (0 ≤ findI (fun n => !within n 0 9999) s))) ∧ St w [] [] w' := by
 refine enter 9 Try.func75 rfl Try.ntmps75 rfl rfl ?_
 have hs1 := St.init w
 refine WC.r1 hs1 [] rfl (WC.sr (WL.r 2 hs1 [] rfl (WL.cl Try.call102 rfl (k44_ _ _ _ _ _ (SlF.st0 f_s hs1) ?_) ?_)))
 · first | assumption | rfl | omega
 rintro _ whs2 ⟨rfl, hs2⟩
 replace hs2 := hs1.call0 hs2
 refine ⟨_, rfl, WL.r 2 hs2 [] rfl (WL.nil (WC.ret (rtv rfl rfl hs2 ?_)))⟩
 rfl
theorem k46_ (A_l : Option Addr) (n_l c_l : Nat) (l : List Int) (w : World) (f_l : SlF encI w A_l n_l l) (hn : n_l ≤ 549755813888) :
    Calls Try.prog 43 #[.slice A_l n_l c_l] w fun e w' => e = .returned (.bool (areArgs l)) ∧ St w [] [] w' := by
 refine enter 11 Try.func43 rfl Try.ntmps43 rfl rfl ?_
 have hs1 := St.init w
 refine WC.r1 hs1 [] rfl (WC.sr (WL.r 4 hs1 [] rfl ?_))
 apply WL.gA 3 Acts.nil hs1 rfl
 ·intro g2 J3
  have qg2 := g2
  try simp only [bf, within_iff, within_not] at qg2
  refine WL.runA tbk 1 (Acts.nil.cons (j := 3) rfl g2) hs1 [] rfl trivial (WL.call (wantT rfl g2) rfl rfl (Run.call Try.call75 rfl rfl rfl) (k45_ _ _ _ _ _ (SlF.st0 f_l hs1) ?_) ?_)
  · first | assumption | rfl | omega
  rintro _ whs4 ⟨rfl, hs4⟩
  replace hs4 := hs1.call0 hs4
  refine ⟨_, rfl, WL.runA tbk 1 (Acts.nil.cons (j := 3) rfl g2) hs4 [] rfl trivial (WL.eA 3 Acts.nil J3 hs4 g2 rfl rfl)⟩
 intro _ hs5
 refine WL.r 1 hs5 [] rfl (WL.nil (WC.ret (rtv rfl rfl hs5 ?_)))
 rw [all_find, ← f_l.len]; unfold areArgs; rw [show decide ((l.length : Int) ≤ 8) = decide (l.length ≤ 8) from by rw [decide_eq_decide]; omega]
theorem k47_ (p : VpR) (w : World) (f_p : okVpR 549755813888 w p) :
    Calls Try.prog 56 #[.agg #[i64 p.State, .bool p.Mark, .slice p.Args.A p.Args.n p.Args.c, .slice p.Part.A p.Part.n p.Part.c]] w fun e w' => e = .returned (.bool (vpOk p.dat)) ∧ St w [] [] w' := by
 have nb_p_Args := f_p.Args_n
 have nl_p_Args := f_p.Args.len
 have nb_p_Part := f_p.Part_n
 have nl_p_Part := f_p.Part.len
 have hal := f_p.Args.len
 have hpl := f_p.Part.len
 have e1 : decide ((p.Args.n : Int) = 0) = decide (p.dat.Args.length = 0) := by rw [decide_eq_decide]; show _ ↔ p.Args.xs.length = 0; omega
 have e2 : decide ((p.Part.n : Int) = 0) = decide (p.dat.Part.length = 0) := by rw [decide_eq_decide]; show _ ↔ p.Part.xs.length = 0; omega
 refine enter 56 Try.func56 rfl Try.ntmps56 rfl rfl ?_
 have hs1 := St.init w
 refine WC.sr (WL.bx hs1 rfl (fun b2 _ hs3 => WL.r 1 hs3 [] rfl (WL.nil (WC.seq (fun K4 hK4 => WC.r1 hs3 [0] rfl (WC.block (WC.r1 hs3 [] rfl ?_)))))))
 refine WC.cD rfl (fun qh5 => ?_) (fun qh5 => ?_)
 ·refine WC.sr (WL.r 4 hs3 [0] rfl (WL.pA tbk 4 Acts.nil hs3 [0] rfl rfl rfl rfl (fun g_ => ⟨rfl, trivial⟩) (WL.r 1 hs3 [] rfl ?_)))
  apply WL.gA 9 Acts.nil hs3 rfl
  ·intro g6 J7
   have qg6 := g6
   try simp only [bf, within_iff, within_not] at qg6
   refine WL.runA tbk 5 (Acts.nil.cons (j := 9) rfl g6) hs3 [0] rfl ⟨rfl, trivial⟩ ?_
   apply WL.gO 3 (Acts.nil.cons (j := 9) rfl g6) hs3 rfl
   ·intro g8 J9
    have qg8 := g8
    try simp only [bf, within_iff, within_not] at qg8
    refine WL.runA tbk 2 (Acts.nil.cons (j := 14) rfl g8) hs3 [0] rfl ⟨rfl, trivial⟩ (WL.call (wantF rfl g8) rfl rfl (Run.call Try.call85 rfl rfl rfl) (k42_ _ _ _ _ _ (SlF.st0 f_p.Part hs3) f_p.Part_c ?_) ?_)
    · first | assumption | rfl | omega
    rintro _ whs10 ⟨rfl, hs10⟩
    replace hs10 := hs3.call0 hs10
    refine ⟨_, rfl, WL.eO 3 (Acts.nil.cons (j := 9) rfl g6) J9 hs10 g8 rfl rfl⟩
   intro _ hs11
   exact WL.eA 6 Acts.nil J7 hs11 g6 rfl rfl
  intro _ hs12
  refine WL.r 1 hs12 [] rfl (WL.nil (WC.ret (ibR (tkR ?_))))
  clear hK4
  refine rtv rfl rfl hs12 ?_
  rw [e1, e2]; unfold vpOk; rw [if_pos (by show p.State = 0; omega)]; rfl
 refine WC.r1 hs3 [] rfl (WC.cD rfl (fun qh13 => ?_) (fun qh13 => ?_))
 ·refine WC.sr (WL.r 4 hs3 [0] rfl (WL.pA tbk 4 Acts.nil hs3 [0] rfl rfl rfl rfl (fun g_ => ⟨rfl, trivial⟩) (WL.r 1 hs3 [] rfl (WL.pA tbk 4 Acts.nil hs3 [0] rfl rfl rfl rfl (fun g_ => ⟨rfl, trivial⟩) (WL.r 1 hs3 [] rfl (WL.nil (WC.ret ?_)))))))
  refine ibR (tkR ?_)
  clear hK4
  refine rtv rfl rfl hs3 ?_
  rw [e1, e2]; unfold vpOk; rw [if_neg (by show ¬ p.State = 0; omega), if_pos (by show p.State = 1; omega)]; rfl
 refine WC.seq (fun K14 hK14 => WC.r1 hs3 [] rfl ?_)
 refine WC.cD rfl (fun qh15 => ?_) (fun qh15 => ?_)
 ·refine WC.skip (hK14 _ _ (WC.condT rfl (decide_eq_true qh15) (WC.sr (WL.r 2 hs3 [0] rfl ?_))))
  refine WL.cl Try.call43 rfl (k46_ _ _ _ _ _ (SlF.st0 f_p.Args hs3) ?_) ?_
  · first | assumption | rfl | omega
  rintro _ whs17 ⟨rfl, hs17⟩
  replace hs17 := hs3.call0 hs17
  refine ⟨_, rfl, WL.r 1 hs17 [] rfl (WL.pA tbk 4 Acts.nil hs17 [0] rfl rfl rfl rfl (fun g_ => ⟨rfl, trivial⟩) (WL.r 1 hs17 [] rfl (WL.nil (WC.ret (ibR (tkR ?_))))))⟩
  clear hK4
  refine rtv rfl rfl hs17 ?_
  rw [vpOk_csi (.inl (by show p.State = 2; omega)), e2]; rfl
 refine WC.region (WL.r 2 hs3 [] rfl (WL.nil (hK14 _ _ ?_)))
 refine WC.cD rfl (fun qh18 => ?_) (fun qh18 => ?_)
 ·refine WC.sr (WL.r 2 hs3 [0] rfl (WL.cl Try.call43 rfl (k46_ _ _ _ _ _ (SlF.st0 f_p.Args hs3) ?_) ?_))
  · first | assumption | rfl | omega
  rintro _ whs19 ⟨rfl, hs19⟩
  replace hs19 := hs3.call0 hs19
  refine ⟨_, rfl, WL.r 1 hs19 [] rfl (WL.pA tbk 4 Acts.nil hs19 [0] rfl rfl rfl rfl (fun g_ => ⟨rfl, trivial⟩) (WL.r 1 hs19 [] rfl (WL.nil (WC.ret (ibR (tkR ?_))))))⟩
  clear hK4
  refine rtv rfl rfl hs19 ?_
  rw [vpOk_csi (.inr (by show p.State = 3; omega)), e2]; rfl
 refine WC.skip (hK4 _ _ (WC.r1 hs3 [] rfl (WC.ret (rtv rfl rfl hs3 ?_))))
 unfold vpOk; rw [if_neg (by show ¬ p.State = 0; omega), if_neg (by show ¬ p.State = 1; omega), if_neg (by show ¬ (p.State = 2 ∨ p.State = 3); omega)]
theorem k48_ (A_l : Option Addr) (n_l c_l : Nat) (l : List Int) (d : Int) (w : World) (f_l : SlF encI w A_l n_l l) (hn : n_l ≤ 549755813888) :
    Calls Try.prog 103 #[.slice A_l n_l c_l, i64 0, i64 d] w fun e w' => e = .returned (i64 (argI l 0 d)) ∧ St w [] [] w' := by
 have hl := f_l.len
 refine enter 23 Try.func103 rfl Try.ntmps103 rfl rfl ?_
 have hs1 := St.init w
 refine WC.r1 hs1 [] rfl (WC.seq (fun K2 hK2 => WC.sr (WL.r 5 hs1 [] rfl ?_)))
 apply WL.gA 5 Acts.nil hs1 rfl
 ·intro g3 J4
  have qg3 := g3
  try simp only [bf, within_iff, within_not] at qg3
  refine WL.runA tbk 2 (Acts.nil.cons (j := 4) rfl g3) hs1 [] rfl trivial (WL.val (wantT rfl g3) rfl rfl (Run.idx Try.runUnderlying28 Try.sizeOf3 rfl rfl rfl ?_ ?_ ?_) ?_)
  · exact SlF.some_ (SlF.st0 f_l hs1)
  · omega
  · omega
  refine WL.val (wantT rfl g3) rfl rfl (Run.load Try.isAgg3 rfl rfl (SlF.one1 (SlF.st0 f_l hs1) ?_ rfl)) ?_
  · omega
  refine WL.runA tbk 1 (Acts.nil.cons (j := 4) rfl g3) hs1 [] rfl trivial (WL.eA 5 Acts.nil J4 hs1 g3 rfl rfl)
 intro _ hs5
 refine WL.nil (WC.cq rfl (fun h6 qh6 => ?_) (fun h6 qh6 => ?_))
 ·have hp : 0 < l.length ∧ iat l 0 ≠ 0 := by have h9 := h6; simp at h9; exact ⟨by omega, h9.2⟩
  refine WC.sr (WL.r 2 hs5 [] rfl (WL.val rfl rfl rfl (Run.idx Try.runUnderlying28 Try.sizeOf3 rfl rfl rfl ?_ ?_ ?_) ?_))
  · exact SlF.some_ (SlF.st0 f_l hs5)
  · omega
  · omega
  refine WL.val rfl rfl rfl (Run.load Try.isAgg3 rfl rfl (SlF.one1 (SlF.st0 f_l hs5) ?_ rfl)) ?_
  · omega
  refine WL.r 1 hs5 [] rfl (WL.nil (WC.ret (tkR ?_)))
  clear hK2
  refine rtv rfl rfl hs5 ?_
  rw [show argI l 0 d = iat l 0 from by unfold argI; rw [if_pos hp]]; rfl
 have hp : ¬ (0 < l.length ∧ iat l 0 ≠ 0) := by rintro ⟨h7, h8⟩; have h9 := h6; simp at h9; exact h8 (h9 (by omega))
 refine WC.skip (hK2 _ _ (WC.r1 hs5 [] rfl (WC.ret (rtv rfl rfl hs5 ?_))))
 rw [show argI l 0 d = d from by unfold argI; rw [if_neg hp]]
theorem k49_ (A_l : Option Addr) (n_l c_l : Nat) (l : List Int) (d : Int) (w : World) (f_l : SlF encI w A_l n_l l) (hn : n_l ≤ 549755813888) :
    Calls Try.prog 103 #[.slice A_l n_l c_l, i64 1, i64 d] w fun e w' => e = .returned (i64 (argI l 1 d)) ∧ St w [] [] w' := by
 have hl := f_l.len
 refine enter 23 Try.func103 rfl Try.ntmps103 rfl rfl ?_
 have hs1 := St.init w
 refine WC.r1 hs1 [] rfl (WC.seq (fun K2 hK2 => WC.sr (WL.r 5 hs1 [] rfl ?_)))
 apply WL.gA 5 Acts.nil hs1 rfl
 ·intro g3 J4
  have qg3 := g3
  try simp only [bf, within_iff, within_not] at qg3
  refine WL.runA tbk 2 (Acts.nil.cons (j := 4) rfl g3) hs1 [] rfl trivial (WL.val (wantT rfl g3) rfl rfl (Run.idx Try.runUnderlying28 Try.sizeOf3 rfl rfl rfl ?_ ?_ ?_) ?_)
  · exact SlF.some_ (SlF.st0 f_l hs1)
  · omega
  · omega
  refine WL.val (wantT rfl g3) rfl rfl (Run.load Try.isAgg3 rfl rfl (SlF.one1 (SlF.st0 f_l hs1) ?_ rfl)) ?_
  · omega
  refine WL.runA tbk 1 (Acts.nil.cons (j := 4) rfl g3) hs1 [] rfl trivial (WL.eA 5 Acts.nil J4 hs1 g3 rfl rfl)
 intro _ hs5
 refine WL.nil (WC.cq rfl (fun h6 qh6 => ?_) (fun h6 qh6 => ?_))
 ·have hp : 1 < l.length ∧ iat l 1 ≠ 0 := by have h9 := h6; simp at h9; exact ⟨by omega, h9.2⟩
  refine WC.sr (WL.r 2 hs5 [] rfl (WL.val rfl rfl rfl (Run.idx Try.runUnderlying28 Try.sizeOf3 rfl rfl rfl ?_ ?_ ?_) ?_))
  · exact SlF.some_ (SlF.st0 f_l hs5)
  · omega
  · omega
  refine WL.val rfl rfl rfl (Run.load Try.isAgg3 rfl rfl (SlF.one1 (SlF.st0 f_l hs5) ?_ rfl)) ?_
  · omega
  refine WL.r 1 hs5 [] rfl (WL.nil (WC.ret (tkR ?_)))
  clear hK2
  refine rtv rfl rfl hs5 ?_
  rw [show argI l 1 d = iat l 1 from by unfold argI; rw [if_pos hp]]; rfl
 have hp : ¬ (1 < l.length ∧ iat l 1 ≠ 0) := by rintro ⟨h7, h8⟩; have h9 := h6; simp at h9; exact h8 (h9 (by omega))
 refine WC.skip (hK2 _ _ (WC.r1 hs5 [] rfl (WC.ret (rtv rfl rfl hs5 ?_))))
 rw [show argI l 1 d = d from by unfold argI; rw [if_neg hp]]
theorem k50_ (g : GridR) (x : Int) (y : Int) (n : Int) (w : World) (f_g : okGridR 549755813888 w g) (hg : gridOk g.dat = true) (hx : 0 ≤ x ∧ x < g.W) (hy : 0 ≤ y ∧ y < g.H) (hn : -100000 ≤ n ∧ n ≤ 100000) :
    Calls Try.prog 107 #[.agg #[i64 g.W, i64 g.H, .slice g.Cells.A g.Cells.n g.Cells.c], i64 x, i64 y, i64 n] w fun e w' => ∃ r L1, e = .returned (.agg #[i64 r.W, i64 r.H, .slice r.Cells.A r.Cells.n r.Cells.c]) ∧ St w [] L1 w' ∧ ownGridR r L1 ∧ r.dat = gShift g.dat x y n := by
 have nb_g_Cells := f_g.Cells_n
 have nl_g_Cells := f_g.Cells.len
 have hgb : (1 ≤ g.W ∧ g.W ≤ 120) ∧ (1 ≤ g.H ∧ g.H ≤ 120) ∧ 1 ≤ g.W * g.H ∧ g.W * g.H ≤ 4000 := gridOk_bnd hg
 have hgl : (g.Cells.xs.length : Int) = g.W * g.H := grid_len hg
 have hsmg : smGrid 1048576 g.dat := by show g.Cells.xs.length ≤ 1048576; omega
 have hsmgB : smGrid 549755813888 g.dat := Nat.le_trans hsmg (by decide)
 have hv0 : 0 ≤ y * g.W := Int.mul_nonneg (by omega) (by omega)
 have hv1 : (y + 1) * g.W = y * g.W + g.W := by rw [Int.add_mul, Int.one_mul]
 have hv2 : (y + 1) * g.W ≤ g.H * g.W := Int.mul_le_mul_of_nonneg_right (by omega) (by omega)
 rw [Int.mul_comm g.H g.W] at hv2
 have hlo2 : (y * g.W).toNat = y.toNat * g.W.toNat := Int.toNat_mul (by omega) (by omega)
 have hnz : ((y.toNat * g.W.toNat : Nat) : Int) = y * g.W := by rw [← hlo2]; omega
 have hhas : gridHas g.dat x y = true := by unfold gridHas; rw [Bool.and_eq_true, within_iff, within_iff]; show (0 ≤ x ∧ x ≤ g.W - 1) ∧ 0 ≤ y ∧ y ≤ g.H - 1; omega
 refine enter 63 Try.func107 rfl Try.ntmps107 rfl rfl ?_
 have hs1 := St.init w
 refine WC.sr (WL.bx hs1 rfl (fun b2 _ hs3 => WL.al hs3 Try.zeroValue25 rfl rfl (fun b4 _ hs5 => WL.nil (WC.seq (fun K6 hK6 => WC.sr (WL.r 1 hs5 [1] rfl (WL.cl Try.call29 rfl (k22_ g _ (okGridR.st0 f_g hs5)) ?_)))))))
 rintro _ whs7 ⟨rfl, hs7⟩
 replace hs7 := hs5.call0 hs7
 refine ⟨_, rfl, WL.r 2 hs7 [] rfl ?_⟩
 apply WL.gO 5 Acts.nil hs7 rfl
 ·intro g8 J9
  have qg8 := g8
  try simp only [bf, within_iff, within_not] at qg8
  refine WL.runA tbk 3 (Acts.nil.cons (j := 3) rfl g8) hs7 [1] rfl ⟨rfl, trivial⟩ (WL.call (wantF rfl g8) rfl rfl (Run.call Try.call30 rfl rfl rfl) (k23_ g _ _ _ (okGridR.st0 f_g hs7) ?_ ?_) ?_)
  iterate 2 first | assumption | rfl | omega | (exact Nat.le_trans hsmg (by decide))
  rintro _ whs10 ⟨rfl, hs10⟩
  replace hs10 := hs7.call0 hs10
  refine ⟨_, rfl, WL.runA tbk 1 (Acts.nil.cons (j := 3) rfl g8) hs10 [] rfl trivial (WL.eO 5 Acts.nil J9 hs10 g8 rfl rfl)⟩
 intro _ hs11
 refine WL.nil (WC.cq rfl (fun h12 qh12 => ?_) (fun h12 qh12 => ?_))
 ·exfalso; have h9 := h12; simp [hg, hhas] at h9
 refine WC.skip (hK6 _ _ (WC.sr (WL.r 1 hs11 [1] rfl ?_)))
 refine WL.cl Try.call36 rfl (k31_ g _ (okGridR.st0 f_g hs11) ?_) ?_
 · first | assumption | rfl | omega | (exact Nat.le_trans hsmg (by decide))
 rintro _ whs13 ⟨r14, L1_15, rfl, hs13, ho16, hd17⟩
 replace hs13 := hs11.callF hs13
 refine ⟨_, rfl, ?_⟩
 replace hs13 := St.back [_, _] hs13
 have hrW : r14.W = g.W := congrArg GridD.W hd17
 have hrH : r14.H = g.H := congrArg GridD.H hd17
 have hrC : r14.Cells.xs = g.Cells.xs := congrArg GridD.Cells hd17
 have hrn := ownGridR.len ‹ownGridR r14 _›
 have hrc := OwnF.cap ‹ownGridR r14 _›
 have hz0 : y * r14.W = y * g.W := by rw [hrW]
 have hz1 : (y + 1) * r14.W = (y + 1) * g.W := by rw [hrW]
 have hrl : r14.Cells.xs.length = g.Cells.xs.length := congrArg List.length hrC
 have hlr := f_g.Cells.len
 have hcg := f_g.Cells_c
 refine WL.al hs13 Try.zeroValue25 rfl rfl (fun b18 _ hs19 => WL.st tbk hs19 0 rfl rfl (fun _ hs20 => WL.nil (WC.sr (WL.r 2 hs20 [0] rfl ?_))))
 refine WL.cl Try.call79 rfl (k33_ r14 _ _ (ownGridR.ok (B := 549755813888) ho16 (hs20.ow L1_15) (by rw [hd17]; assumption)) ?_ ?_ ?_ ?_) ?_
 iterate 4 first | assumption | rfl | omega | (exact Nat.le_trans hsmg (by decide))
 rintro _ whs21 ⟨rfl, hs21⟩
 replace hs21 := hs20.call0 hs21
 refine ⟨_, rfl, WL.r 1 hs21 [] rfl (WL.nil (WC.seq (fun K22 hK22 => WC.r1 hs21 [] rfl (WC.block ?_))))⟩
 refine WC.lO [1, 2, 3, 4, 8, 9, 10, 22] rfl (hs21.fr L1_15) (fun k_ f L_ => ∃ (a : Nat) (zs : List CellD), k_ = (g.W - x).toNat - a ∧ ((a : Int) ≤ g.W - x) ∧ (zs.length = g.Cells.xs.length) ∧ (∀ k, k < g.Cells.xs.length → cat zs k = partF g.dat (shiftF g.dat x y n) (y.toNat * g.dat.W.toNat + x.toNat) a k) ∧ OwnF encCell 58 (.slice r14.Cells.A (r14.Cells.n) r14.Cells.c) (zs) L_ ∧ Sub [(11, .int .i64 (x + a))] f) (((fun (a : Nat) (zs : List CellD) => (g.W - x).toNat - a) (0) (r14.Cells.xs))) ?_ ?_
 ·refine ⟨0, r14.Cells.xs, rfl, ?_, ?_, ?_, ho16, ⟨?_, trivial⟩⟩
  · omega
  · exact hrl
  · intro k hk; rw [partF_zero, hrC]; rfl
  · (refine congrArg some (congrArg (Value.int _) ?_); omega)
 clear hs21
 rintro _ f w L25 ⟨a, zs, rfl, p0, p1, p2, ho26, hG⟩ hF hs27
 refine WC.sub _ (hG.app hF) ?_
 clear hG hF
 replace hs27 := St.back [_, _, _] hs27
 refine WC.seq (fun K28 hK28 => WC.r1 hs27 [2] rfl ?_)
 refine WC.cq rfl (fun h29 qh29 => ?_) (fun h29 qh29 => ?_)
 ·refine WC.skip (hK28 _ _ (WC.seq (fun K30 hK30 => WC.block (WC.sr (WL.r 2 hs27 [] rfl (WL.cl Try.call96 rfl (k15_ _) ?_))))))
  rintro _ whs31 ⟨rfl, hs31⟩
  replace hs31 := hs27.call0 hs31
  refine ⟨_, rfl, WL.val rfl rfl rfl (Run.idx Try.runUnderlying23 Try.sizeOf58 rfl rfl rfl ?_ ?_ ?_) ?_⟩
  · exact SlF.some_ (SlF.cutC (lo := (y * r14.W).toNat) (hi := ((y + 1) * r14.W).toNat) (SlF.ofOwn ho26 (hs31.ow L25)) (by refine ⟨?_, ?_, ?_⟩ <;> (omega)))
  · first | omega | (simp only [List.length_set]; omega)
  · first | omega | (simp only [List.length_set]; omega)
  refine WL.storeC (x' := blankC) (lo := (y * r14.W).toNat) (hs31.fr L25) ho26 Try.sizeOf58 rfl rfl rfl rfl rfl rfl rfl rfl rfl ?_ rfl (fun L32 whs33 hs33 ho34 _ => ?_)
  · first | omega | (simp only [List.length_set]; omega)
  replace hs33 := St.back [_, _, _] hs33
  refine WL.nil (WC.r1 hs33 [] rfl (WC.sr (WL.r 1 hs33 [] rfl (WL.cl Try.call33 rfl (k0_ _ _ _ _) ?_))))
  rintro _ whs35 ⟨rfl, hs35⟩
  replace hs35 := hs33.call0 hs35
  refine ⟨_, rfl, WL.r 1 hs35 [] rfl ?_⟩
  apply WL.gA 6 Acts.nil hs35 rfl
  ·intro g36 J37
   have qg36 := g36
   try simp only [bf, within_iff, within_not] at qg36
   refine WL.runA tbk 5 (Acts.nil.cons (j := 2) rfl g36) hs35 [2] rfl ⟨by omega, rfl, trivial⟩ (WL.call (wantT rfl g36) rfl rfl (Run.call Try.call33 rfl rfl rfl) (k0_ _ _ _ _) ?_)
   rintro _ whs38 ⟨rfl, hs38⟩
   replace hs38 := hs35.call0 hs38
   refine ⟨_, rfl, WL.eA 6 Acts.nil J37 hs38 g36 rfl rfl⟩
  intro _ hs39
  refine WL.nil (WC.cq rfl (fun h40 qh40 => ?_) (fun h40 qh40 => ?_))
  ·have hin : x ≤ x + (a : Int) - n ∧ x + (a : Int) - n < g.dat.W := by show x ≤ x + (a : Int) - n ∧ x + (a : Int) - n < g.W; have h9 := h40; simp only [Bool.and_eq_true, within_iff] at h9; omega
   refine WC.region (WL.r 4 hs39 [2] rfl (WL.cl Try.call79 rfl (k33_ g _ _ (okGridR.st0 f_g hs39) ?_ ?_ ?_ ?_) ?_))
   iterate 4 first | assumption | rfl | omega | (exact Nat.le_trans hsmg (by decide))
   rintro _ whs41 ⟨rfl, hs41⟩
   replace hs41 := hs39.call0 hs41
   refine ⟨_, rfl, WL.r 1 hs41 [] rfl (WL.val rfl rfl rfl (Run.idx Try.runUnderlying23 Try.sizeOf58 rfl rfl rfl ?_ ?_ ?_) ?_)⟩
   · exact SlF.some_ (SlF.cutC (lo := (y * g.W).toNat) (hi := ((y + 1) * g.W).toNat) (SlF.st0 f_g.Cells hs41) (by refine ⟨?_, ?_, ?_⟩ <;> (omega)))
   · first | omega | (simp only [List.length_set]; omega)
   · first | omega | (simp only [List.length_set]; omega)
   refine WL.val rfl rfl rfl (Run.loadA Try.isAgg58 Try.sizeOf58 rfl rfl (SlF.whole (SlF.cutC (lo := (y * g.W).toNat) (hi := ((y + 1) * g.W).toNat) (SlF.st0 f_g.Cells hs41) (by refine ⟨?_, ?_, ?_⟩ <;> (omega))) ?_)) ?_
   · first | omega | (simp only [List.length_set]; omega)
   refine WL.val rfl rfl rfl (Run.idx Try.runUnderlying23 Try.sizeOf58 rfl rfl rfl ?_ ?_ ?_) ?_
   · exact SlF.some_ (SlF.cutC (lo := (y * r14.W).toNat) (hi := ((y + 1) * r14.W).toNat) (SlF.ofOwn ho34 (hs41.ow L32)) (by refine ⟨?_, ?_, ?_⟩ <;> (omega)))
   · first | omega | (simp only [List.length_set]; omega)
   · first | omega | (simp only [List.length_set]; omega)
   refine WL.storeC (x' := _) (lo := (y * r14.W).toNat) (hs41.fr L32) ho34 Try.sizeOf58 rfl rfl rfl rfl rfl rfl rfl rfl rfl ?_ rfl (fun L42 whs43 hs43 ho44 _ => ?_)
   · first | omega | (simp only [List.length_set]; omega)
   replace hs43 := St.back [_, _, _] hs43
   refine WL.nil (hK30 _ _ (WC.region (WL.r 3 hs43 [] rfl (WL.nil (tkN ?_)))))
   refine ⟨sbF rfl, _, (hs43.fr L42), _, ?_, a + 1, _, rfl, ?_, ?_, ?_, ho44, ⟨?_, trivial⟩⟩
   · omega
   · omega
   · simp only [List.length_set]; exact p1
   · intro k hk; first | (rw [List.set_set]; exact part_next (g := g.dat) (by rw [hz0, hlo2]; show _ = y.toNat * g.W.toNat + x.toNat + a; omega) (by rw [hz0]; omega) (by rw [shiftF_at (g := g.dat) hx.1 hy.1 (by show x + (a : Int) < g.W; omega), if_pos hin, gat_cut (by omega), hlo2]; rfl) (p2 k hk)) | exact part_next (g := g.dat) (by rw [hz0, hlo2]; show _ = y.toNat * g.W.toNat + x.toNat + a; omega) (by rw [hz0]; omega) (by rw [shiftF_at (g := g.dat) hx.1 hy.1 (by show x + (a : Int) < g.W; omega), if_neg hout]) (p2 k hk)
   · (refine congrArg some (congrArg (Value.int _) ?_); omega)
  have hout : ¬ (x ≤ x + (a : Int) - n ∧ x + (a : Int) - n < g.dat.W) := by show ¬ (x ≤ x + (a : Int) - n ∧ x + (a : Int) - n < g.W); intro h8; have h9 := h40; simp [within] at h9; omega
  refine WC.skip (hK30 _ _ (WC.region (WL.r 3 hs39 [] rfl (WL.nil (tkN ?_)))))
  refine ⟨sbF rfl, _, (hs39.fr L32), _, ?_, a + 1, _, rfl, ?_, ?_, ?_, ho34, ⟨?_, trivial⟩⟩
  · omega
  · omega
  · simp only [List.length_set]; exact p1
  · intro k hk; first | (rw [List.set_set]; exact part_next (g := g.dat) (by rw [hz0, hlo2]; show _ = y.toNat * g.W.toNat + x.toNat + a; omega) (by rw [hz0]; omega) (by rw [shiftF_at (g := g.dat) hx.1 hy.1 (by show x + (a : Int) < g.W; omega), if_pos hin, gat_cut (by omega), hlo2]; rfl) (p2 k hk)) | exact part_next (g := g.dat) (by rw [hz0, hlo2]; show _ = y.toNat * g.W.toNat + x.toNat + a; omega) (by rw [hz0]; omega) (by rw [shiftF_at (g := g.dat) hx.1 hy.1 (by show x + (a : Int) < g.W; omega), if_neg hout]) (p2 k hk)
  · (refine congrArg some (congrArg (Value.int _) ?_); omega)
 refine WC.exit (hK22 _ _ (WC.sr (WL.r 1 hs27 [0] rfl (WL.st tbk hs27 1 rfl rfl (fun _ hs45 => WL.nil (WC.ret (retV1 rfl (resV.cellA tbk hs45 1 rfl rfl rfl rfl) ?_)))))))
 refine ⟨⟨r14.W, r14.H, SlD.of ho26⟩, _, rfl, (St.keep1 (hs45.fr L25)), ?_, ?_⟩
 · exact ho26
 · exact shift_done (g := g.dat) (m := n) hx hy.1 (by show (a : Int) = g.W - x; omega) hrW hrH p1 (.inl rfl) p2
end Go.Proofs.Ytjmegoiclgancaa
