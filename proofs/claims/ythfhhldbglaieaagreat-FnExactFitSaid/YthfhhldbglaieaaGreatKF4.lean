/-
  What the proof stands on, part 4.
-/
import Derived.Test.YthfhhldbglaieaaGreatKF3
namespace Go.Proofs.YthfhhldbglaieaaGreat
open Go Go.RowKit
set_option linter.unusedVariables false
set_option linter.unusedSimpArgs false
theorem k68_ (n_Pane : Int) (n_Down : Bool) (n_First : Int) (w : World) :
    Calls Tryz.prog 168 #[.agg #[i64 n_Pane, .bool n_Down, i64 n_First]] w fun e w' => e = .returned (.bool (!decide (n_Pane = 0))) ∧ St w [] [] w' := by
 refine enter 6 Tryz.func168 rfl Tryz.ntmps168 rfl rfl ?_
 have hs1 := St.init w
 refine WC.sr (WL.bx hs1 rfl (fun b2 _ hs3 => WL.r 1 hs3 [] rfl (WL.nil (WC.r1 hs3 [0] rfl (WC.ret (rtv rfl rfl hs3 ?_))))))
 first | rfl | simp
theorem k69_ (m_ : Nat) : ∀ (A_t : Option Addr) (n_t c_t : Nat) (t : List NodeD) (at_ : Int) (w : World) (f_t : SlF encNode w A_t n_t t) (hn : n_t ≤ 268435456) (hm_ : (if at_ < 0 then 0 else ((n_t : Int) - at_).toNat) = m_), Calls Tryz.prog 165 #[.slice A_t n_t c_t, i64 at_] w fun e w' => e = .returned (.int .i64 (endI t at_)) ∧ St w [] [] w' := by
 induction m_ using Nat.strongRecOn with
 | ind m_ IH =>
  intro A_t n_t c_t t at_ w f_t hn hm_
  have hl := f_t.len
  have hr := @endI_range t (at_ + 1)
  refine enter 47 Tryz.func165 rfl Tryz.ntmps165 rfl rfl ?_
  have hs1 := St.init w
  refine WC.r1 hs1 [] rfl (WC.seq (fun K2 hK2 => WC.sr (WL.r 3 hs1 [] rfl (WL.pO tbk 4 Acts.nil hs1 [] rfl rfl rfl rfl (fun g_ => trivial) (WL.nil ?_)))))
  refine WC.cq rfl (fun h3 qh3 => ?_) (fun h3 qh3 => ?_)
  ·refine WC.r1 hs1 [] rfl (WC.ret (tkR ?_))
   clear hK2
   refine rtv rfl rfl hs1 ?_
   rw [endI_out (by (try simp at qh3); omega)]
  obtain ⟨i, rfl⟩ : ∃ i : Nat, at_ = (i : Int) := ⟨at_.toNat, by omega⟩
  have hi : i < t.length := by omega
  rw [if_neg (by omega)] at hm_
  refine WC.skip (hK2 _ _ (WC.seq (fun K4 hK4 => WC.sr (WL.r 2 hs1 [] rfl ?_))))
  refine WL.val rfl rfl rfl (Run.idxK (i) Tryz.runUnderlying56 Tryz.sizeOf103 rfl rfl rfl ?_ ?_ ?_) ?_
  · exact SlF.some_ (SlF.st0 f_t hs1)
  · omega
  · omega
  refine WL.val rfl rfl rfl (Run.loadA Tryz.isAgg103 Tryz.sizeOf103 rfl rfl (SlF.whole (SlF.st0 f_t hs1) ?_)) ?_
  · omega
  refine WL.al hs1 Tryz.zeroValue103 rfl rfl (fun b5 _ hs6 => WL.st tbk hs6 0 rfl rfl (fun _ hs7 => WL.nil (WC.block (WC.sr (WL.r 1 hs7 [0] rfl (WL.cl Tryz.call168 rfl (k68_ _ _ _ _) ?_))))))
  rintro _ whs8 ⟨rfl, hs8⟩
  replace hs8 := hs7.call0 hs8
  refine ⟨_, rfl, WL.r 1 hs8 [] rfl (WL.nil (WC.cq rfl (fun h9 qh9 => ?_) (fun h9 qh9 => ?_)))⟩
  ·have hp : (gat encNode t i).Pane ≠ 0 := by simpa using qh9
   refine WC.seq (fun K10 hK10 => WC.sr (WL.r 2 hs8 [0] rfl (WL.cl Tryz.call59 rfl (k1_ _ _) ?_)))
   rintro _ whs11 ⟨rfl, hs11⟩
   replace hs11 := hs8.call0 hs11
   refine ⟨_, rfl, WL.r 2 hs11 [] rfl (WL.pO tbk 2 Acts.nil hs11 [0] rfl rfl rfl rfl (fun g_ => ⟨rfl, trivial⟩) (WL.r 1 hs11 [] rfl (WL.pO tbk 3 Acts.nil hs11 [0] rfl rfl rfl rfl (fun g_ => ⟨rfl, trivial⟩) (WL.nil (WC.cq rfl (fun h12 qh12 => ?_) (fun h12 qh12 => ?_))))))⟩
   ·refine WC.r1 hs11 [] rfl (WC.ret (tkR (ibR (tkR ?_))))
    clear hK10 hK4
    refine rtv rfl rfl hs11 ?_
    rw [endI_leaf hi hp, if_neg (by simp [leafOk]; simp at qh12; grind)]
   refine WC.skip (hK10 _ _ (WC.r1 hs11 [] rfl (WC.ret (ibR (tkR ?_)))))
   clear hK4
   refine rtv rfl rfl hs11 ?_
   rw [endI_leaf hi hp, if_pos (by simp [leafOk]; (try simp at qh12); grind)]
  have hp : (gat encNode t i).Pane = 0 := by simpa using qh9
  refine WC.sr (WL.r 2 hs8 [0] rfl (WL.cl Tryz.call58 rfl (k0_ _ _ _ _) ?_))
  rintro _ whs13 ⟨rfl, hs13⟩
  replace hs13 := hs8.call0 hs13
  refine ⟨_, rfl, WL.r 2 hs13 [] rfl (WL.nil (WC.cq rfl (fun h14 qh14 => ?_) (fun h14 qh14 => ?_)))⟩
  ·refine WC.r1 hs13 [] rfl (WC.ret (ibR (tkR ?_)))
   clear hK4
   refine rtv rfl rfl hs13 ?_
   rw [endI_bad hi hp (within_not.2 qh14)]
  refine WC.skip (hK4 _ _ (WC.sr (WL.r 4 hs13 [] rfl ?_)))
  refine WL.cl Tryz.call165 rfl (IH _ ?_ _ _ _ _ _ _ (SlF.st0 f_t hs13) ?_ rfl) ?_
  · (rw [← hm_]; (repeat' split) <;> omega)
  · exact hn
  rintro _ whs15 ⟨rfl, hs15⟩
  replace hs15 := hs13.call0 hs15
  refine ⟨_, rfl, WL.cl Tryz.call165 rfl (IH _ ?_ _ _ _ _ _ _ (SlF.st0 f_t hs15) ?_ rfl) ?_⟩
  · (rw [← hm_]; (repeat' split) <;> omega)
  · exact hn
  rintro _ whs16 ⟨rfl, hs16⟩
  replace hs16 := hs15.call0 hs16
  refine ⟨_, rfl, WL.r 1 hs16 [] rfl (WL.nil (WC.ret (rtv rfl rfl hs16 ?_)))⟩
  rw [endI_split hi hp (within_iff.2 qh14)]
theorem k70_ (A_t : Option Addr) (n_t c_t : Nat) (t : List NodeD) (at_ : Int) (w : World) (f_t : SlF encNode w A_t n_t t) (hn : n_t ≤ 268435456) :
    Calls Tryz.prog 165 #[.slice A_t n_t c_t, i64 at_] w fun e w' => e = .returned (.int .i64 (endI t at_)) ∧ St w [] [] w' := k69_ _ A_t n_t c_t t at_ w f_t hn rfl
theorem k71_ (A_t : Option Addr) (n_t c_t : Nat) (t : List NodeD) (w : World) (f_t : SlF encNode w A_t n_t t) (hn : n_t ≤ 268435456) :
    Calls Tryz.prog 107 #[.slice A_t n_t c_t] w fun e w' => ∃ A c L1, e = .returned (.slice A (panesL t).length c) ∧ St w [] L1 w' ∧ OwnF encI 3 (.slice A (panesL t).length c) (panesL t) L1 := by
 have hl := f_t.len
 refine enter 22 Tryz.func107 rfl Tryz.ntmps107 rfl rfl ?_
 have hs1 := St.init w
 refine WC.r1 hs1 [] rfl (WC.sr (WL.buildF (F := encI) hs1 ([]) Tryz.runUnderlying60 Tryz.sizeOf3 Tryz.zeroValue3 rfl rfl rfl rfl rfl rfl rfl rfl rfl rfl rfl rfl (fun A5 c6 L2 whs3 hs3 ho4 => WL.r 1 hs3 [] rfl (WL.nil (WC.seq (fun K7 hK7 => WC.r1 hs3 [] rfl (WC.block ?_)))))))
 refine WC.lO [2, 7, 8] rfl hs3 (fun k_ f L_ => ∃ (zs : List Int) (i : Nat) (A8 : Option Addr) (c9 : Nat), k_ = n_t - i ∧ (i ≤ n_t) ∧ (zs = panesL (t.take i)) ∧ OwnF encI 3 (.slice A8 (zs.length) c9) (zs) L_ ∧ Sub [(3, .slice A8 (zs.length) c9), (9, .int .i64 i)] f) (((fun (zs : List Int) (i : Nat) => n_t - i) ([]) (0))) ?_ ?_
 ·refine ⟨[], 0, _, _, rfl, ?_, ?_, ho4, ⟨rfl, rfl, trivial⟩⟩
  · exact Nat.zero_le _
  · simp [panesL]
 clear hs3
 rintro _ f w L10 ⟨zs, i, A8, c9, rfl, p0, p1, ho11, hG⟩ hF hs12
 refine WC.sub _ (hG.app hF) ?_
 clear hG hF
 have hzl : zs.length ≤ n_t := by rw [p1]; have := panesL_len (t.take i); rw [List.length_take] at this; omega
 refine WC.r1 hs12 [] rfl (WC.seq (fun K13 hK13 => ?_))
 refine WC.cD rfl (fun qh14 => ?_) (fun qh14 => ?_)
 ·refine WC.skip (hK13 _ _ (WC.seq (fun K15 hK15 => WC.block (WC.sr ?_))))
  refine WL.val rfl rfl rfl (Run.idxN Tryz.runUnderlying56 Tryz.sizeOf103 rfl rfl rfl ?_ ?_ ?_) ?_
  · exact SlF.some_ (SlF.st0 f_t hs12)
  · omega
  · omega
  refine WL.val rfl rfl rfl (Run.loadA Tryz.isAgg103 Tryz.sizeOf103 rfl rfl (SlF.whole (SlF.st0 f_t hs12) ?_)) ?_
  · omega
  refine WL.al hs12 Tryz.zeroValue103 rfl rfl (fun b16 _ hs17 => WL.st tbk hs17 0 rfl rfl (fun _ hs18 => WL.nil (WC.sr (WL.r 1 hs18 [0] rfl (WL.cl Tryz.call168 rfl (k68_ _ _ _ _) ?_)))))
  rintro _ whs19 ⟨rfl, hs19⟩
  replace hs19 := hs18.call0 hs19
  refine ⟨_, rfl, WL.nil (WC.cq rfl (fun h20 qh20 => ?_) (fun h20 qh20 => ?_))⟩
  ·have hp : (gat encNode t i).Pane ≠ 0 := by (try simp at qh20); omega
   refine WC.region (WL.r 3 hs19 [0] rfl (WL.buildSlice hs19 Tryz.runUnderlying60 Tryz.sizeOf3 Tryz.zeroValue3 rfl rfl rfl rfl rfl rfl rfl rfl rfl rfl (fun b21 whs22 hs22 => ?_)))
   refine WL.appendG (hs22.fr L10) ho11 (srcI1 Tryz.underlying60 (hs22.own _ (nthL_mem (i := 0) rfl)).1) Tryz.underlying60 inf3 rfl rfl rfl rfl rfl rfl rfl rfl rfl rfl ?_ (fun A26 c27 L23 whs24 hs24 ho25 => ?_)
   · simp; omega
   replace hs24 := St.back [_, _] hs24
   refine WL.r 1 hs24 [] rfl (WL.nil (hK15 _ _ (WC.region (WL.r 2 hs24 [] rfl (WL.nil (tkN ?_))))))
   replace hs24 := hs24.d1.d1
   refine ⟨sbF rfl, _, hs24, _, ?_, _, i + 1, _, _, rfl, ?_, ?_, ho25, ⟨rfl, rfl, trivial⟩⟩
   · omega
   · omega
   · rw [panesL_take (by omega), p1]; first | (rw [if_pos hp]) | (rw [if_neg (by simpa using hp), List.append_nil])
  have hp : (gat encNode t i).Pane = 0 := by simpa using qh20
  refine WC.skip (hK15 _ _ (WC.region (WL.r 2 hs19 [] rfl (WL.nil (tkN ?_)))))
  replace hs19 := hs19.d1
  refine ⟨sbF rfl, _, hs19, _, ?_, _, i + 1, _, _, rfl, ?_, ?_, ho11, ⟨rfl, rfl, trivial⟩⟩
  · omega
  · omega
  · rw [panesL_take (by omega), p1]; first | (rw [if_pos hp]) | (rw [if_neg (by simpa using hp), List.append_nil])
 refine WC.exit (hK7 _ _ (WC.r1 hs12 [] rfl (WC.ret (retV1 rfl (resV.tmp rfl) ?_))))
 have hx_ := OwnF.eqOf (xs := panesL t) ho11 (by rw [p1, List.take_of_length_le (by omega)])
 rw [← hx_]
 first | exact ⟨_, _, _, rfl, (St.keep1 hs12), ho11⟩ | exact ⟨A8, c9, _, by rw [OwnF.len_ ho11], (St.keep1 hs12), by rw [OwnF.len_ ho11]; exact ho11⟩
theorem k72_ (A_t : Option Addr) (n_t c_t : Nat) (t : List NodeD) (at_ : Nat) (w : World) (f_t : SlF encNode w A_t n_t t) (hn : n_t ≤ 268435456) (ha : at_ ≤ 1099511627776) :
    Calls Tryz.prog 161 #[.slice A_t n_t c_t, .int .i64 at_] w fun e w' => e = .returned (.int .i64 (sEnd t at_)) ∧ St w [] [] w' := by
 have hl := f_t.len
 refine enter 28 Tryz.func161 rfl Tryz.ntmps161 rfl rfl ?_
 have hs1 := St.init w
 refine WC.r1 hs1 [] rfl (WC.r1 hs1 [] rfl (WC.seq (fun K2 hK2 => WC.r1 hs1 [] rfl (WC.block ?_))))
 refine WC.lS [0] rfl hs1 (fun k_ f w' => ∃ (i k : Nat), k_ = n_t - i ∧ (at_ ≤ i) ∧ (1 ≤ k) ∧ (k ≤ 1 + (i - at_)) ∧ (i ≤ n_t ∨ i = at_) ∧ (needGo 1 (t.drop at_) = needGo k (t.drop i)) ∧ Sub [(6, .int .i64 i), (5, .int .i64 k)] f) ((fun (i k : Nat) => n_t - i) (at_) (1)) ?_ ?_
 ·refine ⟨at_, 1, rfl, ?_, ?_, ?_, ?_, ?_, ⟨rfl, ?_, trivial⟩⟩
  · exact Nat.le_refl _
  · exact Nat.le_refl _
  · omega
  · exact Or.inr rfl
  · rfl
  · rfl
 clear hs1
 rintro _ f w ⟨i, k, rfl, p0, p1, p2, p3, p4, hG⟩ hF hs3
 refine WC.sub _ (hG.app hF) ?_
 clear hG hF
 refine WC.seq (fun K4 hK4 => WC.r1 hs3 [] rfl ?_)
 refine WC.cD rfl (fun qh5 => ?_) (fun qh5 => ?_)
 ·refine WC.skip (hK4 _ _ (WC.seq (fun K6 hK6 => WC.block (WC.seq (fun K7 hK7 => WC.sr (WL.r 2 hs3 [] rfl ?_))))))
  refine WL.val rfl rfl rfl (Run.idxN Tryz.runUnderlying56 Tryz.sizeOf103 rfl rfl rfl ?_ ?_ ?_) ?_
  · exact SlF.some_ (SlF.st0 f_t hs3)
  · omega
  · omega
  refine WL.val rfl rfl rfl (Run.fieldO Tryz.runUnderlying103 rfl rfl rfl Tryz.sizeOf3 rfl) (WL.val rfl rfl rfl (Run.load Tryz.isAgg3 rfl rfl (SlF.fld (SlF.st0 f_t hs3) ?_ rfl)) ?_)
  · omega
  refine WL.r 1 hs3 [] rfl (WL.nil (WC.cD rfl (fun qh8 => ?_) (fun qh8 => ?_)))
  ·have hp : (gat encNode t i).Pane = 0 := qh8
   refine WC.region (WL.r 3 hs3 [] rfl (WL.nil (hK7 _ _ (WC.r1 hs3 [] rfl ?_))))
   refine WC.cD rfl (fun qh9 => ?_) (fun qh9 => ?_)
   ·refine WC.r1 hs3 [] rfl (WC.ret (ibR (tkR (tkR (ibR (tkR ?_))))))
    clear hK6 hK2
    refine rtv rfl rfl hs3 ?_
    rw [sEnd, p4, nat_drop (by omega), needGo]; first | (exfalso; omega) | (rw [if_neg hp, if_pos (by omega)]; simp [endOfL]; omega)
   refine WC.skip (hK6 _ _ (WC.region (WL.r 3 hs3 [] rfl (WL.nil (tkN ?_)))))
   refine ⟨sbF rfl, hs3, _, ?_, i + 1, (k + 1), rfl, ?_, ?_, ?_, ?_, ?_, ⟨rfl, ?_, trivial⟩⟩
   · omega
   · omega
   · omega
   · omega
   · omega
   · rw [p4, nat_drop (by omega), needGo]; first | (rw [if_pos hp, if_neg (by omega)]) | (rw [if_neg hp, if_neg (by omega)])
   · first | rfl | exact congrArg (fun z => some (Value.int _ z)) (by omega)
  have hp : ¬ (gat encNode t i).Pane = 0 := qh8
  refine WC.region (WL.r 3 hs3 [] rfl (WL.nil (hK7 _ _ (WC.r1 hs3 [] rfl ?_))))
  refine WC.cD rfl (fun qh10 => ?_) (fun qh10 => ?_)
  ·refine WC.r1 hs3 [] rfl (WC.ret (ibR (tkR (tkR (ibR (tkR ?_))))))
   clear hK6 hK2
   refine rtv rfl rfl hs3 ?_
   rw [sEnd, p4, nat_drop (by omega), needGo]; first | (exfalso; omega) | (rw [if_neg hp, if_pos (by omega)]; simp [endOfL]; omega)
  refine WC.skip (hK6 _ _ (WC.region (WL.r 3 hs3 [] rfl (WL.nil (tkN ?_)))))
  refine ⟨sbF rfl, hs3, _, ?_, i + 1, (k - 1), rfl, ?_, ?_, ?_, ?_, ?_, ⟨rfl, ?_, trivial⟩⟩
  · omega
  · omega
  · omega
  · omega
  · omega
  · rw [p4, nat_drop (by omega), needGo]; first | (rw [if_pos hp, if_neg (by omega)]) | (rw [if_neg hp, if_neg (by omega)])
  · first | rfl | exact congrArg (fun z => some (Value.int _ z)) (by omega)
 refine WC.exit (hK2 _ _ (WC.r1 hs3 [] rfl (WC.ret (rtv rfl rfl hs3 ?_))))
 rw [sEnd, p4, List.drop_eq_nil_of_le (by omega)]; simp [needGo, endOfL]
theorem k73_ (A_s : Option Addr) (n_s c_s : Nat) (s : List Int) (w : World) (f_s : SlF encI w A_s n_s s) (hn : n_s ≤ 268435456) :
    Calls Tryz.prog 149 #[.slice A_s n_s c_s] w fun e w' => ∃ A c L1, e = .returned (.slice A (s).length c) ∧ St w [] L1 w' ∧ OwnF encI 3 (.slice A (s).length c) (s) L1 := by
 have hl := f_s.len
 refine enter 8 Tryz.func149 rfl Tryz.ntmps149 rfl rfl ?_
 have hs1 := St.init w
 refine WC.r1 hs1 [] rfl (WC.seq (fun K2 hK2 => WC.sr (WL.r 1 hs1 [] rfl (WL.val rfl rfl rfl (Run.eqlNil Tryz.underlying60 rfl rfl rfl) (WL.nil ?_)))))
 refine WC.cq rfl (fun h3 qh3 => ?_) (fun h3 qh3 => ?_)
 ·obtain rfl : A_s = none := by simpa using qh3
  have h0 : n_s = 0 := SlF.none_ f_s
  have hs : s = [] := List.eq_nil_of_length_eq_zero (by omega)
  refine WC.r1 hs1 [] rfl (WC.ret (tkR ?_))
  clear hK2
  refine retV1 rfl (resV.tmp rfl) ?_
  have hx_ := OwnF.eqOf (xs := s) (OwnF.nil encI 3) (by rw [hs])
  rw [← hx_]
  exact ⟨_, _, _, rfl, hs1.nil, (OwnF.nil encI 3)⟩
 refine WC.skip (hK2 _ _ (WC.sr (WL.buildF (F := encI) hs1 ([]) Tryz.runUnderlying60 Tryz.sizeOf3 Tryz.zeroValue3 rfl rfl rfl rfl rfl rfl rfl rfl rfl rfl rfl rfl (fun A7 c8 L4 whs5 hs5 ho6 => WL.r 1 hs5 [] rfl ?_))))
 refine WL.appendG hs5 ho6 (SlF.src (SlF.st0 f_s hs5) Tryz.underlying60) Tryz.underlying60 inf3 rfl rfl rfl rfl rfl rfl rfl rfl rfl rfl ?_ (fun A12 c13 L9 whs10 hs10 ho11 => ?_)
 · simp; omega
 refine WL.r 1 hs10 [] rfl (WL.nil (WC.ret (retV1 rfl (resV.tmp rfl) ?_)))
 have hx_ := OwnF.eqOf (xs := s) ho11 (by simp)
 rw [← hx_]
 first | exact ⟨_, _, _, rfl, (St.keep1 hs10), ho11⟩ | exact ⟨A12, c13, _, by rw [OwnF.len_ ho11], (St.keep1 hs10), by rw [OwnF.len_ ho11]; exact ho11⟩
theorem k74_ (A_s : Option Addr) (n_s c_s : Nat) (s : List NodeD) (w : World) (f_s : SlF encNode w A_s n_s s) (hn : n_s ≤ 268435456) :
    Calls Tryz.prog 148 #[.slice A_s n_s c_s] w fun e w' => ∃ A c L1, e = .returned (.slice A (s).length c) ∧ St w [] L1 w' ∧ OwnF encNode 103 (.slice A (s).length c) (s) L1 := by
 have hl := f_s.len
 refine enter 8 Tryz.func148 rfl Tryz.ntmps148 rfl rfl ?_
 have hs1 := St.init w
 refine WC.r1 hs1 [] rfl (WC.seq (fun K2 hK2 => WC.sr (WL.r 1 hs1 [] rfl (WL.val rfl rfl rfl (Run.eqlNil Tryz.underlying56 rfl rfl rfl) (WL.nil ?_)))))
 refine WC.cq rfl (fun h3 qh3 => ?_) (fun h3 qh3 => ?_)
 ·obtain rfl : A_s = none := by simpa using qh3
  have h0 : n_s = 0 := SlF.none_ f_s
  have hs : s = [] := List.eq_nil_of_length_eq_zero (by omega)
  refine WC.r1 hs1 [] rfl (WC.ret (tkR ?_))
  clear hK2
  refine retV1 rfl (resV.tmp rfl) ?_
  have hx_ := OwnF.eqOf (xs := s) (OwnF.nil encNode 103) (by rw [hs])
  rw [← hx_]
  exact ⟨_, _, _, rfl, hs1.nil, (OwnF.nil encNode 103)⟩
 refine WC.skip (hK2 _ _ (WC.sr (WL.buildF (F := encNode) hs1 ([]) Tryz.runUnderlying56 Tryz.sizeOf103 Tryz.zeroValue103 rfl rfl rfl rfl rfl rfl rfl rfl rfl rfl rfl rfl (fun A7 c8 L4 whs5 hs5 ho6 => WL.r 1 hs5 [] rfl ?_))))
 refine WL.appendG hs5 ho6 (SlF.src (SlF.st0 f_s hs5) Tryz.underlying56) Tryz.underlying56 inf103 rfl rfl rfl rfl rfl rfl rfl rfl rfl rfl ?_ (fun A12 c13 L9 whs10 hs10 ho11 => ?_)
 · simp; omega
 refine WL.r 1 hs10 [] rfl (WL.nil (WC.ret (retV1 rfl (resV.tmp rfl) ?_)))
 have hx_ := OwnF.eqOf (xs := s) ho11 (by simp)
 rw [← hx_]
 first | exact ⟨_, _, _, rfl, (St.keep1 hs10), ho11⟩ | exact ⟨A12, c13, _, by rw [OwnF.len_ ho11], (St.keep1 hs10), by rw [OwnF.len_ ho11]; exact ho11⟩
theorem k75_ (A_t : Option Addr) (n_t c_t : Nat) (t : List NodeD) (w : World) (f_t : SlF encNode w A_t n_t t) (hn : n_t ≤ 268435456) :
    Calls Tryz.prog 144 #[.slice A_t n_t c_t] w fun e w' => ∃ A c L1, e = .returned (.slice A (t).length c) ∧ St w [] L1 w' ∧ OwnF encNode 103 (.slice A (t).length c) (t) L1 := by
 have hl := f_t.len
 refine enter 6 Tryz.func144 rfl Tryz.ntmps144 rfl rfl ?_
 have hs1 := St.init w
 refine WC.r1 hs1 [] rfl (WC.sr (WL.buildF (F := encNode) hs1 ([]) Tryz.runUnderlying56 Tryz.sizeOf103 Tryz.zeroValue103 rfl rfl rfl rfl rfl rfl rfl rfl rfl rfl rfl rfl (fun A5 c6 L2 whs3 hs3 ho4 => WL.r 1 hs3 [] rfl ?_)))
 refine WL.appendG hs3 ho4 (SlF.src (SlF.st0 f_t hs3) Tryz.underlying56) Tryz.underlying56 inf103 rfl rfl rfl rfl rfl rfl rfl rfl rfl rfl ?_ (fun A10 c11 L7 whs8 hs8 ho9 => ?_)
 · simp; omega
 refine WL.r 1 hs8 [] rfl (WL.nil (WC.ret (retV1 rfl (resV.tmp rfl) ?_)))
 have hx_ := OwnF.eqOf (xs := t) ho9 (by simp)
 rw [← hx_]
 first | exact ⟨_, _, _, rfl, (St.keep1 hs8), ho9⟩ | exact ⟨A10, c11, _, by rw [OwnF.len_ ho9], (St.keep1 hs8), by rw [OwnF.len_ ho9]; exact ho9⟩
theorem k76_ (A_s : Option Addr) (n_s c_s : Nat) (s : List Int) (x : Int) (w : World) (f_s : SlF encI w A_s n_s s) (hn : n_s ≤ 1099511627776) :
    Calls Tryz.prog 105 #[.slice A_s n_s c_s, i64 x] w fun e w' => e = .returned (.int .i64 (findI (fun z => decide (x = z)) s)) ∧ St w [] [] w' := by
 refine enter 19 Tryz.func105 rfl Tryz.ntmps105 rfl rfl ?_
 have hs1 := St.init w
 refine WC.r1 hs1 [] rfl (WC.seq (fun K2 hK2 => WC.r1 hs1 [] rfl (WC.block ?_)))
 refine WC.lS [0, 1, 7] rfl hs1 (fun k_ f w' => ∃ (i : Nat), k_ = n_s - i ∧ (i ≤ n_s) ∧ (∀ j, j < i → (fun z => decide (x = z)) (iat s j) = false) ∧ Sub [(8, .int .i64 i)] f) ((fun (i : Nat) => n_s - i) (0)) ?_ ?_
 ·refine ⟨0, rfl, ?_, ?_, ⟨rfl, trivial⟩⟩
  · exact Nat.zero_le _
  · exact fun j hj => absurd hj (by omega)
 clear hs1
 rintro _ f w ⟨i, rfl, p0, p1, hG⟩ hF hs3
 refine WC.sub _ (hG.app hF) ?_
 clear hG hF
 refine WC.r1 hs3 [] rfl (WC.seq (fun K4 hK4 => ?_))
 refine WC.cq rfl (fun h5 qh5 => ?_) (fun h5 qh5 => ?_)
 ·refine WC.skip (hK4 _ _ (WC.seq (fun K6 hK6 => WC.block (WC.r1 hs3 [] rfl (WC.sr (WL.r 3 hs3 [] rfl ?_))))))
  refine WL.val rfl rfl rfl (Run.idxN Tryz.runUnderlying60 Tryz.sizeOf3 rfl rfl rfl ?_ ?_ ?_) ?_
  · exact SlF.some_ (SlF.st0 f_s hs3)
  · omega
  · omega
  refine WL.val rfl rfl rfl (Run.load Tryz.isAgg3 rfl rfl (SlF.one1 (SlF.st0 f_s hs3) ?_ rfl)) ?_
  · omega
  refine WL.r 1 hs3 [] rfl (WL.nil (WC.cq rfl (fun h7 qh7 => ?_) (fun h7 qh7 => ?_)))
  ·refine WC.r1 hs3 [] rfl (WC.ret (ibR (tkR (tkR (ibR (tkR ?_))))))
   clear hK6 hK2
   refine rtv rfl rfl hs3 ?_
   rw [findI_some (F := encI) (i := i) (by rw [f_s.len]; omega) p1 h7]
  refine WC.skip (hK6 _ _ (WC.region (WL.r 2 hs3 [] rfl (WL.nil (tkN ?_)))))
  refine ⟨sbF rfl, hs3, _, ?_, i + 1, rfl, ?_, ?_, ⟨rfl, trivial⟩⟩
  · omega
  · omega
  · intro j hj; rcases Nat.lt_or_ge j i with h_ | h_
    · exact p1 j h_
    · obtain rfl : j = i := by omega
      exact h7
 refine WC.exit (hK2 _ _ (WC.r1 hs3 [] rfl (WC.ret (rtv rfl rfl hs3 ?_))))
 rw [findI_none (F := encI) (fun j hj => p1 j (by rw [f_s.len] at hj; omega))]
theorem k77_ (A_s : Option Addr) (n_s c_s : Nat) (s : List Int) (x : Int) (w : World) (f_s : SlF encI w A_s n_s s) (hn : n_s ≤ 549755813888) :
    Calls Tryz.prog 46 #[.slice A_s n_s c_s, i64 x] w fun e w' => e = .returned (.bool (hasI s x)) ∧ St w [] [] w' := by
 refine enter 9 Tryz.func46 rfl Tryz.ntmps46 rfl rfl ?_
 have hs1 := St.init w
 refine WC.r1 hs1 [] rfl (WC.sr (WL.r 2 hs1 [] rfl (WL.cl Tryz.call105 rfl (k76_ _ _ _ _ _ _ (SlF.st0 f_s hs1) ?_) ?_)))
 · first | assumption | rfl | omega
 rintro _ whs2 ⟨rfl, hs2⟩
 replace hs2 := hs1.call0 hs2
 refine ⟨_, rfl, WL.r 2 hs2 [] rfl (WL.nil (WC.ret (rtv rfl rfl hs2 ?_)))⟩
 rw [← hasI_find]
theorem built_76_0_1_2 (x0 : Int) (x1 : Int) (x2 : Option Addr) (x3 : Nat) (x4 : Nat) : Tryz.prog.built 76 [(0, .int .i64 x0), (1, .int .i64 x1), (2, .slice x2 x3 x4)] = some (List.toArray [.int .i64 x0, .int .i64 x1, .slice x2 x3 x4]) := by kernel_rfl
theorem built_181_0 (x0 : Option Addr) (x1 : Nat) (x2 : Nat) : Tryz.prog.built 181 [(0, .slice x0 x1 x2)] = some (List.toArray [.slice x0 x1 x2]) := by kernel_rfl
theorem k78_ (A_s : Option Addr) (n_s c_s : Nat) (s : List UInt8) (w : World) (f_s : SlF encB w A_s n_s s) (hn : n_s ≤ 268435456) :
    Calls Tryz.prog 226 #[.slice A_s n_s c_s] w fun e w' => ∃ A c L1, e = .returned (.slice A (s).length c) ∧ St w [] L1 w' ∧ OwnF encB 5 (.slice A (s).length c) (s) L1 := by
 have hl := f_s.len
 refine enter 8 Tryz.func226 rfl Tryz.ntmps226 rfl rfl ?_
 have hs1 := St.init w
 refine WC.r1 hs1 [] rfl (WC.seq (fun K2 hK2 => WC.sr (WL.r 1 hs1 [] rfl (WL.val rfl rfl rfl (Run.eqlNil Tryz.underlying44 rfl rfl rfl) (WL.nil ?_)))))
 refine WC.cq rfl (fun h3 qh3 => ?_) (fun h3 qh3 => ?_)
 ·obtain rfl : A_s = none := by simpa using qh3
  have h0 : n_s = 0 := SlF.none_ f_s
  have hs : s = [] := List.eq_nil_of_length_eq_zero (by omega)
  refine WC.r1 hs1 [] rfl (WC.ret (tkR ?_))
  clear hK2
  refine retV1 rfl (resV.tmp rfl) ?_
  have hx_ := OwnF.eqOf (xs := s) (OwnF.nil encB 5) (by rw [hs])
  rw [← hx_]
  exact ⟨_, _, _, rfl, hs1.nil, (OwnF.nil encB 5)⟩
 refine WC.skip (hK2 _ _ (WC.sr (WL.buildF (F := encB) hs1 ([]) Tryz.runUnderlying44 Tryz.sizeOf5 Tryz.zeroValue5 rfl rfl rfl rfl rfl rfl rfl rfl rfl rfl rfl rfl (fun A7 c8 L4 whs5 hs5 ho6 => WL.r 1 hs5 [] rfl ?_))))
 refine WL.appendG hs5 ho6 (SlF.src (SlF.st0 f_s hs5) Tryz.underlying44) Tryz.underlying44 inf5 rfl rfl rfl rfl rfl rfl rfl rfl rfl rfl ?_ (fun A12 c13 L9 whs10 hs10 ho11 => ?_)
 · simp; omega
 refine WL.r 1 hs10 [] rfl (WL.nil (WC.ret (retV1 rfl (resV.tmp rfl) ?_)))
 have hx_ := OwnF.eqOf (xs := s) ho11 (by simp)
 rw [← hx_]
 first | exact ⟨_, _, _, rfl, (St.keep1 hs10), ho11⟩ | exact ⟨A12, c13, _, by rw [OwnF.len_ ho11], (St.keep1 hs10), by rw [OwnF.len_ ho11]; exact ho11⟩
theorem k79_ (A_s : Option Addr) (n_s c_s : Nat) (s : List CellD) (w : World) (f_s : SlF encCell w A_s n_s s) (hn : n_s ≤ 268435456) :
    Calls Tryz.prog 228 #[.slice A_s n_s c_s] w fun e w' => ∃ A c L1, e = .returned (.slice A (s).length c) ∧ St w [] L1 w' ∧ OwnF encCell 164 (.slice A (s).length c) (s) L1 := by
 have hl := f_s.len
 refine enter 8 Tryz.func228 rfl Tryz.ntmps228 rfl rfl ?_
 have hs1 := St.init w
 refine WC.r1 hs1 [] rfl (WC.seq (fun K2 hK2 => WC.sr (WL.r 1 hs1 [] rfl (WL.val rfl rfl rfl (Run.eqlNil Tryz.underlying74 rfl rfl rfl) (WL.nil ?_)))))
 refine WC.cq rfl (fun h3 qh3 => ?_) (fun h3 qh3 => ?_)
 ·obtain rfl : A_s = none := by simpa using qh3
  have h0 : n_s = 0 := SlF.none_ f_s
  have hs : s = [] := List.eq_nil_of_length_eq_zero (by omega)
  refine WC.r1 hs1 [] rfl (WC.ret (tkR ?_))
  clear hK2
  refine retV1 rfl (resV.tmp rfl) ?_
  have hx_ := OwnF.eqOf (xs := s) (OwnF.nil encCell 164) (by rw [hs])
  rw [← hx_]
  exact ⟨_, _, _, rfl, hs1.nil, (OwnF.nil encCell 164)⟩
 refine WC.skip (hK2 _ _ (WC.sr (WL.buildF (F := encCell) hs1 ([]) Tryz.runUnderlying74 Tryz.sizeOf164 Tryz.zeroValue164 rfl rfl rfl rfl rfl rfl rfl rfl rfl rfl rfl rfl (fun A7 c8 L4 whs5 hs5 ho6 => WL.r 1 hs5 [] rfl ?_))))
 refine WL.appendG hs5 ho6 (SlF.src (SlF.st0 f_s hs5) Tryz.underlying74) Tryz.underlying74 inf164 rfl rfl rfl rfl rfl rfl rfl rfl rfl rfl ?_ (fun A12 c13 L9 whs10 hs10 ho11 => ?_)
 · simp; omega
 refine WL.r 1 hs10 [] rfl (WL.nil (WC.ret (retV1 rfl (resV.tmp rfl) ?_)))
 have hx_ := OwnF.eqOf (xs := s) ho11 (by simp)
 rw [← hx_]
 first | exact ⟨_, _, _, rfl, (St.keep1 hs10), ho11⟩ | exact ⟨A12, c13, _, by rw [OwnF.len_ ho11], (St.keep1 hs10), by rw [OwnF.len_ ho11]; exact ho11⟩
theorem k80_ (g : GridR) (w : World) (f_g : okGridR 549755813888 w g) (hsm : smGrid 1048576 g.dat) :
    Calls Tryz.prog 227 #[.agg #[i64 g.W, i64 g.H, .slice g.Cells.A g.Cells.n g.Cells.c]] w fun e w' => ∃ r L1, e = .returned (.agg #[i64 r.W, i64 r.H, .slice r.Cells.A r.Cells.n r.Cells.c]) ∧ St w [] L1 w' ∧ ownGridR r L1 ∧ r.dat = g.dat := by
 have nb_g_Cells := f_g.Cells_n
 have nl_g_Cells := f_g.Cells.len
 have hl9 : g.Cells.xs.length ≤ 1048576 := hsm
 refine enter 11 Tryz.func227 rfl Tryz.ntmps227 rfl rfl ?_
 have hs1 := St.init w
 refine WC.sr (WL.bx hs1 rfl (fun b2 _ hs3 => WL.al hs3 Tryz.zeroValue76 rfl rfl (fun b4 _ hs5 => WL.nil (WC.seq (fun K6 hK6 => WC.rH hs5.d1 hs5 (fun _ hs7 => ?_))))))
 refine WH.rn [0, 1, 2, 3, 4, 5] hs7.d1 [0, 0, 0] rfl rfl (WH.o1 6 rfl (WL.cl Tryz.call228 rfl (k79_ _ _ _ _ _ (SlF.st0 f_g.Cells hs7) ?_) ?_))
 · first | assumption | rfl | omega
 rintro _ whs8 ⟨A9, c10, L1_11, rfl, hs8, ho12⟩
 replace hs8 := hs7.callF hs8
 refine ⟨_, rfl, ?_⟩
 replace hs8 := St.back [_, _] hs8
 refine WL.nil ⟨(hs8.d1.rm L1_11), ?_⟩
 refine WH.take 7 rfl (by kernel_rfl) rfl rfl rfl (hs8.d1.rm L1_11) (fun w_ hs_ => (Run.build rfl rfl rfl rfl (built_76_0_1_2 _ _ _ _ _))) ?_
 refine WH.o1 8 rfl (WL.st tbk hs8 0 rfl rfl (fun _ hs13 => WL.nil ⟨(hs13.d1.rm L1_11), WH.dn (hK6 _ _ (WC.ret (retV1 rfl (resV.cellA tbk hs13 0 rfl rfl rfl rfl) ?_)))⟩))
 refine ⟨⟨g.W, g.H, SlD.of ho12⟩, _, rfl, (St.keep1 (hs13.fr L1_11)), ?_, ?_⟩
 · exact ho12
 · rfl
theorem k81_ (s : ScrR) (w : World) (f_s : okScrR 549755813888 w s) (hsm : smScr 1048576 s.dat) :
    Calls Tryz.prog 193 #[.agg (cScr s).toArray] w fun e w' => ∃ r L1, e = .returned (.agg (cScr r).toArray) ∧ St w [] L1 w' ∧ ownScrR r L1 ∧ r.dat = s.dat := by
 have nb_s_Main_Cells := f_s.Main.Cells_n
 have nl_s_Main_Cells := f_s.Main.Cells.len
 have nb_s_Alt_Cells := f_s.Alt.Cells_n
 have nl_s_Alt_Cells := f_s.Alt.Cells.len
 have nb_s_Tabs := f_s.Tabs_n
 have nl_s_Tabs := f_s.Tabs.len
 have nb_s_Back := f_s.Back_n
 have nl_s_Back := f_s.Back.sl.len
 have hM : s.Main.Cells.xs.length ≤ 1048576 := hsm.1
 have hA : s.Alt.Cells.xs.length ≤ 1048576 := hsm.2.1
 have hT : s.Tabs.xs.length ≤ 1048576 := hsm.2.2.1
 have hB : s.Back.xs.length ≤ 1048576 := by have h_ := hsm.2.2.2.1; simpa [ScrR.dat] using h_
 have hR : ∀ y, y ∈ s.Back.xs → y.Cells.xs.length ≤ 1048576 := fun y hy => hsm.2.2.2.2 _ (List.mem_map_of_mem hy)
 refine enter 37 Tryz.func193 rfl Tryz.ntmps193 rfl rfl ?_
 have hs1 := St.init w
 refine WC.sr (WL.bx hs1 rfl (fun b2 _ hs3 => WL.al hs3 Tryz.zeroValue89 rfl rfl (fun b4 _ hs5 => WL.nil (WC.seq (fun K6 hK6 => WC.rG 10 (hs5.fb b2).d1 hs5 hs5 (fun _ hs7 => ?_))))))
 refine WG.rn [0, 1, 3, 4, 6, 7] hs7 [1, 1, 1] rfl rfl (WG.o1 2 rfl rfl (WL.cl Tryz.call227 rfl (k80_ s.Main _ (okGridR.st0 f_s.Main hs7) ?_) ?_))
 · first | assumption | rfl | omega | exact hsm.1 | exact hsm.2.1 | (exact Nat.le_trans hsm.1 (by decide)) | (exact Nat.le_trans hsm.2.1 (by decide)) | (have := hR _ (gat_mem (F := encRowR) (show i < s.Back.xs.length by omega)); omega)
 rintro _ whs8 ⟨r9, L1_10, rfl, hs8, ho11, hd12⟩
 replace hs8 := hs7.callF hs8
 refine ⟨_, rfl, ?_⟩
 replace hs8 := St.back [_, _] hs8
 refine WL.nil ⟨(hs8.rm L1_10), WG.rn [9] (hs8.rm L1_10) [] rfl rfl (WG.o1 5 rfl rfl (WL.cl Tryz.call227 rfl (k80_ s.Alt _ (okGridR.st0 f_s.Alt hs8) ?_) ?_))⟩
 · first | assumption | rfl | omega | exact hsm.1 | exact hsm.2.1 | (exact Nat.le_trans hsm.1 (by decide)) | (exact Nat.le_trans hsm.2.1 (by decide)) | (have := hR _ (gat_mem (F := encRowR) (show i < s.Back.xs.length by omega)); omega)
 rintro _ whs13 ⟨r14, L1_15, rfl, hs13, ho16, hd17⟩
 replace hs13 := hs8.callF hs13
 refine ⟨_, rfl, ?_⟩
 replace hs13 := St.back [_, _] hs13
 refine WL.nil ⟨((hs13.rm L1_15).rm L1_10), WG.o1 8 rfl rfl (WL.cl Tryz.call149 rfl (k73_ _ _ _ _ _ (SlF.st0 f_s.Tabs hs13) ?_) ?_)⟩
 · first | assumption | rfl | omega | exact hsm.1 | exact hsm.2.1 | (exact Nat.le_trans hsm.1 (by decide)) | (exact Nat.le_trans hsm.2.1 (by decide)) | (have := hR _ (gat_mem (F := encRowR) (show i < s.Back.xs.length by omega)); omega)
 rintro _ whs18 ⟨A19, c20, L1_21, rfl, hs18, ho22⟩
 replace hs18 := hs13.callF hs18
 refine ⟨_, rfl, ?_⟩
 replace hs18 := St.back [_, _] hs18
 refine WL.nil ⟨(((hs18.rm L1_21).rm L1_15).rm L1_10), WG.oK rfl (WL.st tbk hs18 1 rfl rfl (fun _ hs23 => WL.nil ⟨((((hs23.fb b2).d1.rm L1_21).rm L1_15).rm L1_10), WH.rn [11] ((((hs23.fb b2).d1.rm L1_21).rm L1_15).rm L1_10) [] rfl rfl (WH.o1 12 rfl (WL.st tbk hs23 1 rfl rfl (fun _ hs24 => WL.nil ⟨((((hs24.fb b2).d1.rm L1_21).rm L1_15).rm L1_10), ?_⟩)))⟩))⟩
 refine WH.rn [13] ((((hs24.fb b2).d1.rm L1_21).rm L1_15).rm L1_10) [] rfl rfl (WH.o1 14 rfl (WL.st tbk hs24 1 rfl rfl (fun _ hs25 => WL.nil ⟨((((hs25.fb b2).d1.rm L1_21).rm L1_15).rm L1_10), WH.dn (hK6 _ _ (WC.sr (WL.buildF (F := encRowR) hs25 ([]) Tryz.runUnderlying87 Tryz.sizeOf181 Tryz.zeroValue181 rfl rfl rfl rfl rfl rfl rfl rfl rfl rfl rfl rfl (fun A29 c30 L26 whs27 hs27 ho28 => ?_))))⟩)))
 replace hs27 := St.back [_, _] hs27
 obtain ⟨L31, hs32, ho33⟩ := OwnN.fresh (own := ownRowR) (hs27.fr L26) ho28 Bag.nil
 have hs34 := ((hs32.fb b2).fb b4)
 refine WL.r 1 hs34 [] rfl (WL.nil (WC.seq (fun K35 hK35 => WC.r1 hs34 [1] rfl (WC.block ?_))))
 have hM40 := (St.grp1 (L1 := L31) [] ((((((hs34.fr L1_10).fr L1_15).fr L1_21).fb b2).fb b4).fr L31))
 refine WC.lV [1, 2, 20, 21] rfl hM40 (fun k_ (a_ : Hp) f => ∃ (i : Nat) (rows_ : List RowR) (A36 : Option Addr) (c37 : Nat) (L38 : Hp), k_ = s.Back.n - i ∧ a_ = L38 ∧ (i ≤ s.Back.n) ∧ (rows_.map RowR.dat = (s.Back.xs.take i).map RowR.dat) ∧ (rows_.length = i) ∧ OwnN encRowR ownRowR 181 (.slice A36 (rows_).length c37) (rows_) L38 ∧ Sub [(3, .slice A36 (rows_).length c37), (22, .int .i64 i)] f) (((fun (i : Nat) (rows_ : List RowR) => s.Back.n - i) (0) ([]))) ?_ ?_
 ·refine ⟨0, [], A29, c30, L31, rfl, rfl, ?_, ?_, ?_, ho33, ⟨rfl, rfl, trivial⟩⟩
  · exact Nat.zero_le _
  · rfl
  · rfl
 rintro _ L38 f w ⟨i, rows_, A36, c37, _, rfl, rfl, p0, p1, p2, ho39, hG⟩ hF hs41
 refine WC.sub _ (hG.app hF) ?_
 clear hG hF
 replace hs41 := St.ungrp1 [] hs41
 have hs42 := ((hs41.fb b2).fb b4)
 refine WC.r1 hs42 [] rfl (WC.seq (fun K43 hK43 => ?_))
 refine WC.cD rfl (fun qh44 => ?_) (fun qh44 => ?_)
 ·have hnl := (SlN.nth f_s.Back (show i < s.Back.n by omega)).Cells.len
  refine WC.skip (hK43 _ _ (WC.seq (fun K45 hK45 => WC.block (WC.sr ?_))))
  refine WL.val rfl rfl rfl (Run.idxN Tryz.runUnderlying87 Tryz.sizeOf181 rfl rfl rfl ?_ ?_ ?_) ?_
  · exact SlF.some_ (SlF.st0 f_s.Back.sl hs42)
  · omega
  · omega
  refine WL.val rfl rfl rfl (Run.loadA Tryz.isAgg181 Tryz.sizeOf181 rfl rfl (SlF.whole (SlF.st0 f_s.Back.sl hs42) ?_)) ?_
  · omega
  refine WL.al hs42 Tryz.zeroValue181 rfl rfl (fun b46 _ hs47 => WL.st tbk hs47 0 rfl rfl (fun _ hs48 => WL.nil (WC.region (WL.r 3 hs48 [0] rfl ?_))))
  refine WL.cl Tryz.call228 rfl (k79_ _ _ _ _ _ (SlF.st0 (SlN.nth f_s.Back (by omega)).Cells hs48) ?_) ?_
  · first | assumption | rfl | omega | exact hsm.1 | exact hsm.2.1 | (exact Nat.le_trans hsm.1 (by decide)) | (exact Nat.le_trans hsm.2.1 (by decide)) | (have := hR _ (gat_mem (F := encRowR) (show i < s.Back.xs.length by omega)); omega)
  rintro _ whs49 ⟨A50, c51, L1_52, rfl, hs49, ho53⟩
  replace hs49 := hs48.callF hs49
  refine ⟨_, rfl, ?_⟩
  replace hs49 := St.back [_, _, _] hs49
  refine WL.val rfl rfl rfl (Run.build rfl rfl rfl rfl (built_181_0 _ _ _)) (WL.buildSlice hs49 Tryz.runUnderlying87 Tryz.sizeOf181 Tryz.zeroValue181 rfl rfl rfl rfl rfl rfl rfl rfl rfl rfl (fun b54 whs55 hs55 => ?_))
  obtain ⟨L56, L57, hs60, ho58, ho59⟩ := OwnN.open_ (hs55.fr L38) ho39
  have hs61 := ((((hs60.fb b2).fb b4).fb b46).fb b54)
  refine WL.appendG (hs61.fr L56) ho58 (srcF (F := encRowR) (ys := [(⟨SlD.of ho53⟩ : RowR)]) Tryz.underlying87 rfl rfl (hs61.own _ (nthL_mem (i := 0) rfl)).1) Tryz.underlying87 inf181 rfl rfl rfl rfl rfl rfl rfl rfl rfl rfl ?_ (fun A65 c66 L62 whs63 hs63 ho64 => ?_)
  · (try simp only [List.length_append, List.length_singleton, List.nil_append, List.length_nil]); first | omega | (have := hR _ (gat_mem (F := encRowR) (show i < s.Back.xs.length by omega)); omega)
  replace hs63 := St.back [_, _, _, _] hs63
  obtain ⟨L67, hs68, hb69⟩ := Bag.put (x := (⟨SlD.of ho53⟩ : RowR)) ((hs63.fr L1_52).fr L57) ho59 ho53
  have hs70 := ((((hs68.fb b2).fb b4).fb b46).fb b54)
  obtain ⟨L72, hs71, ho73⟩ := OwnN.fold ((hs70.fr L67).fr L62) ho64 hb69
  have hs74 := ((((hs71.fb b2).fb b4).fb b46).fb b54)
  refine WL.r 1 hs74 [] rfl (WL.nil (hK45 _ _ (WC.region (WL.r 2 hs74 [] rfl (WL.nil (tkN ?_))))))
  replace hs74 := hs74.d1.d1
  have hF75 := (St.grp1 (L1 := L72) [] ((((((hs74.fr L1_10).fr L1_15).fr L1_21).fb b2).fb b4).fr L72))
  refine ⟨sbF rfl, _, hF75, _, ?_, i + 1, ((rows_) ++ [(⟨SlD.of ho53⟩ : RowR)]), A65, c66, L72, rfl, rfl, ?_, ?_, ?_, ho73, ⟨rfl, rfl, trivial⟩⟩
  · omega
  · omega
  · rw [List.map_append, p1, map_take_succ (F := encRowR) (by omega)]; congr 1
  · simp only [List.length_append, List.length_singleton]; omega
 refine WC.exit (hK35 _ _ (WC.sr (WL.r 2 hs42 [] rfl (WL.st tbk hs42 1 rfl rfl (fun _ hs76 => WL.nil (WC.sr (WL.r 1 hs76 [1] rfl ?_)))))))
 refine WL.st tbk hs76 0 rfl rfl (fun _ hs77 => WL.nil (WC.ret (retV1 rfl (resV.cellA tbk hs77 0 rfl rfl rfl rfl) ?_)))
 have hi_ : i = s.Back.n := by omega
 have hbk : rows_.map RowR.dat = s.dat.Back := by rw [p1, List.take_of_length_le (by omega)]; rfl
 obtain ⟨L79, hs78, ho80⟩ := ownScrR.fl hs77 ho11 ho16 ho22 ho39
 have hs81 := ((hs78.fb b2).fb b4)
 refine ownScrR.ret rfl (St.keep1 (hs81.fr L79)) ho80 ?_
 · exact ScrD.ext' rfl rfl hd12 hd17 rfl rfl rfl rfl rfl rfl rfl rfl rfl rfl rfl rfl rfl rfl hbk
theorem k82_ (g : GridR) (w : World) (f_g : okGridR 549755813888 w g) (hsm : smGrid 1099511627 g.dat) :
    Calls Tryz.prog 224 #[.agg #[i64 g.W, i64 g.H, .slice g.Cells.A g.Cells.n g.Cells.c]] w fun e w' => ∃ r L1, e = .returned (.agg #[i64 r.W, i64 r.H, .slice r.Cells.A r.Cells.n r.Cells.c]) ∧ St w [] L1 w' ∧ ownGridR r L1 ∧ r.dat = g.dat := by
 have nb_g_Cells := f_g.Cells_n
 have nl_g_Cells := f_g.Cells.len
 have hl9 : g.Cells.xs.length ≤ 1099511627 := hsm
 refine enter 9 Tryz.func224 rfl Tryz.ntmps224 rfl rfl ?_
 have hs1 := St.init w
 refine WC.sr (WL.bx hs1 rfl (fun b2 _ hs3 => WL.al hs3 Tryz.zeroValue76 rfl rfl (fun b4 _ hs5 => WL.nil (WC.sr (WL.buildF (F := encCell) hs5 ([]) Tryz.runUnderlying74 Tryz.sizeOf164 Tryz.zeroValue164 rfl rfl rfl rfl rfl rfl rfl rfl rfl rfl rfl rfl (fun A9 c10 L6 whs7 hs7 ho8 => ?_))))))
 replace hs7 := St.back [_, _] hs7
 refine WL.r 2 hs7 [1] rfl (WL.appendG (hs7.fr L6) ho8 (SlF.src (SlF.st0 f_g.Cells hs7) Tryz.underlying74) Tryz.underlying74 inf164 rfl rfl rfl rfl rfl rfl rfl rfl rfl rfl ?_ (fun A14 c15 L11 whs12 hs12 ho13 => ?_))
 · simp; omega
 replace hs12 := St.back [_, _] hs12
 refine WL.r 1 hs12 [] rfl (WL.st tbk hs12 1 rfl rfl (fun _ hs16 => WL.nil (WC.sr (WL.r 1 hs16 [1] rfl (WL.st tbk hs16 0 rfl rfl (fun _ hs17 => WL.nil (WC.ret ?_)))))))
 refine retV1 rfl (resV.cellA tbk hs17 0 rfl rfl rfl rfl) (⟨⟨g.W, g.H, SlD.of ho13⟩, _, rfl, (St.keep1 (hs17.fr L11)), ?_, ?_⟩)
 · exact ho13
 · rfl
theorem k83_ (s : ScrR) (w : World) (f_s : okScrR 549755813888 w s) (hsm : smScr 1048576 s.dat) :
    Calls Tryz.prog 187 #[.agg (cScr s).toArray] w fun e w' => ∃ r L1, e = .returned (.agg (cScr r).toArray) ∧ St w [] L1 w' ∧ ownScrR r L1 ∧ r.dat = s.dat := by
 have nb_s_Main_Cells := f_s.Main.Cells_n
 have nl_s_Main_Cells := f_s.Main.Cells.len
 have nb_s_Alt_Cells := f_s.Alt.Cells_n
 have nl_s_Alt_Cells := f_s.Alt.Cells.len
 have nb_s_Tabs := f_s.Tabs_n
 have nl_s_Tabs := f_s.Tabs.len
 have nb_s_Back := f_s.Back_n
 have nl_s_Back := f_s.Back.sl.len
 have hM : s.Main.Cells.xs.length ≤ 1048576 := hsm.1
 have hA : s.Alt.Cells.xs.length ≤ 1048576 := hsm.2.1
 have hT : s.Tabs.xs.length ≤ 1048576 := hsm.2.2.1
 have hB : s.Back.xs.length ≤ 1048576 := by have h_ := hsm.2.2.2.1; simpa [ScrR.dat] using h_
 have hR : ∀ y, y ∈ s.Back.xs → y.Cells.xs.length ≤ 1048576 := fun y hy => hsm.2.2.2.2 _ (List.mem_map_of_mem hy)
 refine enter 39 Tryz.func187 rfl Tryz.ntmps187 rfl rfl ?_
 have hs1 := St.init w
 refine WC.sr (WL.bx hs1 rfl (fun b2 _ hs3 => WL.al hs3 Tryz.zeroValue89 rfl rfl (fun b4 _ hs5 => WL.nil (WC.sr (WL.r 2 hs5 [1] rfl ?_)))))
 refine WL.cl Tryz.call224 rfl (k82_ s.Main _ (okGridR.st0 f_s.Main hs5) ?_) ?_
 · first | assumption | rfl | omega | exact hsm.1 | exact hsm.2.1 | (exact Nat.le_trans hsm.1 (by decide)) | (exact Nat.le_trans hsm.2.1 (by decide)) | (have := hR _ (gat_mem (F := encRowR) (show i < s.Back.xs.length by omega)); omega)
 rintro _ whs6 ⟨r7, L1_8, rfl, hs6, ho9, hd10⟩
 replace hs6 := hs5.callF hs6
 refine ⟨_, rfl, ?_⟩
 replace hs6 := St.back [_, _] hs6
 refine WL.r 1 hs6 [] rfl (WL.st tbk hs6 1 rfl rfl (fun _ hs11 => WL.nil (WC.sr (WL.r 2 hs11 [1] rfl ?_))))
 refine WL.cl Tryz.call224 rfl (k82_ s.Alt _ (okGridR.st0 f_s.Alt hs11) ?_) ?_
 · first | assumption | rfl | omega | exact hsm.1 | exact hsm.2.1 | (exact Nat.le_trans hsm.1 (by decide)) | (exact Nat.le_trans hsm.2.1 (by decide)) | (have := hR _ (gat_mem (F := encRowR) (show i < s.Back.xs.length by omega)); omega)
 rintro _ whs12 ⟨r13, L1_14, rfl, hs12, ho15, hd16⟩
 replace hs12 := hs11.callF hs12
 refine ⟨_, rfl, ?_⟩
 replace hs12 := St.back [_, _] hs12
 refine WL.r 1 hs12 [] rfl (WL.st tbk hs12 1 rfl rfl (fun _ hs17 => WL.nil (WC.sr (WL.buildF (F := encI) hs17 ([]) Tryz.runUnderlying60 Tryz.sizeOf3 Tryz.zeroValue3 rfl rfl rfl rfl rfl rfl rfl rfl rfl rfl rfl rfl (fun A21 c22 L18 whs19 hs19 ho20 => ?_)))))
 replace hs19 := St.back [_, _] hs19
 refine WL.r 2 hs19 [1] rfl (WL.appendG (hs19.fr L18) ho20 (SlF.src (SlF.st0 f_s.Tabs hs19) Tryz.underlying60) Tryz.underlying60 inf3 rfl rfl rfl rfl rfl rfl rfl rfl rfl rfl ?_ (fun A26 c27 L23 whs24 hs24 ho25 => ?_))
 · (try simp only [List.length_append, List.length_singleton, List.nil_append, List.length_nil]); first | omega | (have := hR _ (gat_mem (F := encRowR) (show i < s.Back.xs.length by omega)); omega)
 replace hs24 := St.back [_, _] hs24
 refine WL.r 1 hs24 [] rfl (WL.st tbk hs24 1 rfl rfl (fun _ hs28 => WL.nil (WC.sr (WL.buildF (F := encRowR) hs28 ([]) Tryz.runUnderlying87 Tryz.sizeOf181 Tryz.zeroValue181 rfl rfl rfl rfl rfl rfl rfl rfl rfl rfl rfl rfl (fun A32 c33 L29 whs30 hs30 ho31 => ?_)))))
 replace hs30 := St.back [_, _] hs30
 obtain ⟨L34, hs35, ho36⟩ := OwnN.fresh (own := ownRowR) (hs30.fr L29) ho31 Bag.nil
 have hs37 := ((hs35.fb b2).fb b4)
 refine WL.r 1 hs37 [] rfl (WL.nil (WC.seq (fun K38 hK38 => WC.r1 hs37 [1] rfl (WC.block ?_))))
 have hM43 := (St.grp1 (L1 := L34) [] ((((((hs37.fr L1_8).fr L1_14).fr L23).fb b2).fb b4).fr L34))
 refine WC.lV [1, 2, 21, 22] rfl hM43 (fun k_ (a_ : Hp) f => ∃ (i : Nat) (rows_ : List RowR) (A39 : Option Addr) (c40 : Nat) (L41 : Hp), k_ = s.Back.n - i ∧ a_ = L41 ∧ (i ≤ s.Back.n) ∧ (rows_.map RowR.dat = (s.Back.xs.take i).map RowR.dat) ∧ (rows_.length = i) ∧ OwnN encRowR ownRowR 181 (.slice A39 (rows_).length c40) (rows_) L41 ∧ Sub [(3, .slice A39 (rows_).length c40), (23, .int .i64 i)] f) (((fun (i : Nat) (rows_ : List RowR) => s.Back.n - i) (0) ([]))) ?_ ?_
 ·refine ⟨0, [], A32, c33, L34, rfl, rfl, ?_, ?_, ?_, ho36, ⟨rfl, rfl, trivial⟩⟩
  · exact Nat.zero_le _
  · rfl
  · rfl
 rintro _ L41 f w ⟨i, rows_, A39, c40, _, rfl, rfl, p0, p1, p2, ho42, hG⟩ hF hs44
 refine WC.sub _ (hG.app hF) ?_
 clear hG hF
 replace hs44 := St.ungrp1 [] hs44
 have hs45 := ((hs44.fb b2).fb b4)
 refine WC.r1 hs45 [] rfl (WC.seq (fun K46 hK46 => ?_))
 refine WC.cD rfl (fun qh47 => ?_) (fun qh47 => ?_)
 ·have hnl := (SlN.nth f_s.Back (show i < s.Back.n by omega)).Cells.len
  refine WC.skip (hK46 _ _ (WC.seq (fun K48 hK48 => WC.block (WC.sr ?_))))
  refine WL.val rfl rfl rfl (Run.idxN Tryz.runUnderlying87 Tryz.sizeOf181 rfl rfl rfl ?_ ?_ ?_) ?_
  · exact SlF.some_ (SlF.st0 f_s.Back.sl hs45)
  · omega
  · omega
  refine WL.val rfl rfl rfl (Run.loadA Tryz.isAgg181 Tryz.sizeOf181 rfl rfl (SlF.whole (SlF.st0 f_s.Back.sl hs45) ?_)) ?_
  · omega
  refine WL.al hs45 Tryz.zeroValue181 rfl rfl (fun b49 _ hs50 => WL.st tbk hs50 0 rfl rfl (fun _ hs51 => WL.nil (WC.region (WL.r 1 hs51 [] rfl (WL.buildF (F := encCell) hs51 ([]) Tryz.runUnderlying74 Tryz.sizeOf164 Tryz.zeroValue164 rfl rfl rfl rfl rfl rfl rfl rfl rfl rfl rfl rfl (fun A55 c56 L52 whs53 hs53 ho54 => ?_))))))
  replace hs53 := St.back [_, _, _] hs53
  refine WL.r 2 hs53 [0] rfl (WL.appendG (hs53.fr L52) ho54 (SlF.src (SlF.st0 (SlN.nth f_s.Back (by omega)).Cells hs53) Tryz.underlying74) Tryz.underlying74 inf164 rfl rfl rfl rfl rfl rfl rfl rfl rfl rfl ?_ (fun A60 c61 L57 whs58 hs58 ho59 => ?_))
  · (try simp only [List.length_append, List.length_singleton, List.nil_append, List.length_nil]); first | omega | (have := hR _ (gat_mem (F := encRowR) (show i < s.Back.xs.length by omega)); omega)
  replace hs58 := St.back [_, _, _] hs58
  refine WL.val rfl rfl rfl (Run.build rfl rfl rfl rfl (built_181_0 _ _ _)) (WL.buildSlice hs58 Tryz.runUnderlying87 Tryz.sizeOf181 Tryz.zeroValue181 rfl rfl rfl rfl rfl rfl rfl rfl rfl rfl (fun b62 whs63 hs63 => ?_))
  obtain ⟨L64, L65, hs68, ho66, ho67⟩ := OwnN.open_ (hs63.fr L41) ho42
  have hs69 := ((((hs68.fb b2).fb b4).fb b49).fb b62)
  refine WL.appendG (hs69.fr L64) ho66 (srcF (F := encRowR) (ys := [(⟨SlD.of ho59⟩ : RowR)]) Tryz.underlying87 rfl rfl (hs69.own _ (nthL_mem (i := 0) rfl)).1) Tryz.underlying87 inf181 rfl rfl rfl rfl rfl rfl rfl rfl rfl rfl ?_ (fun A73 c74 L70 whs71 hs71 ho72 => ?_)
  · (try simp only [List.length_append, List.length_singleton, List.nil_append, List.length_nil]); first | omega | (have := hR _ (gat_mem (F := encRowR) (show i < s.Back.xs.length by omega)); omega)
  replace hs71 := St.back [_, _, _, _] hs71
  obtain ⟨L75, hs76, hb77⟩ := Bag.put (x := (⟨SlD.of ho59⟩ : RowR)) ((hs71.fr L57).fr L65) ho67 ho59
  have hs78 := ((((hs76.fb b2).fb b4).fb b49).fb b62)
  obtain ⟨L80, hs79, ho81⟩ := OwnN.fold ((hs78.fr L75).fr L70) ho72 hb77
  have hs82 := ((((hs79.fb b2).fb b4).fb b49).fb b62)
  refine WL.r 1 hs82 [] rfl (WL.nil (hK48 _ _ (WC.region (WL.r 2 hs82 [] rfl (WL.nil (tkN ?_))))))
  replace hs82 := hs82.d1.d1
  have hF83 := (St.grp1 (L1 := L80) [] ((((((hs82.fr L1_8).fr L1_14).fr L23).fb b2).fb b4).fr L80))
  refine ⟨sbF rfl, _, hF83, _, ?_, i + 1, ((rows_) ++ [(⟨SlD.of ho59⟩ : RowR)]), A73, c74, L80, rfl, rfl, ?_, ?_, ?_, ho81, ⟨rfl, rfl, trivial⟩⟩
  · omega
  · omega
  · rw [List.map_append, p1, map_take_succ (F := encRowR) (by omega)]; congr 1
  · simp only [List.length_append, List.length_singleton]; omega
 refine WC.exit (hK38 _ _ (WC.sr (WL.r 2 hs45 [] rfl (WL.st tbk hs45 1 rfl rfl (fun _ hs84 => WL.nil (WC.sr (WL.r 1 hs84 [1] rfl ?_)))))))
 refine WL.st tbk hs84 0 rfl rfl (fun _ hs85 => WL.nil (WC.ret (retV1 rfl (resV.cellA tbk hs85 0 rfl rfl rfl rfl) ?_)))
 have hi_ : i = s.Back.n := by omega
 have hbk : rows_.map RowR.dat = s.dat.Back := by rw [p1, List.take_of_length_le (by omega)]; rfl
 obtain ⟨L87, hs86, ho88⟩ := ownScrR.fl hs85 ho9 ho15 ho25 ho42
 have hs89 := ((hs86.fb b2).fb b4)
 refine ownScrR.ret rfl (St.keep1 (hs89.fr L87)) ho88 ?_
 · exact ScrD.ext' rfl rfl hd10 hd16 rfl rfl rfl rfl rfl rfl rfl rfl rfl rfl rfl rfl rfl rfl hbk
theorem gat_lt {α : Type} {F : Enc α} {xs : List α} {k : Nat} (h : k < xs.length) : gat F xs k = xs[k] := by
 simp [gat, List.getD, h]
theorem ext_gat {α : Type} {F : Enc α} {xs : List α} {n : Nat} {f : Nat → α} (hl : xs.length = n) (h : ∀ k, k < n → gat F xs k = f k) : xs = (List.range n).map f := by
 apply List.ext_getElem
 ·simpa using hl
 ·intro k h1 h2
  have h3 := h k (by omega)
  rw [gat_lt h1] at h3
  rw [h3]; simp
def gmap (g : GridD) (f : Nat → CellD) : GridD := { g with Cells := (List.range g.Cells.length).map f }
abbrev cat (l : List CellD) (k : Nat) : CellD := gat encCell l k
def pasteF (g h : GridD) (x y : Int) (k : Nat) : CellD :=
 if (0 ≤ ((k % g.W.toNat : Nat) : Int) - x ∧ ((k % g.W.toNat : Nat) : Int) - x < h.W) ∧ 0 ≤ ((k / g.W.toNat : Nat) : Int) - y ∧ ((k / g.W.toNat : Nat) : Int) - y < h.H then
  cat h.Cells ((((k / g.W.toNat : Nat) : Int) - y).toNat * h.W.toNat + (((k % g.W.toNat : Nat) : Int) - x).toNat) else cat g.Cells k
def gPaste (g h : GridD) (x y : Int) : GridD := gmap g (pasteF g h x y)
theorem gmap_len (g : GridD) (f : Nat → CellD) : (gmap g f).Cells.length = g.Cells.length := by simp [gmap]
theorem rep_first {x : List CellD} {n k : Nat} (h : 1 ≤ n) (hk : k = 1) (hx : x.length = 1) : (List.replicate n encCell.dflt).take 0 ++ x.take (min k n) ++ (List.replicate n encCell.dflt).drop (0 + min k n) = List.replicate 1 (gat encCell x 0) ++ List.replicate (n - 1) encCell.dflt := by
 subst hk
 obtain ⟨c, rfl⟩ := List.length_eq_one_iff.1 hx
 rw [show min 1 n = 1 by omega]
 simp [gat]
theorem rep_next {x d : CellD} {n m : Nat} (h1 : 1 ≤ m) (h2 : m ≤ n) : (List.replicate m x ++ List.replicate (n - m) d).take m ++ ((List.replicate m x ++ List.replicate (n - m) d).take m).take (min (m - 0) (n - m)) ++ (List.replicate m x ++ List.replicate (n - m) d).drop (m + min (m - 0) (n - m)) = List.replicate (m + min m (n - m)) x ++ List.replicate (n - (m + min m (n - m))) d := by
 have e1 : (List.replicate m x ++ List.replicate (n - m) d).take m = List.replicate m x := by
  rw [List.take_append_of_le_length (by simp), List.take_of_length_le (by simp)]
 rw [e1, List.take_replicate, Nat.sub_zero, List.drop_append, List.length_replicate, List.drop_of_length_le (by simp), List.nil_append, List.drop_replicate]
 rw [show min (min m (n - m)) m = min m (n - m) by omega, List.replicate_append_replicate]
 congr 2
 omega
theorem dm_uniq {a b r c w : Nat} (hb : b < w) (hc : c < w) (h : a * w + b = r * w + c) : a = r ∧ b = c := by
 have key : ∀ p q : Nat, q < w → (p * w + q) / w = p := fun p q hq => by
  rw [Nat.mul_comm, Nat.mul_add_div (by omega), Nat.div_eq_of_lt hq, Nat.add_zero]
 have h1 := key a b hb
 rw [h, key r c hc] at h1
 subst h1
 exact ⟨rfl, by omega⟩
theorem dm_at {k w a b : Nat} (hb : b < w) : (k / w = a ∧ k % w = b) ↔ k = a * w + b := by
 have h := Nat.div_add_mod k w
 rw [Nat.mul_comm] at h
 constructor
 ·rintro ⟨h1, h2⟩
  rw [← h1, ← h2]; exact h.symm
 ·intro h1
  exact dm_uniq (Nat.mod_lt _ (by omega)) hb (h.trans h1)
def pasteIn (g h : GridD) (x y : Int) (k : Nat) : Prop :=
 (0 ≤ ((k % g.W.toNat : Nat) : Int) - x ∧ ((k % g.W.toNat : Nat) : Int) - x < h.W) ∧ 0 ≤ ((k / g.W.toNat : Nat) : Int) - y ∧ ((k / g.W.toNat : Nat) : Int) - y < h.H
instance (g h : GridD) (x y : Int) (k : Nat) : Decidable (pasteIn g h x y k) := by unfold pasteIn; infer_instance
def psrc (g h : GridD) (x y : Int) (k : Nat) : Nat := (((k / g.W.toNat : Nat) : Int) - y).toNat * h.W.toNat + (((k % g.W.toNat : Nat) : Int) - x).toNat
def pasteTo (g h : GridD) (x y : Int) (i k : Nat) : CellD := if pasteIn g h x y k ∧ psrc g h x y k < i then cat h.Cells (psrc g h x y k) else cat g.Cells k
theorem pasteTo_zero {g h : GridD} {x y : Int} {k : Nat} : pasteTo g h x y 0 k = cat g.Cells k := by
 unfold pasteTo
 rw [if_neg (by omega)]
theorem psrc_lt {g h : GridD} {x y : Int} {k : Nat} (hi : pasteIn g h x y k) : psrc g h x y k < h.H.toNat * h.W.toNat := by
 unfold pasteIn at hi
 unfold psrc
 have h1 : (((k / g.W.toNat : Nat) : Int) - y).toNat + 1 ≤ h.H.toNat := by omega
 have h2 := Nat.mul_le_mul_right h.W.toNat h1
 rw [Nat.add_mul, Nat.one_mul] at h2
 omega
theorem pasteTo_all {g h : GridD} {x y : Int} {i k : Nat} (hi : h.H.toNat * h.W.toNat ≤ i) : pasteTo g h x y i k = pasteF g h x y k := by
 unfold pasteTo pasteF
 by_cases hp : pasteIn g h x y k
 ·rw [if_pos ⟨hp, Nat.lt_of_lt_of_le (psrc_lt hp) hi⟩]
  unfold pasteIn at hp
  rw [if_pos hp]
  rfl
 ·rw [if_neg (fun q => hp q.1)]
  unfold pasteIn at hp
  rw [if_neg hp]
theorem psrc_iff {g h : GridD} {x y : Int} {k r c : Nat} (hc : (c : Int) < h.W) : (pasteIn g h x y k ∧ psrc g h x y k = r * h.W.toNat + c) ↔ ((r : Int) < h.H ∧ ((k / g.W.toNat : Nat) : Int) = y + r ∧ ((k % g.W.toNat : Nat) : Int) = x + c) := by
 unfold pasteIn psrc
 constructor
 ·rintro ⟨h1, h2⟩
  have h3 := dm_uniq (by omega) (by omega) h2
  omega
 ·rintro ⟨h1, h2, h3⟩
  refine ⟨by omega, ?_⟩
  rw [show (((k / g.W.toNat : Nat) : Int) - y).toNat = r by omega, show (((k % g.W.toNat : Nat) : Int) - x).toNat = c by omega]
theorem pasteTo_step {g h : GridD} {x y : Int} {i k : Nat} : pasteTo g h x y (i + 1) k = if pasteIn g h x y k ∧ psrc g h x y k = i then cat h.Cells i else pasteTo g h x y i k := by
 unfold pasteTo
 by_cases hp : pasteIn g h x y k
 ·by_cases he : psrc g h x y k = i
  ·rw [if_pos ⟨hp, by omega⟩, if_pos ⟨hp, he⟩, he]
  ·have h0 : ¬ (pasteIn g h x y k ∧ psrc g h x y k = i) := fun q => he q.2
   by_cases hl : psrc g h x y k < i
   ·rw [if_pos (show pasteIn g h x y k ∧ psrc g h x y k < i + 1 from ⟨hp, by omega⟩), if_neg h0, if_pos ⟨hp, hl⟩]
   ·rw [if_neg (show ¬ (pasteIn g h x y k ∧ psrc g h x y k < i + 1) from fun q => by omega), if_neg h0, if_neg (fun q => hl q.2)]
 ·rw [if_neg (fun q => hp q.1), if_neg (fun q => hp q.1), if_neg (fun q => hp q.1)]
theorem pasteTo_in {g h : GridD} {x y : Int} {k r c : Nat} (hc : (c : Int) < h.W) (hr : (r : Int) < h.H) (h1 : 0 ≤ x + c ∧ x + c < g.W) (h2 : 0 ≤ y + r) : pasteTo g h x y (r * h.W.toNat + c + 1) k = if k = (y + r).toNat * g.W.toNat + (x + c).toNat then cat h.Cells (r * h.W.toNat + c) else pasteTo g h x y (r * h.W.toNat + c) k := by
 rw [pasteTo_step]
 have e : (pasteIn g h x y k ∧ psrc g h x y k = r * h.W.toNat + c) ↔ k = (y + r).toNat * g.W.toNat + (x + c).toNat := by
  rw [psrc_iff hc, ← dm_at (by omega)]
  omega
 by_cases hk : k = (y + r).toNat * g.W.toNat + (x + c).toNat
 ·rw [if_pos (e.2 hk), if_pos hk]
 ·rw [if_neg (fun q => hk (e.1 q)), if_neg hk]
theorem pasteTo_out {g h : GridD} {x y : Int} {k r c : Nat} (hc : (c : Int) < h.W) (hw : 0 < g.W.toNat) (hk : k < g.W.toNat * g.H.toNat) (ho : ¬ ((0 ≤ x + c ∧ x + c < g.W) ∧ 0 ≤ y + r ∧ y + r < g.H)) : pasteTo g h x y (r * h.W.toNat + c + 1) k = pasteTo g h x y (r * h.W.toNat + c) k := by
 rw [pasteTo_step, if_neg]
 rw [psrc_iff hc]
 rintro ⟨h1, h2, h3⟩
 have h4 := Nat.mod_lt k hw
 have h5 : k / g.W.toNat < g.H.toNat := Nat.div_lt_of_lt_mul hk
 generalize k / g.W.toNat = q1 at *
 generalize k % g.W.toNat = q2 at *
 omega
theorem pasteTo_inE {g h : GridD} {x y : Int} {k i r c : Nat} (e : i = r * h.W.toNat + c) (hc : (c : Int) < h.W) (hr : (r : Int) < h.H) (h1 : 0 ≤ x + c ∧ x + c < g.W) (h2 : 0 ≤ y + r) : pasteTo g h x y (i + 1) k = if k = (y + r).toNat * g.W.toNat + (x + c).toNat then cat h.Cells i else pasteTo g h x y i k := by
 subst e; exact pasteTo_in hc hr h1 h2
theorem pasteTo_outE {g h : GridD} {x y : Int} {k i r c : Nat} (e : i = r * h.W.toNat + c) (hc : (c : Int) < h.W) (hw : 0 < g.W.toNat) (hk : k < g.W.toNat * g.H.toNat) (ho : ¬ ((0 ≤ x + c ∧ x + c < g.W) ∧ 0 ≤ y + r ∧ y + r < g.H)) : pasteTo g h x y (i + 1) k = pasteTo g h x y i k := by
 subst e; exact pasteTo_out hc hw hk ho
theorem divmod_ex {i : Nat} {w h : Int} (hw : 1 ≤ w) (hh : 1 ≤ h) (hi : (i : Int) < w * h) : ∃ q m : Nat, (i : Int) / w = q ∧ (i : Int) % w = m ∧ i = q * w.toNat + m ∧ (m : Int) < w ∧ (q : Int) < h := by
 have hm := Nat.mod_lt i (show 0 < w.toNat by omega)
 have e := Nat.div_add_mod i w.toNat
 rw [Nat.mul_comm] at e
 have ew : w = (w.toNat : Int) := by omega
 have eh : h = (h.toNat : Int) := by omega
 have hd : i / w.toNat < h.toNat := Nat.div_lt_of_lt_mul (by rw [ew, eh] at hi; exact_mod_cast hi)
 refine ⟨i / w.toNat, i % w.toNat, ?_, ?_, e.symm, by omega, by omega⟩
 ·rw [Int.natCast_ediv, ← ew]
 ·rw [Int.natCast_emod, ← ew]
theorem gat_set2 {α : Type} {F : Enc α} {xs : List α} {i k : Nat} {v : α} (hi : i < xs.length) : gat F (xs.set i v) k = if k = i then v else gat F xs k := by
 unfold gat
 rw [List.getD_eq_getElem?_getD, List.getD_eq_getElem?_getD, List.getElem?_set]
 by_cases h : i = k
 ·subst h; simp [hi]
 ·rw [if_neg h, if_neg (Ne.symm h)]
theorem gat_cut {α : Type} {F : Enc α} {xs : List α} {m n k : Nat} (h : k < n) : gat F ((xs.drop m).take n) k = gat F xs (m + k) := by
 unfold gat
 rw [List.getD_eq_getElem?_getD, List.getD_eq_getElem?_getD, List.getElem?_take_of_lt h, List.getElem?_drop]
theorem toNat_mul_nat {a : Nat} {b : Int} (hb : 0 ≤ b) : ((a : Int) * b).toNat = a * b.toNat := by
 rw [Int.toNat_mul (by omega) hb]; rfl
def rowAt (g : GridD) (y : Nat) : RowD := ⟨(g.Cells.drop (y * g.W.toNat)).take g.W.toNat⟩
def lastN {α : Type} (n : Nat) (l : List α) : List α := l.drop (l.length - n)
theorem lastN_len {α : Type} {n : Nat} {l : List α} : (lastN n l).length = min l.length n := by simp [lastN]; omega
theorem lastN_all {α : Type} {n : Nat} {l : List α} (h : l.length ≤ n) : lastN n l = l := by
 unfold lastN; rw [show l.length - n = 0 by omega]; rfl
theorem lastN_snoc {α : Type} {n : Nat} {l : List α} {x : α} : lastN n (lastN n l ++ [x]) = lastN n (l ++ [x]) := by
 unfold lastN
 simp only [List.length_append, List.length_drop, List.length_singleton]
 rcases Nat.lt_or_ge n l.length with h | h
 ·rw [List.drop_append, List.drop_append, List.drop_drop, List.length_drop]
  congr 2 <;> omega
 ·rw [show l.length - n = 0 by omega]
  simp
def keepRows (s : ScrD) (n : Nat) : ScrD := { s with Back := lastN s.Limit.toNat (s.Back ++ (List.range n).map (rowAt s.Main)) }
theorem range_snoc {α : Type} {f : Nat → α} {n : Nat} : (List.range (n + 1)).map f = (List.range n).map f ++ [f n] := by
 rw [List.range_succ, List.map_append]; rfl
theorem keepRows_succ {s : ScrD} {n : Nat} : keepRows s (n + 1) = { keepRows s n with Back := lastN s.Limit.toNat ((keepRows s n).Back ++ [rowAt s.Main n]) } := by
 unfold keepRows
 rw [range_snoc, ← List.append_assoc, ← lastN_snoc]
theorem keepRows_zero {s : ScrD} (h : (s.Back.length : Int) ≤ s.Limit) : keepRows s 0 = s := by
 unfold keepRows
 rw [show (List.range 0).map (rowAt s.Main) = [] from rfl, List.append_nil, lastN_all (by omega)]
def sizeD (s : ScrD) (h : Int) : Int := max 0 (s.Y - h + 1)
def scrSize1 (s : ScrD) (h : Int) : ScrD := if s.OnAlt = true then s else keepRows s (sizeD s h).toNat
def scrSizeOf (s : ScrD) (w h : Int) : ScrD :=
 { scrSize1 s h with W := w, H := h, Main := gPaste (gridNew w h) s.Main 0 (-sizeD s h), Alt := gPaste (gridNew w h) s.Alt 0 (-sizeD s h), X := min s.X (w - 1), Y := s.Y - sizeD s h, Wrap := false, Top := 0, Bot := h - 1, Tabs := tabsL w, SaveX := min s.SaveX (w - 1), SaveY := min s.SaveY (h - 1) }
def scrSizeOk (s : ScrD) (w h : Int) : Bool := scrOk s && isSize w h
def scrSizeRes (s : ScrD) (w h : Int) : ScrD := if scrSizeOk s w h = true then scrSizeOf s w h else scr0
theorem smScr_mono {B B' : Nat} {s : ScrD} (h : smScr B s) (hB : B ≤ B') : smScr B' s := ⟨Nat.le_trans h.1 hB, Nat.le_trans h.2.1 hB, Nat.le_trans h.2.2.1 hB, Nat.le_trans h.2.2.2.1 hB, fun y hy => Nat.le_trans (h.2.2.2.2 y hy) hB⟩
theorem rowAt_len {g : GridD} {i : Nat} : (rowAt g i).Cells.length ≤ g.W.toNat := by
 unfold rowAt
 rw [List.length_take]
 exact Nat.min_le_left _ _
def keepTo (s : ScrD) (n : Nat) : ScrD := { s with Back := s.Back ++ (List.range n).map (rowAt s.Main) }
theorem keepTo_zero {s : ScrD} : keepTo s 0 = s := by
 unfold keepTo
 rw [show (List.range 0).map (rowAt s.Main) = [] from rfl, List.append_nil]
theorem keepTo_succ {s : ScrD} {n : Nat} {r : RowD} (h : r = rowAt s.Main n) : keepTo s (n + 1) = { keepTo s n with Back := (keepTo s n).Back ++ [r] } := by
 subst h
 unfold keepTo
 rw [range_snoc, ← List.append_assoc]
theorem keepTo_sm {s : ScrD} {n B : Nat} (h : smScr B s) (hg : gridOk s.Main = true) (hl : s.Back.length + n ≤ B) (hB : 120 ≤ B) : smScr B (keepTo s n) := by
 refine ⟨h.1, h.2.1, h.2.2.1, by simp only [keepTo, List.length_append, List.length_map, List.length_range]; exact hl, fun y hy => ?_⟩
 rcases List.mem_append.1 hy with hy | hy
 ·exact h.2.2.2.2 y hy
 ·obtain ⟨i, _, rfl⟩ := List.mem_map.1 hy
  have h1 := gridOk_bnd hg
  exact Nat.le_trans rowAt_len (by omega)
theorem keepTo_drop {s d : ScrD} {n k : Nat} (h : d = keepTo s n) (hk : k = d.Back.length - s.Limit.toNat) : { d with Back := d.Back.drop k } = keepRows s n := by subst h; subst hk; rfl
theorem keepTo_all {s d : ScrD} {n : Nat} (h : d = keepTo s n) (hk : d.Back.length ≤ s.Limit.toNat) : d = keepRows s n := by
 subst h
 unfold keepRows
 rw [lastN_all (l := s.Back ++ List.map (rowAt s.Main) (List.range n)) hk]; rfl
theorem keepRows_sm {s : ScrD} {n B : Nat} (h : smScr B s) (hg : gridOk s.Main = true) (hB : 120 ≤ B) (hl : s.Limit.toNat ≤ B) : smScr B (keepRows s n) := by
 refine ⟨h.1, h.2.1, h.2.2.1, by simp only [keepRows]; rw [lastN_len]; omega, fun y hy => ?_⟩
 have hy' := List.mem_of_mem_drop hy
 rcases List.mem_append.1 hy' with hy | hy
 ·exact h.2.2.2.2 y hy
 ·obtain ⟨i, _, rfl⟩ := List.mem_map.1 hy
  have h1 := gridOk_bnd hg
  exact Nat.le_trans rowAt_len (by omega)
theorem ownScrR.lens {r : ScrR} {L : Hp} (h : ownScrR r L) : (r.Main.Cells.xs.length = r.Main.Cells.n ∧ r.Main.Cells.n ≤ r.Main.Cells.c) ∧ (r.Alt.Cells.xs.length = r.Alt.Cells.n ∧ r.Alt.Cells.n ≤ r.Alt.Cells.c) ∧ (r.Tabs.xs.length = r.Tabs.n ∧ r.Tabs.n ≤ r.Tabs.c) ∧ (r.Back.xs.length = r.Back.n ∧ r.Back.n ≤ r.Back.c) := by
 obtain ⟨L1, L2, L3, L4, rfl, o1, o2, o3, o4⟩ := h
 exact ⟨⟨OwnF.len_ o1, OwnF.cap o1⟩, ⟨OwnF.len_ o2, OwnF.cap o2⟩, ⟨OwnF.len_ o3, OwnF.cap o3⟩, ⟨OwnN.len_ o4, OwnN.cap o4⟩⟩
def keepOne (s : ScrD) (y : Nat) : ScrD := { s with Back := lastN s.Limit.toNat (s.Back ++ [rowAt s.Main y]) }
theorem keepOne_succ {s : ScrD} {n : Nat} : keepOne (keepRows s n) n = keepRows s (n + 1) := keepRows_succ.symm
theorem keepOne_drop {s : ScrD} {y k : Nat} (hk : k = s.Back.length + 1 - s.Limit.toNat) : { s with Back := (s.Back ++ [rowAt s.Main y]).drop k } = keepOne s y := by
 unfold keepOne lastN
 rw [hk, List.length_append]; rfl
theorem keepOne_all {s : ScrD} {y : Nat} (hk : s.Back.length + 1 ≤ s.Limit.toNat) : { s with Back := s.Back ++ [rowAt s.Main y] } = keepOne s y := by
 unfold keepOne
 rw [lastN_all (by rw [List.length_append]; exact hk)]
theorem gridFit_ok {g : GridD} {w h : Int} (hf : gridFit g w h = true) : gridOk g = true := by
 unfold gridFit at hf
 rw [Bool.and_eq_true] at hf
 exact hf.1
theorem scrOk_P {s : ScrD} (h : scrOk s = true) : scrP1 s = true ∧ scrP2 s = true ∧ scrP3 s = true ∧ scrP4 s = true ∧ isAsc s.Tabs 0 (s.W - 1) = true ∧ s.Back.all rowOk = true := by
 unfold scrOk scrIn at h
 simp only [Bool.and_eq_true] at h
 exact ⟨h.1.1.1.1, h.1.1.1.2, h.1.1.2.1, h.1.1.2.2, h.1.2, h.2⟩
theorem scrOk_main {s : ScrD} (h : scrOk s = true) : gridOk s.Main = true ∧ gridOk s.Alt = true := by
 have h1 := (scrOk_P h).1
 unfold scrP1 at h1
 rw [Bool.and_eq_true] at h1
 exact ⟨gridFit_ok h1.1, gridFit_ok h1.2⟩
theorem scrOk_bnd {s : ScrD} (h : scrOk s = true) : ((1 ≤ s.W ∧ s.W ≤ 120) ∧ (1 ≤ s.H ∧ s.H ≤ 120) ∧ s.Main.W = s.W ∧ s.Main.H = s.H ∧ s.Alt.W = s.W ∧ s.Alt.H = s.H) ∧ ((0 ≤ s.X ∧ s.X < s.W) ∧ 0 ≤ s.Y ∧ s.Y < s.H) ∧ ((0 ≤ s.SaveX ∧ s.SaveX < s.W) ∧ 0 ≤ s.SaveY ∧ s.SaveY < s.H) ∧ (0 ≤ s.Top ∧ s.Top ≤ s.Bot ∧ s.Bot < s.H) ∧ (0 ≤ s.Limit ∧ s.Limit ≤ 100) ∧ (s.Back.length : Int) ≤ s.Limit := by
 obtain ⟨h1, h2, h3, h4, _, _⟩ := scrOk_P h
 have b := scrP1_bnd h1
 unfold scrP2 gridHas at h2
 unfold scrP3 at h3
 unfold scrP4 at h4
 simp only [Bool.and_eq_true, within_iff, decide_eq_true_eq] at h2 h3 h4
 omega
theorem gridOk_new {w h : Int} (hs : isSize w h = true) : gridOk (gridNew w h) = true := by
 obtain ⟨h1, h2, h3, h4⟩ := isSize_bnd hs
 unfold gridOk
 rw [Bool.and_eq_true, Bool.and_eq_true]
 refine ⟨⟨hs, ?_⟩, ?_⟩
 ·rw [decide_eq_true_eq]
  show ((List.replicate (w * h).toNat blankC).length : Int) = w * h
  rw [List.length_replicate]; omega
 ·show cellsOk (List.replicate (w * h).toNat blankC) = true
  unfold cellsOk
  rw [List.all_eq_true]
  intro x hx
  rw [List.mem_replicate] at hx
  rw [hx.2]; decide
theorem gridNew_sm {w h : Int} {B : Nat} (hs : isSize w h = true) (hB : 4000 ≤ B) : smGrid B (gridNew w h) := by
 obtain ⟨h1, h2, h3, h4⟩ := isSize_bnd hs
 show (List.replicate (w * h).toNat blankC).length ≤ B
 rw [List.length_replicate]; omega
theorem sizeD_nat {s : ScrD} {h : Int} : ((sizeD s h).toNat : Int) = sizeD s h := by unfold sizeD; omega
theorem tots_le {l : List RowD} {k : Nat} (h : ∀ y, y ∈ l → y.Cells.length ≤ k) : tots totRow l ≤ l.length * (k + 1) := by
 unfold tots
 have : (l.map totRow).sum ≤ l.length * k := by
  induction l with
  | nil => simp
  | cons y r ih =>
   have h1 := ih (fun z hz => h z (List.mem_cons_of_mem _ hz))
   have h2 := h y List.mem_cons_self
   simp only [List.map_cons, List.sum_cons, List.length_cons, totRow, Nat.add_mul]
   omega
 rw [Nat.mul_add]
 omega
theorem rowOk_len {r : RowD} (h : rowOk r = true) : r.Cells.length ≤ 120 := by
 unfold rowOk at h
 rw [Bool.and_eq_true, within_iff] at h
 omega
theorem gPaste_len {g h : GridD} {x y : Int} : (gPaste g h x y).Cells.length = g.Cells.length := gmap_len _ _
theorem back_bnd {b : List RowD} {l : Int} (h : ∀ y, y ∈ b → y.Cells.length ≤ 120) (hl : (b.length : Int) ≤ l) (h2 : l ≤ 100) : tots totRow b ≤ 12100 := by
 have h1 := tots_le h
 have h3 : b.length * 121 ≤ 100 * 121 := Nat.mul_le_mul_right _ (by omega)
 omega
theorem scrOk_back {s : ScrD} (h : scrOk s = true) : ∀ y, y ∈ s.Back → y.Cells.length ≤ 120 := by
 have := (scrOk_P h).2.2.2.2.2
 rw [List.all_eq_true] at this
 exact fun y hy => rowOk_len (this y hy)
theorem scrSize1_bnd {s : ScrD} {h : Int} (hok : scrOk s = true) : tots totRow (scrSize1 s h).Back ≤ 12100 := by
 obtain ⟨_, _, _, _, hl, hb⟩ := scrOk_bnd hok
 unfold scrSize1
 split
 ·exact back_bnd (scrOk_back hok) hb hl.2
 ·refine back_bnd (l := s.Limit) (fun y hy => ?_) (by simp only [keepRows]; rw [lastN_len]; omega) hl.2
  have hy' := List.mem_of_mem_drop hy
  rcases List.mem_append.1 hy' with hy | hy
  ·exact scrOk_back hok y hy
  ·obtain ⟨i, _, rfl⟩ := List.mem_map.1 hy
   have h1 := gridOk_bnd (scrOk_main hok).1
   exact Nat.le_trans rowAt_len (by omega)
theorem scrSizeRes_tot {s : ScrD} {w h : Int} : totScr (scrSizeRes s w h) ≤ 20114 := by
 unfold scrSizeRes
 split
 ·rename_i hk
  unfold scrSizeOk at hk
  rw [Bool.and_eq_true] at hk
  obtain ⟨hw, hh, h1, h2⟩ := isSize_bnd hk.2
  have h3 := tabsL_len hw.1
  have h4 : (gridNew w h).Cells.length = (w * h).toNat := List.length_replicate
  have h5 := scrSize1_bnd (h := h) hk.1
  show (gPaste _ _ _ _).Cells.length + (gPaste _ _ _ _).Cells.length + (tabsL w).length + tots totRow (scrSize1 s h).Back ≤ 20114
  rw [gPaste_len, gPaste_len]
  omega
 ·show 0 ≤ 20114; omega
theorem smTerm_mono {B B' : Nat} {t : TermD} (h : smTerm B t) (hB : B ≤ B') : smTerm B' t := ⟨⟨Nat.le_trans h.1.1 hB, Nat.le_trans h.1.2 hB⟩, smScr_mono h.2 hB⟩
def termSizeOk (t : TermD) (w h : Int) : Bool := termOk t && isSize w h
def termSizeRes (t : TermD) (w h : Int) : TermD := if termSizeOk t w h = true then ⟨t.P, scrSizeOf t.S w h⟩ else ⟨vp0, scr0⟩
theorem built_84_0_1_2_3 (x0 : Int) (x1 : Bool) (x2 : Option Addr) (x3 : Nat) (x4 : Nat) (x5 : Option Addr) (x6 : Nat) (x7 : Nat) : Tryz.prog.built 84 [(0, .int .i64 x0), (1, .bool x1), (2, .slice x2 x3 x4), (3, .slice x5 x6 x7)] = some (List.toArray [.int .i64 x0, .bool x1, .slice x2 x3 x4, .slice x5 x6 x7]) := by kernel_rfl
theorem built_91_0_1 (x0 : Value) (x1 : Value) (x2 : Value) (x3 : Value) (x4 : Value) (x5 : Value) (x6 : Value) (x7 : Value) (x8 : Value) (x9 : Value) (x10 : Value) (x11 : Value) (x12 : Value) (x13 : Value) (x14 : Value) (x15 : Value) (x16 : Value) (x17 : Value) (x18 : Value) (x19 : Value) (x20 : Value) (x21 : Value) (x22 : Value) (x23 : Value) (x24 : Value) (x25 : Value) (x26 : Value) (x27 : Value) (x28 : Value) (x29 : Value) (x30 : Value) (x31 : Value) (x32 : Value) (x33 : Value) (x34 : Value) : Tryz.prog.built 91 [(0, .agg [x0, x1, x2, x3].toArray), (1, .agg [x4, x5, x6, x7, x8, x9, x10, x11, x12, x13, x14, x15, x16, x17, x18, x19, x20, x21, x22, x23, x24, x25, x26, x27, x28, x29, x30, x31, x32, x33, x34].toArray)] = some (List.toArray [x0, x1, x2, x3, x4, x5, x6, x7, x8, x9, x10, x11, x12, x13, x14, x15, x16, x17, x18, x19, x20, x21, x22, x23, x24, x25, x26, x27, x28, x29, x30, x31, x32, x33, x34]) := by kernel_rfl
theorem k84_ (p : VpR) (w : World) (f_p : okVpR 549755813888 w p) (hsm : smVp 1048576 p.dat) :
    Calls Tryz.prog 192 #[.agg #[i64 p.State, .bool p.Mark, .slice p.Args.A p.Args.n p.Args.c, .slice p.Part.A p.Part.n p.Part.c]] w fun e w' => ∃ r L1, e = .returned (.agg #[i64 r.State, .bool r.Mark, .slice r.Args.A r.Args.n r.Args.c, .slice r.Part.A r.Part.n r.Part.c]) ∧ St w [] L1 w' ∧ ownVpR r L1 ∧ r.dat = p.dat := by
 have nb_p_Args := f_p.Args_n
 have nl_p_Args := f_p.Args.len
 have nb_p_Part := f_p.Part_n
 have nl_p_Part := f_p.Part.len
 have hsB : smVp 549755813888 p.dat := ⟨Nat.le_trans hsm.1 (by decide), Nat.le_trans hsm.2 (by decide)⟩
 have hsa : p.Args.xs.length ≤ 1048576 := hsm.1
 have hsp : p.Part.xs.length ≤ 1048576 := hsm.2
 refine enter 14 Tryz.func192 rfl Tryz.ntmps192 rfl rfl ?_
 have hs1 := St.init w
 refine WC.sr (WL.bx hs1 rfl (fun b2 _ hs3 => WL.al hs3 Tryz.zeroValue84 rfl rfl (fun b4 _ hs5 => WL.nil (WC.seq (fun K6 hK6 => WC.rH hs5.d1 hs5 (fun _ hs7 => ?_))))))
 refine WH.rn [0, 1, 2, 3, 4, 5, 7, 8] hs7.d1 [0, 0, 0, 0] rfl rfl (WH.o1 6 rfl (WL.cl Tryz.call149 rfl (k73_ _ _ _ _ _ (SlF.st0 f_p.Args hs7) ?_) ?_))
 · first | assumption | rfl | omega
 rintro _ whs8 ⟨A9, c10, L1_11, rfl, hs8, ho12⟩
 replace hs8 := hs7.callF hs8
 refine ⟨_, rfl, ?_⟩
 replace hs8 := St.back [_, _] hs8
 refine WL.nil ⟨(hs8.d1.rm L1_11), WH.o1 9 rfl (WL.cl Tryz.call226 rfl (k78_ _ _ _ _ _ (SlF.st0 f_p.Part hs8) ?_) ?_)⟩
 · first | assumption | rfl | omega
 rintro _ whs13 ⟨A14, c15, L1_16, rfl, hs13, ho17⟩
 replace hs13 := hs8.callF hs13
 refine ⟨_, rfl, ?_⟩
 replace hs13 := St.back [_, _] hs13
 refine WL.nil ⟨((hs13.d1.rm L1_16).rm L1_11), ?_⟩
 refine WH.take 10 rfl (by kernel_rfl) rfl rfl rfl ((hs13.d1.rm L1_16).rm L1_11) (fun w_ hs_ => (Run.build rfl rfl rfl rfl (built_84_0_1_2_3 _ _ _ _ _ _ _ _))) ?_
 refine WH.o1 11 rfl (WL.st tbk hs13 0 rfl rfl (fun _ hs18 => WL.nil ⟨((hs18.d1.rm L1_16).rm L1_11), WH.dn (hK6 _ _ (WC.ret (retV1 rfl (resV.cellA tbk hs18 0 rfl rfl rfl rfl) ?_)))⟩))
 obtain ⟨L20, hs19, ho21⟩ := ownVpR.fl hs18 ho12 ho17
 have hs22 := ((hs19.fb b2).fb b4)
 refine ownVpR.ret rfl (St.keep1 (hs22.fr L20)) ho21 ?_
 · exact VpD.ext' rfl rfl rfl rfl
theorem k85_ (t : TermR) (w : World) (f_t : okTermR 549755813888 w t) (hsm : smTerm 1048576 t.dat) :
    Calls Tryz.prog 147 #[.agg #[i64 t.P.State, .bool t.P.Mark, .slice t.P.Args.A t.P.Args.n t.P.Args.c, .slice t.P.Part.A t.P.Part.n t.P.Part.c, i64 t.S.W, i64 t.S.H, i64 t.S.Main.W, i64 t.S.Main.H, .slice t.S.Main.Cells.A t.S.Main.Cells.n t.S.Main.Cells.c, i64 t.S.Alt.W, i64 t.S.Alt.H, .slice t.S.Alt.Cells.A t.S.Alt.Cells.n t.S.Alt.Cells.c, .bool t.S.OnAlt, i64 t.S.X, i64 t.S.Y, .bool t.S.Wrap, i64 t.S.A.Fg, i64 t.S.A.Bg, .bool t.S.A.Bold, .bool t.S.A.Under, .bool t.S.A.Turn, i64 t.S.Top, i64 t.S.Bot, .bool t.S.NoWrap, .bool t.S.Hide, i64 t.S.SaveX, i64 t.S.SaveY, i64 t.S.SaveA.Fg, i64 t.S.SaveA.Bg, .bool t.S.SaveA.Bold, .bool t.S.SaveA.Under, .bool t.S.SaveA.Turn, .slice t.S.Tabs.A t.S.Tabs.n t.S.Tabs.c, i64 t.S.Limit, .slice t.S.Back.A t.S.Back.n t.S.Back.c]] w fun e w' => ∃ r L1, e = .returned (.agg #[i64 r.P.State, .bool r.P.Mark, .slice r.P.Args.A r.P.Args.n r.P.Args.c, .slice r.P.Part.A r.P.Part.n r.P.Part.c, i64 r.S.W, i64 r.S.H, i64 r.S.Main.W, i64 r.S.Main.H, .slice r.S.Main.Cells.A r.S.Main.Cells.n r.S.Main.Cells.c, i64 r.S.Alt.W, i64 r.S.Alt.H, .slice r.S.Alt.Cells.A r.S.Alt.Cells.n r.S.Alt.Cells.c, .bool r.S.OnAlt, i64 r.S.X, i64 r.S.Y, .bool r.S.Wrap, i64 r.S.A.Fg, i64 r.S.A.Bg, .bool r.S.A.Bold, .bool r.S.A.Under, .bool r.S.A.Turn, i64 r.S.Top, i64 r.S.Bot, .bool r.S.NoWrap, .bool r.S.Hide, i64 r.S.SaveX, i64 r.S.SaveY, i64 r.S.SaveA.Fg, i64 r.S.SaveA.Bg, .bool r.S.SaveA.Bold, .bool r.S.SaveA.Under, .bool r.S.SaveA.Turn, .slice r.S.Tabs.A r.S.Tabs.n r.S.Tabs.c, i64 r.S.Limit, .slice r.S.Back.A r.S.Back.n r.S.Back.c]) ∧ St w [] L1 w' ∧ ownTermR r L1 ∧ r.dat = t.dat := by
 have nb_t_P_Args := f_t.P.Args_n
 have nl_t_P_Args := f_t.P.Args.len
 have nb_t_P_Part := f_t.P.Part_n
 have nl_t_P_Part := f_t.P.Part.len
 have nb_t_S_Main_Cells := f_t.S.Main.Cells_n
 have nl_t_S_Main_Cells := f_t.S.Main.Cells.len
 have nb_t_S_Alt_Cells := f_t.S.Alt.Cells_n
 have nl_t_S_Alt_Cells := f_t.S.Alt.Cells.len
 have nb_t_S_Tabs := f_t.S.Tabs_n
 have nl_t_S_Tabs := f_t.S.Tabs.len
 have nb_t_S_Back := f_t.S.Back_n
 have nl_t_S_Back := f_t.S.Back.sl.len
 refine enter 10 Tryz.func147 rfl Tryz.ntmps147 rfl rfl ?_
 have hs1 := St.init w
 refine WC.sr (WL.bx hs1 rfl (fun b2 _ hs3 => WL.al hs3 Tryz.zeroValue91 rfl rfl (fun b4 _ hs5 => WL.nil (WC.seq (fun K6 hK6 => WC.rH hs5.d1 hs5 (fun _ hs7 => ?_))))))
 refine WH.rn [0, 1, 3, 4] hs7.d1 [0, 0] rfl rfl (WH.o1 2 rfl (WL.cl Tryz.call192 rfl (k84_ t.P _ (okVpR.st0 f_t.P hs7) ?_) ?_))
 · first | assumption | rfl | omega | exact hsm.1 | exact hsm.2
 rintro _ whs8 ⟨r9, L1_10, rfl, hs8, ho11, hd12⟩
 replace hs8 := hs7.callF hs8
 refine ⟨_, rfl, ?_⟩
 replace hs8 := St.back [_, _] hs8
 have hvp := hd12
 refine WL.nil ⟨(hs8.d1.rm L1_10), WH.o1 5 rfl (WL.cl Tryz.call193 rfl (k81_ t.S _ (okScrR.st0 f_t.S hs8) ?_) ?_)⟩
 · first | assumption | rfl | omega | exact hsm.1 | exact hsm.2
 rintro _ whs13 ⟨r14, L1_15, rfl, hs13, ho16, hd17⟩
 replace hs13 := hs8.callF hs13
 refine ⟨_, rfl, ?_⟩
 replace hs13 := St.back [_, _] hs13
 have hsp := hd17
 refine WL.nil ⟨((hs13.d1.rm L1_15).rm L1_10), ?_⟩
 refine WH.take 6 rfl (by kernel_rfl) rfl rfl rfl ((hs13.d1.rm L1_15).rm L1_10) (fun w_ hs_ => (Run.build rfl rfl rfl rfl (built_91_0_1 _ _ _ _ _ _ _ _ _ _ _ _ _ _ _ _ _ _ _ _ _ _ _ _ _ _ _ _ _ _ _ _ _ _ _))) ?_
 refine WH.o1 7 rfl (WL.st tbk hs13 0 rfl rfl (fun _ hs18 => WL.nil ⟨((hs18.d1.rm L1_15).rm L1_10), WH.dn (hK6 _ _ (WC.ret (retV1 rfl (resV.cellA tbk hs18 0 rfl rfl rfl rfl) ?_)))⟩))
 obtain ⟨L19, L20, hs23, ho21, ho22⟩ := ownVpR.op hs18 ho11
 have hs24 := ((hs23.fb b2).fb b4)
 obtain ⟨L25, L26, L27, L28, hs33, ho29, ho30, ho31, ho32⟩ := ownScrR.op hs24 ho16
 have hs34 := ((hs33.fb b2).fb b4)
 obtain ⟨L36, hs35, ho37⟩ := ownTermR.fl hs34 ho21 ho22 ho29 ho30 ho31 ho32
 have hs38 := ((hs35.fb b2).fb b4)
 refine ownTermR.ret rfl (St.keep1 (hs38.fr L36)) ho37 ?_
 · exact TermD.ext' hvp hsp
theorem k86_ (p : VpR) (w : World) (f_p : okVpR 549755813888 w p) (hsm : smVp 1048576 p.dat) :
    Calls Tryz.prog 146 #[.agg #[i64 p.State, .bool p.Mark, .slice p.Args.A p.Args.n p.Args.c, .slice p.Part.A p.Part.n p.Part.c]] w fun e w' => ∃ r L1, e = .returned (.agg #[i64 r.State, .bool r.Mark, .slice r.Args.A r.Args.n r.Args.c, .slice r.Part.A r.Part.n r.Part.c]) ∧ St w [] L1 w' ∧ ownVpR r L1 ∧ r.dat = p.dat := by
 have nb_p_Args := f_p.Args_n
 have nl_p_Args := f_p.Args.len
 have nb_p_Part := f_p.Part_n
 have nl_p_Part := f_p.Part.len
 have hsB : smVp 549755813888 p.dat := ⟨Nat.le_trans hsm.1 (by decide), Nat.le_trans hsm.2 (by decide)⟩
 have hsa : p.Args.xs.length ≤ 1048576 := hsm.1
 have hsp : p.Part.xs.length ≤ 1048576 := hsm.2
 refine enter 14 Tryz.func146 rfl Tryz.ntmps146 rfl rfl ?_
 have hs1 := St.init w
 refine WC.sr (WL.bx hs1 rfl (fun b2 _ hs3 => WL.al hs3 Tryz.zeroValue84 rfl rfl (fun b4 _ hs5 => WL.nil (WC.sr (WL.buildF (F := encI) hs5 ([]) Tryz.runUnderlying60 Tryz.sizeOf3 Tryz.zeroValue3 rfl rfl rfl rfl rfl rfl rfl rfl rfl rfl rfl rfl (fun A9 c10 L6 whs7 hs7 ho8 => ?_))))))
 replace hs7 := St.back [_, _] hs7
 refine WL.r 2 hs7 [1] rfl (WL.appendG (hs7.fr L6) ho8 (SlF.src (SlF.st0 f_p.Args hs7) Tryz.underlying60) Tryz.underlying60 inf3 rfl rfl rfl rfl rfl rfl rfl rfl rfl rfl ?_ (fun A14 c15 L11 whs12 hs12 ho13 => ?_))
 · first | omega | (simp; omega)
 replace hs12 := St.back [_, _] hs12
 refine WL.r 1 hs12 [] rfl (WL.st tbk hs12 1 rfl rfl (fun _ hs16 => WL.nil (WC.sr (WL.buildF (F := encB) hs16 ([]) Tryz.runUnderlying44 Tryz.sizeOf5 Tryz.zeroValue5 rfl rfl rfl rfl rfl rfl rfl rfl rfl rfl rfl rfl (fun A20 c21 L17 whs18 hs18 ho19 => ?_)))))
 replace hs18 := St.back [_, _] hs18
 refine WL.r 2 hs18 [1] rfl (WL.appendG (hs18.fr L17) ho19 (SlF.src (SlF.st0 f_p.Part hs18) Tryz.underlying44) Tryz.underlying44 inf5 rfl rfl rfl rfl rfl rfl rfl rfl rfl rfl ?_ (fun A25 c26 L22 whs23 hs23 ho24 => ?_))
 · first | omega | (simp; omega)
 replace hs23 := St.back [_, _] hs23
 refine WL.r 1 hs23 [] rfl (WL.st tbk hs23 1 rfl rfl (fun _ hs27 => WL.nil (WC.sr (WL.r 1 hs27 [1] rfl (WL.st tbk hs27 0 rfl rfl (fun _ hs28 => WL.nil (WC.ret ?_)))))))
 refine retV1 rfl (resV.cellA tbk hs28 0 rfl rfl rfl rfl) ?_
 obtain ⟨L30, hs29, ho31⟩ := ownVpR.fl hs28 ho13 ho24
 have hs32 := ((hs29.fb b2).fb b4)
 refine ownVpR.ret rfl (St.keep1 (hs32.fr L30)) ho31 ?_
 · exact VpD.ext' rfl rfl rfl rfl
theorem k87_ (t : TermR) (w : World) (f_t : okTermR 549755813888 w t) (hsm : smTerm 1048576 t.dat) :
    Calls Tryz.prog 143 #[.agg #[i64 t.P.State, .bool t.P.Mark, .slice t.P.Args.A t.P.Args.n t.P.Args.c, .slice t.P.Part.A t.P.Part.n t.P.Part.c, i64 t.S.W, i64 t.S.H, i64 t.S.Main.W, i64 t.S.Main.H, .slice t.S.Main.Cells.A t.S.Main.Cells.n t.S.Main.Cells.c, i64 t.S.Alt.W, i64 t.S.Alt.H, .slice t.S.Alt.Cells.A t.S.Alt.Cells.n t.S.Alt.Cells.c, .bool t.S.OnAlt, i64 t.S.X, i64 t.S.Y, .bool t.S.Wrap, i64 t.S.A.Fg, i64 t.S.A.Bg, .bool t.S.A.Bold, .bool t.S.A.Under, .bool t.S.A.Turn, i64 t.S.Top, i64 t.S.Bot, .bool t.S.NoWrap, .bool t.S.Hide, i64 t.S.SaveX, i64 t.S.SaveY, i64 t.S.SaveA.Fg, i64 t.S.SaveA.Bg, .bool t.S.SaveA.Bold, .bool t.S.SaveA.Under, .bool t.S.SaveA.Turn, .slice t.S.Tabs.A t.S.Tabs.n t.S.Tabs.c, i64 t.S.Limit, .slice t.S.Back.A t.S.Back.n t.S.Back.c]] w fun e w' => ∃ r L1, e = .returned (.agg #[i64 r.P.State, .bool r.P.Mark, .slice r.P.Args.A r.P.Args.n r.P.Args.c, .slice r.P.Part.A r.P.Part.n r.P.Part.c, i64 r.S.W, i64 r.S.H, i64 r.S.Main.W, i64 r.S.Main.H, .slice r.S.Main.Cells.A r.S.Main.Cells.n r.S.Main.Cells.c, i64 r.S.Alt.W, i64 r.S.Alt.H, .slice r.S.Alt.Cells.A r.S.Alt.Cells.n r.S.Alt.Cells.c, .bool r.S.OnAlt, i64 r.S.X, i64 r.S.Y, .bool r.S.Wrap, i64 r.S.A.Fg, i64 r.S.A.Bg, .bool r.S.A.Bold, .bool r.S.A.Under, .bool r.S.A.Turn, i64 r.S.Top, i64 r.S.Bot, .bool r.S.NoWrap, .bool r.S.Hide, i64 r.S.SaveX, i64 r.S.SaveY, i64 r.S.SaveA.Fg, i64 r.S.SaveA.Bg, .bool r.S.SaveA.Bold, .bool r.S.SaveA.Under, .bool r.S.SaveA.Turn, .slice r.S.Tabs.A r.S.Tabs.n r.S.Tabs.c, i64 r.S.Limit, .slice r.S.Back.A r.S.Back.n r.S.Back.c]) ∧ St w [] L1 w' ∧ ownTermR r L1 ∧ r.dat = t.dat := by
 have nb_t_P_Args := f_t.P.Args_n
 have nl_t_P_Args := f_t.P.Args.len
 have nb_t_P_Part := f_t.P.Part_n
 have nl_t_P_Part := f_t.P.Part.len
 have nb_t_S_Main_Cells := f_t.S.Main.Cells_n
 have nl_t_S_Main_Cells := f_t.S.Main.Cells.len
 have nb_t_S_Alt_Cells := f_t.S.Alt.Cells_n
 have nl_t_S_Alt_Cells := f_t.S.Alt.Cells.len
 have nb_t_S_Tabs := f_t.S.Tabs_n
 have nl_t_S_Tabs := f_t.S.Tabs.len
 have nb_t_S_Back := f_t.S.Back_n
 have nl_t_S_Back := f_t.S.Back.sl.len
 refine enter 10 Tryz.func143 rfl Tryz.ntmps143 rfl rfl ?_
 have hs1 := St.init w
 refine WC.sr (WL.bx hs1 rfl (fun b2 _ hs3 => WL.al hs3 Tryz.zeroValue91 rfl rfl (fun b4 _ hs5 => WL.nil (WC.seq (fun K6 hK6 => WC.rH hs5.d1 hs5 (fun _ hs7 => ?_))))))
 refine WH.rn [0, 1, 3, 4] hs7.d1 [0, 0] rfl rfl (WH.o1 2 rfl (WL.cl Tryz.call146 rfl (k86_ t.P _ (okVpR.st0 f_t.P hs7) ?_) ?_))
 · first | assumption | rfl | omega | exact hsm.1 | exact hsm.2
 rintro _ whs8 ⟨r9, L1_10, rfl, hs8, ho11, hd12⟩
 replace hs8 := hs7.callF hs8
 refine ⟨_, rfl, ?_⟩
 replace hs8 := St.back [_, _] hs8
 have hvp := hd12
 refine WL.nil ⟨(hs8.d1.rm L1_10), WH.o1 5 rfl (WL.cl Tryz.call187 rfl (k83_ t.S _ (okScrR.st0 f_t.S hs8) ?_) ?_)⟩
 · first | assumption | rfl | omega | exact hsm.1 | exact hsm.2
 rintro _ whs13 ⟨r14, L1_15, rfl, hs13, ho16, hd17⟩
 replace hs13 := hs8.callF hs13
 refine ⟨_, rfl, ?_⟩
 replace hs13 := St.back [_, _] hs13
 have hsp := hd17
 refine WL.nil ⟨((hs13.d1.rm L1_15).rm L1_10), ?_⟩
 refine WH.take 6 rfl (by kernel_rfl) rfl rfl rfl ((hs13.d1.rm L1_15).rm L1_10) (fun w_ hs_ => (Run.build rfl rfl rfl rfl (built_91_0_1 _ _ _ _ _ _ _ _ _ _ _ _ _ _ _ _ _ _ _ _ _ _ _ _ _ _ _ _ _ _ _ _ _ _ _))) ?_
 refine WH.o1 7 rfl (WL.st tbk hs13 0 rfl rfl (fun _ hs18 => WL.nil ⟨((hs18.d1.rm L1_15).rm L1_10), WH.dn (hK6 _ _ (WC.ret (retV1 rfl (resV.cellA tbk hs18 0 rfl rfl rfl rfl) ?_)))⟩))
 obtain ⟨L19, L20, hs23, ho21, ho22⟩ := ownVpR.op hs18 ho11
 have hs24 := ((hs23.fb b2).fb b4)
 obtain ⟨L25, L26, L27, L28, hs33, ho29, ho30, ho31, ho32⟩ := ownScrR.op hs24 ho16
 have hs34 := ((hs33.fb b2).fb b4)
 obtain ⟨L36, hs35, ho37⟩ := ownTermR.fl hs34 ho21 ho22 ho29 ho30 ho31 ho32
 have hs38 := ((hs35.fb b2).fb b4)
 refine ownTermR.ret rfl (St.keep1 (hs38.fr L36)) ho37 ?_
 · exact TermD.ext' hvp hsp
theorem find_findI {α : Type} {p : α → Bool} : ∀ {xs : List α}, xs.find? p = if 0 ≤ findI p xs then xs[(findI p xs).toNat]? else none := by
 intro xs
 rcases findI_cases (p := p) (xs := xs) with ⟨h1, h2⟩ | ⟨i, h, h1, h2, h3⟩
 ·rw [h1, if_neg (by omega), List.find?_eq_none]
  intro x hx; rw [h2 x hx]; decide
 ·rw [h1, if_pos (by omega), Int.toNat_natCast, List.getElem?_eq_getElem h, List.find?_eq_some_iff_getElem]
  exact ⟨by simpa using h2, i, h, rfl, fun j hj => by rw [h3 j hj]; rfl⟩
def winHas (p : Int) (w : WinD) : Bool := hasI (leavesL w.Tree) p
def areaW (s : StateD) (p : Int) (w : WinD) : Int × Int := if (w.Zoom && decide (w.Active = p)) = true then (s.W, s.H) else ((placeR w.Tree s.W s.H p).W, (placeR w.Tree s.W s.H p).H)
def areaD (s : StateD) (p : Int) : Int × Int :=
 match s.Wins.find? (winHas p) with
 | none => (0, 0)
 | some w => areaW s p w
theorem termOk_P {t : TermD} (h : termOk t = true) : vpOk t.P = true ∧ scrOk t.S = true := by
 unfold termOk at h
 rwa [Bool.and_eq_true] at h
theorem scrOk_attr {s : ScrD} (h : scrOk s = true) : attrOk s.A.Fg s.A.Bg = true ∧ attrOk s.SaveA.Fg s.SaveA.Bg = true := by
 have h2 := (scrOk_P h).2.1
 unfold scrP2 at h2
 simp only [Bool.and_eq_true] at h2
 exact h2.2.2
theorem gridOk_cells {g : GridD} (h : gridOk g = true) : g.Cells.length ≤ 4000 ∧ cellsOk g.Cells = true := by
 have b := gridOk_bnd h
 unfold gridOk at h
 rw [Bool.and_eq_true, Bool.and_eq_true, decide_eq_true_eq] at h
 exact ⟨by omega, h.2⟩
set_option maxHeartbeats 4000000 in
theorem k88_ (a : PaneR) (left : Int) (w : World) (f_a : okPaneR 9223372036854775807 w a) (h1 : 0 ≤ left) (h2 : left ≤ 1048576) :
    Calls Tryz.prog 98 #[.agg #[i64 a.Id, .string a.Cmd, .string a.Dir, i64 a.Life, i64 a.Code, i64 a.Pid, i64 a.Term.P.State, .bool a.Term.P.Mark, .slice a.Term.P.Args.A a.Term.P.Args.n a.Term.P.Args.c, .slice a.Term.P.Part.A a.Term.P.Part.n a.Term.P.Part.c, i64 a.Term.S.W, i64 a.Term.S.H, i64 a.Term.S.Main.W, i64 a.Term.S.Main.H, .slice a.Term.S.Main.Cells.A a.Term.S.Main.Cells.n a.Term.S.Main.Cells.c, i64 a.Term.S.Alt.W, i64 a.Term.S.Alt.H, .slice a.Term.S.Alt.Cells.A a.Term.S.Alt.Cells.n a.Term.S.Alt.Cells.c, .bool a.Term.S.OnAlt, i64 a.Term.S.X, i64 a.Term.S.Y, .bool a.Term.S.Wrap, i64 a.Term.S.A.Fg, i64 a.Term.S.A.Bg, .bool a.Term.S.A.Bold, .bool a.Term.S.A.Under, .bool a.Term.S.A.Turn, i64 a.Term.S.Top, i64 a.Term.S.Bot, .bool a.Term.S.NoWrap, .bool a.Term.S.Hide, i64 a.Term.S.SaveX, i64 a.Term.S.SaveY, i64 a.Term.S.SaveA.Fg, i64 a.Term.S.SaveA.Bg, .bool a.Term.S.SaveA.Bold, .bool a.Term.S.SaveA.Under, .bool a.Term.S.SaveA.Turn, .slice a.Term.S.Tabs.A a.Term.S.Tabs.n a.Term.S.Tabs.c, i64 a.Term.S.Limit, .slice a.Term.S.Back.A a.Term.S.Back.n a.Term.S.Back.c], i64 left] w fun e w' => e = .returned (.int .i64 (szR left (totPane a.dat))) ∧ St w [] [] w' := by
 have nz_a_Cmd := f_a.Cmd_z
 have nz_a_Dir := f_a.Dir_z
 have nb_a_Term_P_Args := f_a.Term.P.Args_n
 have nl_a_Term_P_Args := f_a.Term.P.Args.len
 have nb_a_Term_P_Part := f_a.Term.P.Part_n
 have nl_a_Term_P_Part := f_a.Term.P.Part.len
 have nb_a_Term_S_Main_Cells := f_a.Term.S.Main.Cells_n
 have nl_a_Term_S_Main_Cells := f_a.Term.S.Main.Cells.len
 have nb_a_Term_S_Alt_Cells := f_a.Term.S.Alt.Cells_n
 have nl_a_Term_S_Alt_Cells := f_a.Term.S.Alt.Cells.len
 have nb_a_Term_S_Tabs := f_a.Term.S.Tabs_n
 have nl_a_Term_S_Tabs := f_a.Term.S.Tabs.len
 have nb_a_Term_S_Back := f_a.Term.S.Back_n
 have nl_a_Term_S_Back := f_a.Term.S.Back.sl.len
 refine enter 26 Tryz.func98 rfl Tryz.ntmps98 rfl rfl ?_
 have hs1 := St.init w
 refine WC.sr (WL.bx hs1 rfl (fun b2 _ hs3 => WL.r 1 hs3 [] rfl (WL.nil (WC.r1 hs3 [0] rfl (WC.seq (fun K4 hK4 => WC.r1 hs3 [] rfl ?_))))))
 refine WC.cD rfl (fun qh5 => ?_) (fun qh5 => ?_)
 ·try have soh5 := szR_ok qh5 (by omega)
  try have sbh5 := szR_b qh5 (by omega) (by first | assumption | omega)
  try have snh5 := szR_no qh5
  refine WC.r1 hs3 [] rfl (WC.ret (tkR ?_))
  clear hK4
  refine rtv rfl rfl hs3 ?_
  simp only [totGrid, totPane, totScr, totTerm, totVp, GridR.dat, PaneR.dat, ScrR.dat, TermR.dat, VpR.dat] at *; first | (rw [szR_lt (by omega)]; done) | (refine congrArg (Value.int _) ?_; symm; refine (szR_le ?_).trans ?_ <;> omega) | rfl
 try have soh5 := szR_ok qh5 (by omega)
 try have sbh5 := szR_b qh5 (by omega) (by first | assumption | omega)
 try have snh5 := szR_no qh5
 refine WC.skip (hK4 _ _ (WC.r1 hs3 [0] rfl (WC.seq (fun K6 hK6 => WC.r1 hs3 [] rfl ?_))))
 refine WC.cD rfl (fun qh7 => ?_) (fun qh7 => ?_)
 ·try have soh7 := szR_ok qh7 (by omega)
  try have sbh7 := szR_b qh7 (by omega) (by first | assumption | omega)
  try have snh7 := szR_no qh7
  refine WC.r1 hs3 [] rfl (WC.ret (tkR ?_))
  clear hK6
  refine rtv rfl rfl hs3 ?_
  simp only [totGrid, totPane, totScr, totTerm, totVp, GridR.dat, PaneR.dat, ScrR.dat, TermR.dat, VpR.dat] at *; first | (rw [szR_lt (by omega)]; done) | (refine congrArg (Value.int _) ?_; symm; refine (szR_le ?_).trans ?_ <;> omega) | rfl
 try have soh7 := szR_ok qh7 (by omega)
 try have sbh7 := szR_b qh7 (by omega) (by first | assumption | omega)
 try have snh7 := szR_no qh7
 refine WC.skip (hK6 _ _ (WC.sr (WL.r 3 hs3 [0] rfl ?_)))
 refine WL.cl Tryz.call158 rfl (k32_ a.Term _ _ (okTermR.st0 f_a.Term hs3) ?_ ?_) ?_
 · first | assumption | omega
 · first | assumption | omega | exact szR_b (by assumption) (by omega) (by first | assumption | omega)
 rintro _ whs8 ⟨rfl, hs8⟩
 replace hs8 := hs3.call0 hs8
 refine ⟨_, rfl, WL.r 1 hs8 [] rfl (WL.nil (WC.seq (fun K9 hK9 => WC.r1 hs8 [] rfl ?_)))⟩
 refine WC.cD rfl (fun qh10 => ?_) (fun qh10 => ?_)
 ·try have soh10 := szR_ok qh10 (by omega)
  try have sbh10 := szR_b qh10 (by omega) (by first | assumption | omega)
  try have snh10 := szR_no qh10
  refine WC.r1 hs8 [] rfl (WC.ret (tkR ?_))
  clear hK9
  refine rtv rfl rfl hs8 ?_
  simp only [totGrid, totPane, totScr, totTerm, totVp, GridR.dat, PaneR.dat, ScrR.dat, TermR.dat, VpR.dat] at *; first | (rw [szR_lt (by omega)]; done) | (refine congrArg (Value.int _) ?_; symm; refine (szR_le ?_).trans ?_ <;> omega) | rfl
 try have soh10 := szR_ok qh10 (by omega)
 try have sbh10 := szR_b qh10 (by omega) (by first | assumption | omega)
 try have snh10 := szR_no qh10
 refine WC.skip (hK9 _ _ (WC.r1 hs8 [] rfl (WC.ret (rtv rfl rfl hs8 ?_))))
 simp only [totGrid, totPane, totScr, totTerm, totVp, GridR.dat, PaneR.dat, ScrR.dat, TermR.dat, VpR.dat] at *; first | (rw [szR_lt (by omega)]; done) | (refine congrArg (Value.int _) ?_; symm; refine (szR_le ?_).trans ?_ <;> omega) | rfl
set_option maxHeartbeats 4000000 in
theorem k89_ (a : PaneR) (w : World) (f_a : okPaneR 549755813888 w a) :
    Calls Tryz.prog 102 #[.agg #[i64 a.Id, .string a.Cmd, .string a.Dir, i64 a.Life, i64 a.Code, i64 a.Pid, i64 a.Term.P.State, .bool a.Term.P.Mark, .slice a.Term.P.Args.A a.Term.P.Args.n a.Term.P.Args.c, .slice a.Term.P.Part.A a.Term.P.Part.n a.Term.P.Part.c, i64 a.Term.S.W, i64 a.Term.S.H, i64 a.Term.S.Main.W, i64 a.Term.S.Main.H, .slice a.Term.S.Main.Cells.A a.Term.S.Main.Cells.n a.Term.S.Main.Cells.c, i64 a.Term.S.Alt.W, i64 a.Term.S.Alt.H, .slice a.Term.S.Alt.Cells.A a.Term.S.Alt.Cells.n a.Term.S.Alt.Cells.c, .bool a.Term.S.OnAlt, i64 a.Term.S.X, i64 a.Term.S.Y, .bool a.Term.S.Wrap, i64 a.Term.S.A.Fg, i64 a.Term.S.A.Bg, .bool a.Term.S.A.Bold, .bool a.Term.S.A.Under, .bool a.Term.S.A.Turn, i64 a.Term.S.Top, i64 a.Term.S.Bot, .bool a.Term.S.NoWrap, .bool a.Term.S.Hide, i64 a.Term.S.SaveX, i64 a.Term.S.SaveY, i64 a.Term.S.SaveA.Fg, i64 a.Term.S.SaveA.Bg, .bool a.Term.S.SaveA.Bold, .bool a.Term.S.SaveA.Under, .bool a.Term.S.SaveA.Turn, .slice a.Term.S.Tabs.A a.Term.S.Tabs.n a.Term.S.Tabs.c, i64 a.Term.S.Limit, .slice a.Term.S.Back.A a.Term.S.Back.n a.Term.S.Back.c]] w fun e w' => ∃ r L1, e = .returned (.agg #[i64 r.Id, .string r.Cmd, .string r.Dir, i64 r.Life, i64 r.Code, i64 r.Pid, i64 r.Term.P.State, .bool r.Term.P.Mark, .slice r.Term.P.Args.A r.Term.P.Args.n r.Term.P.Args.c, .slice r.Term.P.Part.A r.Term.P.Part.n r.Term.P.Part.c, i64 r.Term.S.W, i64 r.Term.S.H, i64 r.Term.S.Main.W, i64 r.Term.S.Main.H, .slice r.Term.S.Main.Cells.A r.Term.S.Main.Cells.n r.Term.S.Main.Cells.c, i64 r.Term.S.Alt.W, i64 r.Term.S.Alt.H, .slice r.Term.S.Alt.Cells.A r.Term.S.Alt.Cells.n r.Term.S.Alt.Cells.c, .bool r.Term.S.OnAlt, i64 r.Term.S.X, i64 r.Term.S.Y, .bool r.Term.S.Wrap, i64 r.Term.S.A.Fg, i64 r.Term.S.A.Bg, .bool r.Term.S.A.Bold, .bool r.Term.S.A.Under, .bool r.Term.S.A.Turn, i64 r.Term.S.Top, i64 r.Term.S.Bot, .bool r.Term.S.NoWrap, .bool r.Term.S.Hide, i64 r.Term.S.SaveX, i64 r.Term.S.SaveY, i64 r.Term.S.SaveA.Fg, i64 r.Term.S.SaveA.Bg, .bool r.Term.S.SaveA.Bold, .bool r.Term.S.SaveA.Under, .bool r.Term.S.SaveA.Turn, .slice r.Term.S.Tabs.A r.Term.S.Tabs.n r.Term.S.Tabs.c, i64 r.Term.S.Limit, .slice r.Term.S.Back.A r.Term.S.Back.n r.Term.S.Back.c]) ∧ St w [] L1 w' ∧ ownPaneR r L1 ∧ r.dat = a.dat := by
 have nz_a_Cmd := f_a.Cmd_z
 have nz_a_Dir := f_a.Dir_z
 have nb_a_Term_P_Args := f_a.Term.P.Args_n
 have nl_a_Term_P_Args := f_a.Term.P.Args.len
 have nb_a_Term_P_Part := f_a.Term.P.Part_n
 have nl_a_Term_P_Part := f_a.Term.P.Part.len
 have nb_a_Term_S_Main_Cells := f_a.Term.S.Main.Cells_n
 have nl_a_Term_S_Main_Cells := f_a.Term.S.Main.Cells.len
 have nb_a_Term_S_Alt_Cells := f_a.Term.S.Alt.Cells_n
 have nl_a_Term_S_Alt_Cells := f_a.Term.S.Alt.Cells.len
 have nb_a_Term_S_Tabs := f_a.Term.S.Tabs_n
 have nl_a_Term_S_Tabs := f_a.Term.S.Tabs.len
 have nb_a_Term_S_Back := f_a.Term.S.Back_n
 have nl_a_Term_S_Back := f_a.Term.S.Back.sl.len
 refine enter 27 Tryz.func102 rfl Tryz.ntmps102 rfl rfl ?_
 have hs1 := St.init w
 refine WC.sr (WL.bx hs1 rfl (fun b2 _ hs3 => WL.al hs3 Tryz.zeroValue93 rfl rfl (fun b4 _ hs5 => WL.nil (WC.sr (WL.al hs5 Tryz.zeroValue93 rfl rfl (fun b6 _ hs7 => WL.nil (WC.sr ?_)))))))
 refine WL.r 3 hs7 [2] rfl (WL.st tbk hs7 0 rfl rfl (fun _ hs8 => WL.nil (WC.sr (WL.r 3 hs8 [2] rfl (WL.st tbk hs8 0 rfl rfl (fun _ hs9 => WL.nil (WC.sr ?_)))))))
 refine WL.r 3 hs9 [2] rfl (WL.st tbk hs9 0 rfl rfl (fun _ hs10 => WL.nil (WC.sr (WL.r 3 hs10 [2] rfl (WL.st tbk hs10 0 rfl rfl (fun _ hs11 => WL.nil (WC.sr ?_)))))))
 refine WL.r 3 hs11 [2] rfl (WL.st tbk hs11 0 rfl rfl (fun _ hs12 => WL.nil (WC.sr (WL.r 3 hs12 [2] rfl (WL.st tbk hs12 0 rfl rfl (fun _ hs13 => WL.nil (WC.sr ?_)))))))
 refine WL.r 2 hs13 [2] rfl (WL.cl Tryz.call162 rfl (k31_ a.Term _ (okTermR.st0 f_a.Term hs13)) ?_)
 rintro _ whs14 ⟨r15, L1_16, rfl, hs14, ho17, hd18⟩
 replace hs14 := hs13.callF hs14
 refine ⟨_, rfl, ?_⟩
 replace hs14 := St.back [_, _, _] hs14
 refine WL.r 1 hs14 [] rfl (WL.st tbk hs14 0 rfl rfl (fun _ hs19 => WL.nil (WC.sr (WL.r 1 hs19 [0] rfl (WL.st tbk hs19 1 rfl rfl (fun _ hs20 => WL.nil (WC.ret ?_)))))))
 refine retV1 rfl (resV.cellA tbk hs20 1 rfl rfl rfl rfl) ?_
 obtain ⟨L21, L22, L23, L24, L25, L26, hs33, ho27, ho28, ho29, ho30, ho31, ho32⟩ := ownTermR.op hs20 ho17
 have hs34 := (((hs33.fb b2).fb b4).fb b6)
 obtain ⟨L36, hs35, ho37⟩ := ownPaneR.fl hs34 ho27 ho28 ho29 ho30 ho31 ho32
 have hs38 := (((hs35.fb b2).fb b4).fb b6)
 refine ⟨⟨a.Id, a.Cmd, a.Dir, a.Life, a.Code, a.Pid, ⟨⟨r15.P.State, r15.P.Mark, SlD.of ho27, SlD.of ho28⟩, ⟨r15.S.W, r15.S.H, ⟨r15.S.Main.W, r15.S.Main.H, SlD.of ho29⟩, ⟨r15.S.Alt.W, r15.S.Alt.H, SlD.of ho30⟩, r15.S.OnAlt, r15.S.X, r15.S.Y, r15.S.Wrap, ⟨r15.S.A.Fg, r15.S.A.Bg, r15.S.A.Bold, r15.S.A.Under, r15.S.A.Turn⟩, r15.S.Top, r15.S.Bot, r15.S.NoWrap, r15.S.Hide, r15.S.SaveX, r15.S.SaveY, ⟨r15.S.SaveA.Fg, r15.S.SaveA.Bg, r15.S.SaveA.Bold, r15.S.SaveA.Under, r15.S.SaveA.Turn⟩, SlD.of ho31, r15.S.Limit, SlD.ofN ho32⟩⟩⟩, _, rfl, (St.keep1 (hs38.fr L36)), ?_, ?_⟩
 · exact (by exact ho37)
 · exact PaneD.ext' rfl rfl rfl rfl rfl rfl hd18
set_option maxHeartbeats 4000000 in
theorem k90_ (a : WinR) (left : Int) (w : World) (f_a : okWinR 9223372036854775807 w a) (h1 : 0 ≤ left) (h2 : left ≤ 1048576) :
    Calls Tryz.prog 99 #[.agg #[i64 a.Id, .string a.Name, .slice a.Tree.A a.Tree.n a.Tree.c, i64 a.Active, .bool a.Zoom], i64 left] w fun e w' => e = .returned (.int .i64 (szR left (totWin a.dat))) ∧ St w [] [] w' := by
 have nz_a_Name := f_a.Name_z
 have nb_a_Tree := f_a.Tree_n
 have nl_a_Tree := f_a.Tree.len
 refine enter 19 Tryz.func99 rfl Tryz.ntmps99 rfl rfl ?_
 have hs1 := St.init w
 refine WC.sr (WL.bx hs1 rfl (fun b2 _ hs3 => WL.r 1 hs3 [] rfl (WL.nil (WC.r1 hs3 [0] rfl (WC.seq (fun K4 hK4 => WC.r1 hs3 [] rfl ?_))))))
 refine WC.cD rfl (fun qh5 => ?_) (fun qh5 => ?_)
 ·try have soh5 := szR_ok qh5 (by omega)
  try have sbh5 := szR_b qh5 (by omega) (by first | assumption | omega)
  try have snh5 := szR_no qh5
  refine WC.r1 hs3 [] rfl (WC.ret (tkR ?_))
  clear hK4
  refine rtv rfl rfl hs3 ?_
  simp only [totWin, WinR.dat] at *; first | (rw [szR_lt (by omega)]; done) | (refine congrArg (Value.int _) ?_; symm; refine (szR_le ?_).trans ?_ <;> omega) | rfl
 try have soh5 := szR_ok qh5 (by omega)
 try have sbh5 := szR_b qh5 (by omega) (by first | assumption | omega)
 try have snh5 := szR_no qh5
 refine WC.skip (hK4 _ _ (WC.sr (WL.r 3 hs3 [0] rfl ?_)))
 refine WL.cl Tryz.call159 rfl (k16_ _ _ _ _ _ _ (SlF.st0 f_a.Tree hs3) ?_ ?_ ?_) ?_
 · first | assumption | omega
 · first | assumption | omega | exact szR_b (by assumption) (by omega) (by first | assumption | omega)
 · first | assumption | omega
 rintro _ whs6 ⟨rfl, hs6⟩
 replace hs6 := hs3.call0 hs6
 refine ⟨_, rfl, WL.r 1 hs6 [] rfl (WL.nil (WC.seq (fun K7 hK7 => WC.r1 hs6 [] rfl ?_)))⟩
 refine WC.cD rfl (fun qh8 => ?_) (fun qh8 => ?_)
 ·try have soh8 := szR_ok qh8 (by omega)
  try have sbh8 := szR_b qh8 (by omega) (by first | assumption | omega)
  try have snh8 := szR_no qh8
  refine WC.r1 hs6 [] rfl (WC.ret (tkR ?_))
  clear hK7
  refine rtv rfl rfl hs6 ?_
  simp only [totWin, WinR.dat] at *; first | (rw [szR_lt (by omega)]; done) | (refine congrArg (Value.int _) ?_; symm; refine (szR_le ?_).trans ?_ <;> omega) | rfl
 try have soh8 := szR_ok qh8 (by omega)
 try have sbh8 := szR_b qh8 (by omega) (by first | assumption | omega)
 try have snh8 := szR_no qh8
 refine WC.skip (hK7 _ _ (WC.r1 hs6 [] rfl (WC.ret (rtv rfl rfl hs6 ?_))))
 simp only [totWin, WinR.dat] at *; first | (rw [szR_lt (by omega)]; done) | (refine congrArg (Value.int _) ?_; symm; refine (szR_le ?_).trans ?_ <;> omega) | rfl
set_option maxHeartbeats 4000000 in
theorem k91_ (a : WinR) (w : World) (f_a : okWinR 549755813888 w a) :
    Calls Tryz.prog 103 #[.agg #[i64 a.Id, .string a.Name, .slice a.Tree.A a.Tree.n a.Tree.c, i64 a.Active, .bool a.Zoom]] w fun e w' => ∃ r L1, e = .returned (.agg #[i64 r.Id, .string r.Name, .slice r.Tree.A r.Tree.n r.Tree.c, i64 r.Active, .bool r.Zoom]) ∧ St w [] L1 w' ∧ ownWinR r L1 ∧ r.dat = a.dat := by
 have nz_a_Name := f_a.Name_z
 have nb_a_Tree := f_a.Tree_n
 have nl_a_Tree := f_a.Tree.len
 refine enter 21 Tryz.func103 rfl Tryz.ntmps103 rfl rfl ?_
 have hs1 := St.init w
 refine WC.sr (WL.bx hs1 rfl (fun b2 _ hs3 => WL.al hs3 Tryz.zeroValue58 rfl rfl (fun b4 _ hs5 => WL.nil (WC.sr (WL.al hs5 Tryz.zeroValue58 rfl rfl (fun b6 _ hs7 => WL.nil (WC.sr ?_)))))))
 refine WL.r 3 hs7 [2] rfl (WL.st tbk hs7 0 rfl rfl (fun _ hs8 => WL.nil (WC.sr (WL.r 3 hs8 [2] rfl (WL.st tbk hs8 0 rfl rfl (fun _ hs9 => WL.nil (WC.sr ?_)))))))
 refine WL.r 2 hs9 [2] rfl (WL.cl Tryz.call163 rfl (k19_ _ _ _ _ _ (SlF.st0 f_a.Tree hs9) ?_) ?_)
 · first | assumption | rfl | omega
 rintro _ whs10 ⟨A11, c12, L1_13, rfl, hs10, ho14⟩
 replace hs10 := hs9.callF hs10
 refine ⟨_, rfl, ?_⟩
 replace hs10 := St.back [_, _, _] hs10
 refine WL.r 1 hs10 [] rfl (WL.st tbk hs10 0 rfl rfl (fun _ hs15 => WL.nil (WC.sr (WL.r 3 hs15 [2] rfl (WL.st tbk hs15 0 rfl rfl (fun _ hs16 => WL.nil (WC.sr ?_)))))))
 refine WL.r 3 hs16 [2] rfl (WL.st tbk hs16 0 rfl rfl (fun _ hs17 => WL.nil (WC.sr (WL.r 1 hs17 [0] rfl (WL.st tbk hs17 1 rfl rfl (fun _ hs18 => WL.nil (WC.ret ?_)))))))
 refine retV1 rfl (resV.cellA tbk hs18 1 rfl rfl rfl rfl) (⟨⟨a.Id, a.Name, SlD.of ho14, a.Active, a.Zoom⟩, _, rfl, (St.keep1 (hs18.fr L1_13)), ?_, ?_⟩)
 · exact ho14
 · exact WinD.ext' rfl rfl rfl rfl rfl
set_option maxHeartbeats 4000000 in
theorem k92_ (a : SessR) (left : Int) (w : World) (f_a : okSessR 9223372036854775807 w a) (h1 : 0 ≤ left) (h2 : left ≤ 1048576) :
    Calls Tryz.prog 100 #[.agg #[.string a.Name, .slice a.Wins.A a.Wins.n a.Wins.c, i64 a.Active], i64 left] w fun e w' => e = .returned (.int .i64 (szR left (totSess a.dat))) ∧ St w [] [] w' := by
 have nz_a_Name := f_a.Name_z
 have nb_a_Wins := f_a.Wins_n
 have nl_a_Wins := f_a.Wins.len
 refine enter 19 Tryz.func100 rfl Tryz.ntmps100 rfl rfl ?_
 have hs1 := St.init w
 refine WC.sr (WL.bx hs1 rfl (fun b2 _ hs3 => WL.r 1 hs3 [] rfl (WL.nil (WC.r1 hs3 [0] rfl (WC.seq (fun K4 hK4 => WC.r1 hs3 [] rfl ?_))))))
 refine WC.cD rfl (fun qh5 => ?_) (fun qh5 => ?_)
 ·try have soh5 := szR_ok qh5 (by omega)
  try have sbh5 := szR_b qh5 (by omega) (by first | assumption | omega)
  try have snh5 := szR_no qh5
  refine WC.r1 hs3 [] rfl (WC.ret (tkR ?_))
  clear hK4
  refine rtv rfl rfl hs3 ?_
  simp only [totSess, SessR.dat] at *; first | (rw [szR_lt (by omega)]; done) | (refine congrArg (Value.int _) ?_; symm; refine (szR_le ?_).trans ?_ <;> omega) | rfl
 try have soh5 := szR_ok qh5 (by omega)
 try have sbh5 := szR_b qh5 (by omega) (by first | assumption | omega)
 try have snh5 := szR_no qh5
 refine WC.skip (hK4 _ _ (WC.sr (WL.r 3 hs3 [0] rfl ?_)))
 refine WL.cl Tryz.call160 rfl (k14_ _ _ _ _ _ _ (SlF.st0 f_a.Wins hs3) ?_ ?_ ?_) ?_
 · first | assumption | omega
 · first | assumption | omega | exact szR_b (by assumption) (by omega) (by first | assumption | omega)
 · first | assumption | omega
 rintro _ whs6 ⟨rfl, hs6⟩
 replace hs6 := hs3.call0 hs6
 refine ⟨_, rfl, WL.r 1 hs6 [] rfl (WL.nil (WC.seq (fun K7 hK7 => WC.r1 hs6 [] rfl ?_)))⟩
 refine WC.cD rfl (fun qh8 => ?_) (fun qh8 => ?_)
 ·try have soh8 := szR_ok qh8 (by omega)
  try have sbh8 := szR_b qh8 (by omega) (by first | assumption | omega)
  try have snh8 := szR_no qh8
  refine WC.r1 hs6 [] rfl (WC.ret (tkR ?_))
  clear hK7
  refine rtv rfl rfl hs6 ?_
  simp only [totSess, SessR.dat] at *; first | (rw [szR_lt (by omega)]; done) | (refine congrArg (Value.int _) ?_; symm; refine (szR_le ?_).trans ?_ <;> omega) | rfl
 try have soh8 := szR_ok qh8 (by omega)
 try have sbh8 := szR_b qh8 (by omega) (by first | assumption | omega)
 try have snh8 := szR_no qh8
 refine WC.skip (hK7 _ _ (WC.r1 hs6 [] rfl (WC.ret (rtv rfl rfl hs6 ?_))))
 simp only [totSess, SessR.dat] at *; first | (rw [szR_lt (by omega)]; done) | (refine congrArg (Value.int _) ?_; symm; refine (szR_le ?_).trans ?_ <;> omega) | rfl
set_option maxHeartbeats 4000000 in
theorem k93_ (a : SessR) (w : World) (f_a : okSessR 549755813888 w a) :
    Calls Tryz.prog 104 #[.agg #[.string a.Name, .slice a.Wins.A a.Wins.n a.Wins.c, i64 a.Active]] w fun e w' => ∃ r L1, e = .returned (.agg #[.string r.Name, .slice r.Wins.A r.Wins.n r.Wins.c, i64 r.Active]) ∧ St w [] L1 w' ∧ ownSessR r L1 ∧ r.dat = a.dat := by
 have nz_a_Name := f_a.Name_z
 have nb_a_Wins := f_a.Wins_n
 have nl_a_Wins := f_a.Wins.len
 refine enter 15 Tryz.func104 rfl Tryz.ntmps104 rfl rfl ?_
 have hs1 := St.init w
 refine WC.sr (WL.bx hs1 rfl (fun b2 _ hs3 => WL.al hs3 Tryz.zeroValue106 rfl rfl (fun b4 _ hs5 => WL.nil (WC.sr (WL.al hs5 Tryz.zeroValue106 rfl rfl (fun b6 _ hs7 => WL.nil (WC.sr ?_)))))))
 refine WL.r 3 hs7 [2] rfl (WL.st tbk hs7 0 rfl rfl (fun _ hs8 => WL.nil (WC.sr (WL.r 2 hs8 [2] rfl ?_))))
 refine WL.cl Tryz.call164 rfl (k15_ _ _ _ _ _ (SlF.st0 f_a.Wins hs8) ?_) ?_
 · first | assumption | rfl | omega
 rintro _ whs9 ⟨A10, c11, L1_12, rfl, hs9, ho13⟩
 replace hs9 := hs8.callF hs9
 refine ⟨_, rfl, ?_⟩
 replace hs9 := St.back [_, _, _] hs9
 refine WL.r 1 hs9 [] rfl (WL.st tbk hs9 0 rfl rfl (fun _ hs14 => WL.nil (WC.sr (WL.r 3 hs14 [2] rfl (WL.st tbk hs14 0 rfl rfl (fun _ hs15 => WL.nil (WC.sr ?_)))))))
 refine WL.r 1 hs15 [0] rfl (WL.st tbk hs15 1 rfl rfl (fun _ hs16 => WL.nil (WC.ret (retV1 rfl (resV.cellA tbk hs16 1 rfl rfl rfl rfl) ?_))))
 refine ⟨⟨a.Name, SlD.of ho13, a.Active⟩, _, rfl, (St.keep1 (hs16.fr L1_12)), ?_, ?_⟩
 · exact ho13
 · exact SessD.ext' rfl rfl rfl
theorem inf58 : Tryz.prog.info? 58 = some Tryz.t58 := by kernel_rfl
theorem inf93 : Tryz.prog.info? 93 = some Tryz.t93 := by kernel_rfl
theorem inf106 : Tryz.prog.info? 106 = some Tryz.t106 := by kernel_rfl
theorem k94_ (A_a : Option Addr) (n_a c_a : Nat) (a : List PaneR) (left : Int) (w : World) (f_a : SlN encPaneR (okPaneR 9223372036854775807) w A_a n_a a) (h1 : 0 ≤ left) (h2 : left ≤ 1048576) (h3 : n_a ≤ 9223372036854775807) :
    Calls Tryz.prog 36 #[.slice A_a n_a c_a, i64 left] w fun e w' => e = .returned (.int .i64 (szR left (tots totPane (a.map PaneR.dat)))) ∧ St w [] [] w' := by
 have hl := f_a.sl.len
 have hT : (tots totPane (a.map PaneR.dat) : Int) = n_a + (a.map (fun x => totPane (PaneR.dat x))).sum := by rw [tots_map, hl]; omega
 refine enter 27 Tryz.func36 rfl Tryz.ntmps36 rfl rfl ?_
 have hs1 := St.init w
 refine WC.r1 hs1 [] rfl (WC.r1 hs1 [] rfl (WC.seq (fun K2 hK2 => WC.r1 hs1 [] rfl ?_)))
 refine WC.cD rfl (fun qh3 => ?_) (fun qh3 => ?_)
 ·refine WC.r1 hs1 [] rfl (WC.ret (tkR ?_))
  clear hK2
  refine rtv rfl rfl hs1 ?_
  rw [szR_lt (by omega)]
 refine WC.skip (hK2 _ _ (WC.seq (fun K4 hK4 => WC.r1 hs1 [] rfl (WC.block ?_))))
 refine WC.lS [0, 11] rfl hs1 (fun k_ f w' => ∃ (i : Nat) (q : Int), k_ = n_a - i ∧ (i ≤ n_a) ∧ (0 ≤ q) ∧ (q + n_a + ((a.take i).map (fun x => totPane (PaneR.dat x))).sum = left) ∧ Sub [(5, .int .i64 i), (1, .int .i64 q)] f) ((fun (i : Nat) (q : Int) => n_a - i) (0) ((left - n_a))) ?_ ?_
 ·refine ⟨0, (left - n_a), rfl, ?_, ?_, ?_, ⟨rfl, rfl, trivial⟩⟩
  · exact Nat.zero_le _
  · omega
  · simp
 clear hs1
 rintro _ f w ⟨i, q, rfl, p0, p1, p2, hG⟩ hF hs5
 refine WC.sub _ (hG.app hF) ?_
 clear hG hF
 refine WC.seq (fun K6 hK6 => WC.r1 hs5 [] rfl ?_)
 refine WC.cD rfl (fun qh7 => ?_) (fun qh7 => ?_)
 ·have hs1 := sum_take (F := encPaneR) (f := (fun x => totPane (PaneR.dat x))) (l := a) (i := i) (by omega)
  have hs2 := sum_take_le (f := (fun x => totPane (PaneR.dat x))) a (i + 1)
  refine WC.skip (hK6 _ _ (WC.seq (fun K8 hK8 => WC.block (WC.sr (WL.r 2 hs5 [] rfl ?_)))))
  refine WL.val rfl rfl rfl (Run.idxN Tryz.runUnderlying22 Tryz.sizeOf143 rfl rfl rfl ?_ ?_ ?_) ?_
  · exact SlF.some_ (SlF.st0 f_a.sl hs5)
  · omega
  · omega
  refine WL.val rfl rfl rfl (Run.loadA Tryz.isAgg143 Tryz.sizeOf143 rfl rfl (SlF.whole (SlF.st0 f_a.sl hs5) ?_)) ?_
  · omega
  refine WL.r 1 hs5 [] rfl (WL.cl Tryz.call98 rfl (k88_ (gat encPaneR a i) _ _ (okPaneR.st0 (SlN.nth f_a (by omega)) hs5) ?_ ?_) ?_)
  · first | assumption | omega
  · first | assumption | omega | exact szR_b (by assumption) (by omega) (by first | assumption | omega)
  rintro _ whs9 ⟨rfl, hs9⟩
  replace hs9 := hs5.call0 hs9
  refine ⟨_, rfl, WL.r 1 hs9 [] rfl (WL.nil (WC.r1 hs9 [] rfl (WC.cD rfl (fun qh10 => ?_) (fun qh10 => ?_))))⟩
  ·refine WC.r1 hs9 [] rfl (WC.ret (ibR (tkR (tkR (ibR (tkR ?_))))))
   clear hK8 hK4
   refine rtv rfl rfl hs9 ?_
   have h9 := szR_no qh10
   rw [szR_lt (by omega)]
  refine WC.skip (hK8 _ _ (WC.region (WL.r 3 hs9 [] rfl (WL.nil (tkN ?_)))))
  refine ⟨sbF rfl, hs9, _, ?_, i + 1, _, rfl, ?_, ?_, ?_, ⟨rfl, rfl, trivial⟩⟩
  · omega
  · omega
  · omega
  · have h9 := szR_ok qh10 (Int.natCast_nonneg _); omega
 refine WC.exit (hK4 _ _ (WC.r1 hs5 [] rfl (WC.ret (rtv rfl rfl hs5 ?_))))
 have h9 : a.take i = a := List.take_of_length_le (by omega)
 rw [h9] at p2
 rw [szR_le (by omega)]
 congr 1; omega
theorem k95_ (A_a : Option Addr) (n_a c_a : Nat) (a : List PaneR) (w : World) (f_a : SlN encPaneR (okPaneR 549755813888) w A_a n_a a) (hn : n_a ≤ 549755813888) :
    Calls Tryz.prog 41 #[.slice A_a n_a c_a] w fun e w' => ∃ A c xs L1, e = .returned (.slice A n_a c) ∧ St w [] L1 w' ∧ OwnN encPaneR ownPaneR 93 (.slice A n_a c) xs L1 ∧ xs.map PaneR.dat = a.map PaneR.dat := by
 have hl := f_a.sl.len
 refine enter 23 Tryz.func41 rfl Tryz.ntmps41 rfl rfl ?_
 have hs1 := St.init w
 refine WC.r1 hs1 [] rfl (WC.sr (WL.r 2 hs1 [] rfl (WL.makeF (F := encPaneR) hs1 Tryz.underlying29 inf93 rfl rfl rfl rfl rfl rfl rfl rfl rfl ?_ ?_ (fun A5 c6 L2 whs3 hs3 ho4 => ?_))))
 · have e_ : Tryz.t93.bytes = 400 := rfl
   rw [e_]; omega
 · omega
 obtain ⟨L7, hs8, ho9⟩ := OwnN.new (own := ownPaneR) hs3 ho4 (⟨[], [], [], [], [], [], rfl, (OwnF.nil _ _), (OwnF.nil _ _), (OwnF.nil _ _), (OwnF.nil _ _), (OwnF.nil _ _), (OwnN.nil _ _ _)⟩)
 refine WL.r 1 hs8 [] rfl (WL.nil (WC.seq (fun K10 hK10 => WC.r1 hs8 [] rfl (WC.block ?_))))
 refine WC.lO [0, 2] rfl hs8 (fun k_ f L_ => ∃ (i : Nat) (ys : List PaneR) (A11 : Option Addr) (c12 : Nat), k_ = n_a - i ∧ (i ≤ n_a) ∧ (ys.length = i) ∧ (ys.map PaneR.dat = (a.take i).map PaneR.dat) ∧ OwnN encPaneR ownPaneR 93 (.slice A11 (n_a) c12) (ys ++ List.replicate (n_a - i) encPaneR.dflt) L_ ∧ Sub [(3, .slice A11 (n_a) c12), (4, .int .i64 i)] f) (((fun (i : Nat) (ys : List PaneR) => n_a - i) (0) ([]))) ?_ ?_
 ·refine ⟨0, [], _, _, rfl, ?_, ?_, ?_, (by simpa using ho9), ⟨rfl, rfl, trivial⟩⟩
  · exact Nat.zero_le _
  · rfl
  · rfl
 clear hs8
 rintro _ f w L13 ⟨i, ys, A11, c12, rfl, p0, p1, p2, ho14, hG⟩ hF hs15
 refine WC.sub _ (hG.app hF) ?_
 clear hG hF
 have hlen : (ys ++ List.replicate (n_a - i) encPaneR.dflt).length = n_a := by simp; omega
 refine WC.seq (fun K16 hK16 => WC.r1 hs15 [] rfl ?_)
 refine WC.cq rfl (fun h17 qh17 => ?_) (fun h17 qh17 => ?_)
 ·refine WC.skip (hK16 _ _ (WC.seq (fun K18 hK18 => WC.block (WC.region (WL.r 4 hs15 [] rfl ?_)))))
  refine WL.val rfl rfl rfl (Run.idxN Tryz.runUnderlying22 Tryz.sizeOf143 rfl rfl rfl ?_ ?_ ?_) ?_
  · exact SlF.some_ (SlF.st0 f_a.sl hs15)
  · omega
  · omega
  refine WL.val rfl rfl rfl (Run.loadA Tryz.isAgg143 Tryz.sizeOf143 rfl rfl (SlF.whole (SlF.st0 f_a.sl hs15) ?_)) ?_
  · omega
  refine WL.cl Tryz.call102 rfl (k89_ (gat encPaneR a i) _ (okPaneR.st0 (SlN.nth f_a (by omega)) hs15)) ?_
  rintro _ whs19 ⟨r20, L1_21, rfl, hs19, ho22, hd23⟩
  replace hs19 := hs15.callF hs19
  refine ⟨_, rfl, WL.val rfl rfl rfl (Run.idxN Tryz.runUnderlying29 Tryz.sizeOf93 rfl rfl rfl ?_ ?_ ?_) ?_⟩
  · exact SlF.some_ (OwnN.sl ho14 (hs19.ow L13))
  · omega
  · omega
  obtain ⟨L24, L25, hs28, ho26, ho27⟩ := OwnN.open_ (hs19.fr L13) ho14
  refine WL.storeF1 (x' := r20) hs28 ho26 Tryz.sizeOf93 rfl rfl rfl rfl rfl rfl rfl rfl rfl ?_ rfl (fun L29 whs30 hs30 ho31 _ => ?_)
  · omega
  obtain ⟨L32, hs34, hb33⟩ := Bag.replace (r := r20) (i := i) ((hs30.fr L1_21).fr L25) ho27 (by omega) ho22
  refine WL.nil (hK18 _ _ (WC.region (WL.r 3 hs34 [] rfl (WL.nil (tkN ?_)))))
  obtain ⟨L36, hs35, ho37⟩ := OwnN.fold (hs34.fr L29) ho31 hb33
  rw [set_at p1 (by omega)] at ho37
  refine ⟨sbF rfl, _, hs35, _, ?_, i + 1, (ys ++ [r20]), _, _, rfl, ?_, ?_, ?_, ho37, ⟨rfl, rfl, trivial⟩⟩
  · omega
  · omega
  · simp; omega
  · rw [List.map_append, p2, map_take_succ (F := encPaneR) (by omega)]; congr 1 <;> simp only [List.map_cons, List.map_nil] <;> congr 1 <;> assumption
 refine WC.exit (hK10 _ _ (WC.r1 hs15 [] rfl (WC.ret (retV1 rfl (resV.tmp rfl) ?_))))
 have hi_ : i = n_a := by omega
 subst hi_
 have hx_ := ho14
 simp only [Nat.sub_self, List.replicate_zero, List.append_nil] at hx_
 exact ⟨_, _, ys, _, rfl, (St.keep1 hs15), hx_, by rw [p2, List.take_of_length_le (by omega)]⟩
theorem k96_ (A_a : Option Addr) (n_a c_a : Nat) (a : List WinR) (left : Int) (w : World) (f_a : SlN encWinR (okWinR 9223372036854775807) w A_a n_a a) (h1 : 0 ≤ left) (h2 : left ≤ 1048576) (h3 : n_a ≤ 9223372036854775807) :
    Calls Tryz.prog 37 #[.slice A_a n_a c_a, i64 left] w fun e w' => e = .returned (.int .i64 (szR left (tots totWin (a.map WinR.dat)))) ∧ St w [] [] w' := by
 have hl := f_a.sl.len
 have hT : (tots totWin (a.map WinR.dat) : Int) = n_a + (a.map (fun x => totWin (WinR.dat x))).sum := by rw [tots_map, hl]; omega
 refine enter 27 Tryz.func37 rfl Tryz.ntmps37 rfl rfl ?_
 have hs1 := St.init w
 refine WC.r1 hs1 [] rfl (WC.r1 hs1 [] rfl (WC.seq (fun K2 hK2 => WC.r1 hs1 [] rfl ?_)))
 refine WC.cD rfl (fun qh3 => ?_) (fun qh3 => ?_)
 ·refine WC.r1 hs1 [] rfl (WC.ret (tkR ?_))
  clear hK2
  refine rtv rfl rfl hs1 ?_
  rw [szR_lt (by omega)]
 refine WC.skip (hK2 _ _ (WC.seq (fun K4 hK4 => WC.r1 hs1 [] rfl (WC.block ?_))))
 refine WC.lS [0, 11] rfl hs1 (fun k_ f w' => ∃ (i : Nat) (q : Int), k_ = n_a - i ∧ (i ≤ n_a) ∧ (0 ≤ q) ∧ (q + n_a + ((a.take i).map (fun x => totWin (WinR.dat x))).sum = left) ∧ Sub [(5, .int .i64 i), (1, .int .i64 q)] f) ((fun (i : Nat) (q : Int) => n_a - i) (0) ((left - n_a))) ?_ ?_
 ·refine ⟨0, (left - n_a), rfl, ?_, ?_, ?_, ⟨rfl, rfl, trivial⟩⟩
  · exact Nat.zero_le _
  · omega
  · simp
 clear hs1
 rintro _ f w ⟨i, q, rfl, p0, p1, p2, hG⟩ hF hs5
 refine WC.sub _ (hG.app hF) ?_
 clear hG hF
 refine WC.seq (fun K6 hK6 => WC.r1 hs5 [] rfl ?_)
 refine WC.cD rfl (fun qh7 => ?_) (fun qh7 => ?_)
 ·have hs1 := sum_take (F := encWinR) (f := (fun x => totWin (WinR.dat x))) (l := a) (i := i) (by omega)
  have hs2 := sum_take_le (f := (fun x => totWin (WinR.dat x))) a (i + 1)
  refine WC.skip (hK6 _ _ (WC.seq (fun K8 hK8 => WC.block (WC.sr (WL.r 2 hs5 [] rfl ?_)))))
  refine WL.val rfl rfl rfl (Run.idxN Tryz.runUnderlying23 Tryz.sizeOf147 rfl rfl rfl ?_ ?_ ?_) ?_
  · exact SlF.some_ (SlF.st0 f_a.sl hs5)
  · omega
  · omega
  refine WL.val rfl rfl rfl (Run.loadA Tryz.isAgg147 Tryz.sizeOf147 rfl rfl (SlF.whole (SlF.st0 f_a.sl hs5) ?_)) ?_
  · omega
  refine WL.r 1 hs5 [] rfl (WL.cl Tryz.call99 rfl (k90_ (gat encWinR a i) _ _ (okWinR.st0 (SlN.nth f_a (by omega)) hs5) ?_ ?_) ?_)
  · first | assumption | omega
  · first | assumption | omega | exact szR_b (by assumption) (by omega) (by first | assumption | omega)
  rintro _ whs9 ⟨rfl, hs9⟩
  replace hs9 := hs5.call0 hs9
  refine ⟨_, rfl, WL.r 1 hs9 [] rfl (WL.nil (WC.r1 hs9 [] rfl (WC.cD rfl (fun qh10 => ?_) (fun qh10 => ?_))))⟩
  ·refine WC.r1 hs9 [] rfl (WC.ret (ibR (tkR (tkR (ibR (tkR ?_))))))
   clear hK8 hK4
   refine rtv rfl rfl hs9 ?_
   have h9 := szR_no qh10
   rw [szR_lt (by omega)]
  refine WC.skip (hK8 _ _ (WC.region (WL.r 3 hs9 [] rfl (WL.nil (tkN ?_)))))
  refine ⟨sbF rfl, hs9, _, ?_, i + 1, _, rfl, ?_, ?_, ?_, ⟨rfl, rfl, trivial⟩⟩
  · omega
  · omega
  · omega
  · have h9 := szR_ok qh10 (Int.natCast_nonneg _); omega
 refine WC.exit (hK4 _ _ (WC.r1 hs5 [] rfl (WC.ret (rtv rfl rfl hs5 ?_))))
 have h9 : a.take i = a := List.take_of_length_le (by omega)
 rw [h9] at p2
 rw [szR_le (by omega)]
 congr 1; omega
theorem k97_ (A_a : Option Addr) (n_a c_a : Nat) (a : List WinR) (w : World) (f_a : SlN encWinR (okWinR 549755813888) w A_a n_a a) (hn : n_a ≤ 549755813888) :
    Calls Tryz.prog 42 #[.slice A_a n_a c_a] w fun e w' => ∃ A c xs L1, e = .returned (.slice A n_a c) ∧ St w [] L1 w' ∧ OwnN encWinR ownWinR 58 (.slice A n_a c) xs L1 ∧ xs.map WinR.dat = a.map WinR.dat := by
 have hl := f_a.sl.len
 refine enter 23 Tryz.func42 rfl Tryz.ntmps42 rfl rfl ?_
 have hs1 := St.init w
 refine WC.r1 hs1 [] rfl (WC.sr (WL.r 2 hs1 [] rfl (WL.makeF (F := encWinR) hs1 Tryz.underlying30 inf58 rfl rfl rfl rfl rfl rfl rfl rfl rfl ?_ ?_ (fun A5 c6 L2 whs3 hs3 ho4 => ?_))))
 · have e_ : Tryz.t58.bytes = 64 := rfl
   rw [e_]; omega
 · omega
 obtain ⟨L7, hs8, ho9⟩ := OwnN.new (own := ownWinR) hs3 ho4 (OwnF.nil _ _)
 refine WL.r 1 hs8 [] rfl (WL.nil (WC.seq (fun K10 hK10 => WC.r1 hs8 [] rfl (WC.block ?_))))
 refine WC.lO [0, 2] rfl hs8 (fun k_ f L_ => ∃ (i : Nat) (ys : List WinR) (A11 : Option Addr) (c12 : Nat), k_ = n_a - i ∧ (i ≤ n_a) ∧ (ys.length = i) ∧ (ys.map WinR.dat = (a.take i).map WinR.dat) ∧ OwnN encWinR ownWinR 58 (.slice A11 (n_a) c12) (ys ++ List.replicate (n_a - i) encWinR.dflt) L_ ∧ Sub [(3, .slice A11 (n_a) c12), (4, .int .i64 i)] f) (((fun (i : Nat) (ys : List WinR) => n_a - i) (0) ([]))) ?_ ?_
 ·refine ⟨0, [], _, _, rfl, ?_, ?_, ?_, (by simpa using ho9), ⟨rfl, rfl, trivial⟩⟩
  · exact Nat.zero_le _
  · rfl
  · rfl
 clear hs8
 rintro _ f w L13 ⟨i, ys, A11, c12, rfl, p0, p1, p2, ho14, hG⟩ hF hs15
 refine WC.sub _ (hG.app hF) ?_
 clear hG hF
 have hlen : (ys ++ List.replicate (n_a - i) encWinR.dflt).length = n_a := by simp; omega
 refine WC.seq (fun K16 hK16 => WC.r1 hs15 [] rfl ?_)
 refine WC.cq rfl (fun h17 qh17 => ?_) (fun h17 qh17 => ?_)
 ·refine WC.skip (hK16 _ _ (WC.seq (fun K18 hK18 => WC.block (WC.region (WL.r 4 hs15 [] rfl ?_)))))
  refine WL.val rfl rfl rfl (Run.idxN Tryz.runUnderlying23 Tryz.sizeOf147 rfl rfl rfl ?_ ?_ ?_) ?_
  · exact SlF.some_ (SlF.st0 f_a.sl hs15)
  · omega
  · omega
  refine WL.val rfl rfl rfl (Run.loadA Tryz.isAgg147 Tryz.sizeOf147 rfl rfl (SlF.whole (SlF.st0 f_a.sl hs15) ?_)) ?_
  · omega
  refine WL.cl Tryz.call103 rfl (k91_ (gat encWinR a i) _ (okWinR.st0 (SlN.nth f_a (by omega)) hs15)) ?_
  rintro _ whs19 ⟨r20, L1_21, rfl, hs19, ho22, hd23⟩
  replace hs19 := hs15.callF hs19
  refine ⟨_, rfl, WL.val rfl rfl rfl (Run.idxN Tryz.runUnderlying30 Tryz.sizeOf58 rfl rfl rfl ?_ ?_ ?_) ?_⟩
  · exact SlF.some_ (OwnN.sl ho14 (hs19.ow L13))
  · omega
  · omega
  obtain ⟨L24, L25, hs28, ho26, ho27⟩ := OwnN.open_ (hs19.fr L13) ho14
  refine WL.storeF1 (x' := r20) hs28 ho26 Tryz.sizeOf58 rfl rfl rfl rfl rfl rfl rfl rfl rfl ?_ rfl (fun L29 whs30 hs30 ho31 _ => ?_)
  · omega
  obtain ⟨L32, hs34, hb33⟩ := Bag.replace (r := r20) (i := i) ((hs30.fr L1_21).fr L25) ho27 (by omega) ho22
  refine WL.nil (hK18 _ _ (WC.region (WL.r 3 hs34 [] rfl (WL.nil (tkN ?_)))))
  obtain ⟨L36, hs35, ho37⟩ := OwnN.fold (hs34.fr L29) ho31 hb33
  rw [set_at p1 (by omega)] at ho37
  refine ⟨sbF rfl, _, hs35, _, ?_, i + 1, (ys ++ [r20]), _, _, rfl, ?_, ?_, ?_, ho37, ⟨rfl, rfl, trivial⟩⟩
  · omega
  · omega
  · simp; omega
  · rw [List.map_append, p2, map_take_succ (F := encWinR) (by omega)]; congr 1 <;> simp only [List.map_cons, List.map_nil] <;> congr 1 <;> assumption
 refine WC.exit (hK10 _ _ (WC.r1 hs15 [] rfl (WC.ret (retV1 rfl (resV.tmp rfl) ?_))))
 have hi_ : i = n_a := by omega
 subst hi_
 have hx_ := ho14
 simp only [Nat.sub_self, List.replicate_zero, List.append_nil] at hx_
 exact ⟨_, _, ys, _, rfl, (St.keep1 hs15), hx_, by rw [p2, List.take_of_length_le (by omega)]⟩
theorem k98_ (A_a : Option Addr) (n_a c_a : Nat) (a : List SessR) (left : Int) (w : World) (f_a : SlN encSessR (okSessR 9223372036854775807) w A_a n_a a) (h1 : 0 ≤ left) (h2 : left ≤ 1048576) (h3 : n_a ≤ 9223372036854775807) :
    Calls Tryz.prog 38 #[.slice A_a n_a c_a, i64 left] w fun e w' => e = .returned (.int .i64 (szR left (tots totSess (a.map SessR.dat)))) ∧ St w [] [] w' := by
 have hl := f_a.sl.len
 have hT : (tots totSess (a.map SessR.dat) : Int) = n_a + (a.map (fun x => totSess (SessR.dat x))).sum := by rw [tots_map, hl]; omega
 refine enter 27 Tryz.func38 rfl Tryz.ntmps38 rfl rfl ?_
 have hs1 := St.init w
 refine WC.r1 hs1 [] rfl (WC.r1 hs1 [] rfl (WC.seq (fun K2 hK2 => WC.r1 hs1 [] rfl ?_)))
 refine WC.cD rfl (fun qh3 => ?_) (fun qh3 => ?_)
 ·refine WC.r1 hs1 [] rfl (WC.ret (tkR ?_))
  clear hK2
  refine rtv rfl rfl hs1 ?_
  rw [szR_lt (by omega)]
 refine WC.skip (hK2 _ _ (WC.seq (fun K4 hK4 => WC.r1 hs1 [] rfl (WC.block ?_))))
 refine WC.lS [0, 11] rfl hs1 (fun k_ f w' => ∃ (i : Nat) (q : Int), k_ = n_a - i ∧ (i ≤ n_a) ∧ (0 ≤ q) ∧ (q + n_a + ((a.take i).map (fun x => totSess (SessR.dat x))).sum = left) ∧ Sub [(5, .int .i64 i), (1, .int .i64 q)] f) ((fun (i : Nat) (q : Int) => n_a - i) (0) ((left - n_a))) ?_ ?_
 ·refine ⟨0, (left - n_a), rfl, ?_, ?_, ?_, ⟨rfl, rfl, trivial⟩⟩
  · exact Nat.zero_le _
  · omega
  · simp
 clear hs1
 rintro _ f w ⟨i, q, rfl, p0, p1, p2, hG⟩ hF hs5
 refine WC.sub _ (hG.app hF) ?_
 clear hG hF
 refine WC.seq (fun K6 hK6 => WC.r1 hs5 [] rfl ?_)
 refine WC.cD rfl (fun qh7 => ?_) (fun qh7 => ?_)
 ·have hs1 := sum_take (F := encSessR) (f := (fun x => totSess (SessR.dat x))) (l := a) (i := i) (by omega)
  have hs2 := sum_take_le (f := (fun x => totSess (SessR.dat x))) a (i + 1)
  refine WC.skip (hK6 _ _ (WC.seq (fun K8 hK8 => WC.block (WC.sr (WL.r 2 hs5 [] rfl ?_)))))
  refine WL.val rfl rfl rfl (Run.idxN Tryz.runUnderlying24 Tryz.sizeOf149 rfl rfl rfl ?_ ?_ ?_) ?_
  · exact SlF.some_ (SlF.st0 f_a.sl hs5)
  · omega
  · omega
  refine WL.val rfl rfl rfl (Run.loadA Tryz.isAgg149 Tryz.sizeOf149 rfl rfl (SlF.whole (SlF.st0 f_a.sl hs5) ?_)) ?_
  · omega
  refine WL.r 1 hs5 [] rfl (WL.cl Tryz.call100 rfl (k92_ (gat encSessR a i) _ _ (okSessR.st0 (SlN.nth f_a (by omega)) hs5) ?_ ?_) ?_)
  · first | assumption | omega
  · first | assumption | omega | exact szR_b (by assumption) (by omega) (by first | assumption | omega)
  rintro _ whs9 ⟨rfl, hs9⟩
  replace hs9 := hs5.call0 hs9
  refine ⟨_, rfl, WL.r 1 hs9 [] rfl (WL.nil (WC.r1 hs9 [] rfl (WC.cD rfl (fun qh10 => ?_) (fun qh10 => ?_))))⟩
  ·refine WC.r1 hs9 [] rfl (WC.ret (ibR (tkR (tkR (ibR (tkR ?_))))))
   clear hK8 hK4
   refine rtv rfl rfl hs9 ?_
   have h9 := szR_no qh10
   rw [szR_lt (by omega)]
  refine WC.skip (hK8 _ _ (WC.region (WL.r 3 hs9 [] rfl (WL.nil (tkN ?_)))))
  refine ⟨sbF rfl, hs9, _, ?_, i + 1, _, rfl, ?_, ?_, ?_, ⟨rfl, rfl, trivial⟩⟩
  · omega
  · omega
  · omega
  · have h9 := szR_ok qh10 (Int.natCast_nonneg _); omega
 refine WC.exit (hK4 _ _ (WC.r1 hs5 [] rfl (WC.ret (rtv rfl rfl hs5 ?_))))
 have h9 : a.take i = a := List.take_of_length_le (by omega)
 rw [h9] at p2
 rw [szR_le (by omega)]
 congr 1; omega
theorem k99_ (A_a : Option Addr) (n_a c_a : Nat) (a : List SessR) (w : World) (f_a : SlN encSessR (okSessR 549755813888) w A_a n_a a) (hn : n_a ≤ 549755813888) :
    Calls Tryz.prog 43 #[.slice A_a n_a c_a] w fun e w' => ∃ A c xs L1, e = .returned (.slice A n_a c) ∧ St w [] L1 w' ∧ OwnN encSessR ownSessR 106 (.slice A n_a c) xs L1 ∧ xs.map SessR.dat = a.map SessR.dat := by
 have hl := f_a.sl.len
 refine enter 23 Tryz.func43 rfl Tryz.ntmps43 rfl rfl ?_
 have hs1 := St.init w
 refine WC.r1 hs1 [] rfl (WC.sr (WL.r 2 hs1 [] rfl (WL.makeF (F := encSessR) hs1 Tryz.underlying31 inf106 rfl rfl rfl rfl rfl rfl rfl rfl rfl ?_ ?_ (fun A5 c6 L2 whs3 hs3 ho4 => ?_))))
 · have e_ : Tryz.t106.bytes = 48 := rfl
   rw [e_]; omega
 · omega
 obtain ⟨L7, hs8, ho9⟩ := OwnN.new (own := ownSessR) hs3 ho4 (OwnF.nil _ _)
 refine WL.r 1 hs8 [] rfl (WL.nil (WC.seq (fun K10 hK10 => WC.r1 hs8 [] rfl (WC.block ?_))))
 refine WC.lO [0, 2] rfl hs8 (fun k_ f L_ => ∃ (i : Nat) (ys : List SessR) (A11 : Option Addr) (c12 : Nat), k_ = n_a - i ∧ (i ≤ n_a) ∧ (ys.length = i) ∧ (ys.map SessR.dat = (a.take i).map SessR.dat) ∧ OwnN encSessR ownSessR 106 (.slice A11 (n_a) c12) (ys ++ List.replicate (n_a - i) encSessR.dflt) L_ ∧ Sub [(3, .slice A11 (n_a) c12), (4, .int .i64 i)] f) (((fun (i : Nat) (ys : List SessR) => n_a - i) (0) ([]))) ?_ ?_
 ·refine ⟨0, [], _, _, rfl, ?_, ?_, ?_, (by simpa using ho9), ⟨rfl, rfl, trivial⟩⟩
  · exact Nat.zero_le _
  · rfl
  · rfl
 clear hs8
 rintro _ f w L13 ⟨i, ys, A11, c12, rfl, p0, p1, p2, ho14, hG⟩ hF hs15
 refine WC.sub _ (hG.app hF) ?_
 clear hG hF
 have hlen : (ys ++ List.replicate (n_a - i) encSessR.dflt).length = n_a := by simp; omega
 refine WC.seq (fun K16 hK16 => WC.r1 hs15 [] rfl ?_)
 refine WC.cq rfl (fun h17 qh17 => ?_) (fun h17 qh17 => ?_)
 ·refine WC.skip (hK16 _ _ (WC.seq (fun K18 hK18 => WC.block (WC.region (WL.r 4 hs15 [] rfl ?_)))))
  refine WL.val rfl rfl rfl (Run.idxN Tryz.runUnderlying24 Tryz.sizeOf149 rfl rfl rfl ?_ ?_ ?_) ?_
  · exact SlF.some_ (SlF.st0 f_a.sl hs15)
  · omega
  · omega
  refine WL.val rfl rfl rfl (Run.loadA Tryz.isAgg149 Tryz.sizeOf149 rfl rfl (SlF.whole (SlF.st0 f_a.sl hs15) ?_)) ?_
  · omega
  refine WL.cl Tryz.call104 rfl (k93_ (gat encSessR a i) _ (okSessR.st0 (SlN.nth f_a (by omega)) hs15)) ?_
  rintro _ whs19 ⟨r20, L1_21, rfl, hs19, ho22, hd23⟩
  replace hs19 := hs15.callF hs19
  refine ⟨_, rfl, WL.val rfl rfl rfl (Run.idxN Tryz.runUnderlying31 Tryz.sizeOf106 rfl rfl rfl ?_ ?_ ?_) ?_⟩
  · exact SlF.some_ (OwnN.sl ho14 (hs19.ow L13))
  · omega
  · omega
  obtain ⟨L24, L25, hs28, ho26, ho27⟩ := OwnN.open_ (hs19.fr L13) ho14
  refine WL.storeF1 (x' := r20) hs28 ho26 Tryz.sizeOf106 rfl rfl rfl rfl rfl rfl rfl rfl rfl ?_ rfl (fun L29 whs30 hs30 ho31 _ => ?_)
  · omega
  obtain ⟨L32, hs34, hb33⟩ := Bag.replace (r := r20) (i := i) ((hs30.fr L1_21).fr L25) ho27 (by omega) ho22
  refine WL.nil (hK18 _ _ (WC.region (WL.r 3 hs34 [] rfl (WL.nil (tkN ?_)))))
  obtain ⟨L36, hs35, ho37⟩ := OwnN.fold (hs34.fr L29) ho31 hb33
  rw [set_at p1 (by omega)] at ho37
  refine ⟨sbF rfl, _, hs35, _, ?_, i + 1, (ys ++ [r20]), _, _, rfl, ?_, ?_, ?_, ho37, ⟨rfl, rfl, trivial⟩⟩
  · omega
  · omega
  · simp; omega
  · rw [List.map_append, p2, map_take_succ (F := encSessR) (by omega)]; congr 1 <;> simp only [List.map_cons, List.map_nil] <;> congr 1 <;> assumption
 refine WC.exit (hK10 _ _ (WC.r1 hs15 [] rfl (WC.ret (retV1 rfl (resV.tmp rfl) ?_))))
 have hi_ : i = n_a := by omega
 subst hi_
 have hx_ := ho14
 simp only [Nat.sub_self, List.replicate_zero, List.append_nil] at hx_
 exact ⟨_, _, ys, _, rfl, (St.keep1 hs15), hx_, by rw [p2, List.take_of_length_le (by omega)]⟩
set_option maxHeartbeats 4000000 in
theorem k100_ (s : StateR) (w : World) (f_s : okStateR 549755813888 w s) (hsm : smState 1048576 s.dat) :
    Calls Tryz.prog 84 #[.agg #[i64 s.W, i64 s.H, i64 s.Limit, i64 s.Next, .slice s.Panes.A s.Panes.n s.Panes.c, .slice s.Wins.A s.Wins.n s.Wins.c, .slice s.Sess.A s.Sess.n s.Sess.c]] w fun e w' => ∃ r L1, e = .returned (.agg #[i64 r.W, i64 r.H, i64 r.Limit, i64 r.Next, .slice r.Panes.A r.Panes.n r.Panes.c, .slice r.Wins.A r.Wins.n r.Wins.c, .slice r.Sess.A r.Sess.n r.Sess.c]) ∧ St w [] L1 w' ∧ ownStateR r L1 ∧ r.dat = s.dat := by
 have nb_s_Panes := f_s.Panes_n
 have nl_s_Panes := f_s.Panes.sl.len
 have nb_s_Wins := f_s.Wins_n
 have nl_s_Wins := f_s.Wins.sl.len
 have nb_s_Sess := f_s.Sess_n
 have nl_s_Sess := f_s.Sess.sl.len
 have hP9 : s.Panes.xs.length ≤ 1048576 := by have h_ := hsm.1; simpa [StateR.dat] using h_
 have hW9 : s.Wins.xs.length ≤ 1048576 := by have h_ := hsm.2.2.1; simpa [StateR.dat] using h_
 have hS9 : s.Sess.xs.length ≤ 1048576 := by have h_ := hsm.2.2.2.2.1; simpa [StateR.dat] using h_
 have hPt : ∀ y, y ∈ s.Panes.xs → smTerm 1048576 y.Term.dat := fun y hy => (hsm.2.1 _ (List.mem_map_of_mem hy)).2.2
 have hWt : ∀ y, y ∈ s.Wins.xs → y.Tree.xs.length ≤ 1048576 := fun y hy => (hsm.2.2.2.1 _ (List.mem_map_of_mem hy)).2
 have hSt : ∀ y, y ∈ s.Sess.xs → y.Wins.xs.length ≤ 1048576 := fun y hy => (hsm.2.2.2.2.2 _ (List.mem_map_of_mem hy)).2
 refine enter 70 Tryz.func84 rfl Tryz.ntmps84 rfl rfl ?_
 have hs1 := St.init w
 refine WC.sr (WL.bx hs1 rfl (fun b2 _ hs3 => WL.al hs3 Tryz.zeroValue33 rfl rfl (fun b4 _ hs5 => WL.nil (WC.sr (WL.buildF (F := encPaneR) hs5 ([]) Tryz.runUnderlying29 Tryz.sizeOf93 Tryz.zeroValue93 rfl rfl rfl rfl rfl rfl rfl rfl rfl rfl rfl rfl (fun A9 c10 L6 whs7 hs7 ho8 => ?_))))))
 replace hs7 := St.back [_, _] hs7
 obtain ⟨L11, hs12, ho13⟩ := OwnN.fresh (own := ownPaneR) (hs7.fr L6) ho8 Bag.nil
 have hs14 := ((hs12.fb b2).fb b4)
 refine WL.buildF (F := encWinR) hs14 ([]) Tryz.runUnderlying30 Tryz.sizeOf58 Tryz.zeroValue58 rfl rfl rfl rfl rfl rfl rfl rfl rfl rfl rfl rfl (fun A18 c19 L15 whs16 hs16 ho17 => ?_)
 replace hs16 := St.back [_, _] hs16
 obtain ⟨L20, hs21, ho22⟩ := OwnN.fresh (own := ownWinR) (hs16.fr L15) ho17 Bag.nil
 have hs23 := ((hs21.fb b2).fb b4)
 refine WL.buildF (F := encSessR) hs23 ([]) Tryz.runUnderlying31 Tryz.sizeOf106 Tryz.zeroValue106 rfl rfl rfl rfl rfl rfl rfl rfl rfl rfl rfl rfl (fun A27 c28 L24 whs25 hs25 ho26 => ?_)
 replace hs25 := St.back [_, _] hs25
 obtain ⟨L29, hs30, ho31⟩ := OwnN.fresh (own := ownSessR) (hs25.fr L24) ho26 Bag.nil
 have hs32 := ((hs30.fb b2).fb b4)
 refine WL.r 3 hs32 [] rfl (WL.nil (WC.seq (fun K33 hK33 => WC.r1 hs32 [1] rfl (WC.block ?_))))
 have hM38 := (St.grp1 (L1 := L11) [] (((((hs32.fr L20).fr L29).fb b2).fb b4).fr L11))
 refine WC.lV [1, 2, 4, 5, 16, 17] rfl hM38 (fun k_ (a_ : Hp) f => ∃ (i : Nat) (ps : List PaneR) (A34 : Option Addr) (c35 : Nat) (L36 : Hp), k_ = s.Panes.n - i ∧ a_ = L36 ∧ (i ≤ s.Panes.n) ∧ (ps.map PaneR.dat = (s.Panes.xs.take i).map PaneR.dat) ∧ (ps.length = i) ∧ OwnN encPaneR ownPaneR 93 (.slice A34 (ps).length c35) (ps) L36 ∧ Sub [(3, .slice A34 (ps).length c35), (18, .int .i64 i)] f) (s.Panes.n) ?_ ?_
 ·refine ⟨0, [], A9, c10, L11, rfl, rfl, ?_, ?_, ?_, ho13, ⟨rfl, rfl, trivial⟩⟩
  · exact Nat.zero_le _
  · rfl
  · rfl
 rintro _ L36 f w ⟨i, ps, A34, c35, _, rfl, rfl, p0, p1, p2, ho37, hG⟩ hF hs39
 refine WC.sub _ (hG.app hF) ?_
 clear hG hF
 replace hs39 := St.ungrp1 [] hs39
 have hs40 := ((hs39.fb b2).fb b4)
 refine WC.r1 hs40 [] rfl (WC.seq (fun K41 hK41 => ?_))
 refine WC.cD rfl (fun qh42 => ?_) (fun qh42 => ?_)
 ·refine WC.skip (hK41 _ _ (WC.seq (fun K43 hK43 => WC.block (WC.sr ?_))))
  refine WL.val rfl rfl rfl (Run.idxN Tryz.runUnderlying29 Tryz.sizeOf93 rfl rfl rfl ?_ ?_ ?_) ?_
  · exact SlF.some_ (SlF.st0 f_s.Panes.sl hs40)
  · omega
  · omega
  refine WL.val rfl rfl rfl (Run.loadA Tryz.isAgg93 Tryz.sizeOf93 rfl rfl (SlF.whole (SlF.st0 f_s.Panes.sl hs40) ?_)) ?_
  · omega
  refine WL.al hs40 Tryz.zeroValue93 rfl rfl (fun b44 _ hs45 => WL.st tbk hs45 0 rfl rfl (fun _ hs46 => WL.nil (WC.sr (WL.r 2 hs46 [0] rfl ?_))))
  refine WL.cl Tryz.call147 rfl (k85_ (gat encPaneR s.Panes.xs i).Term _ (okTermR.st0 (SlN.nth f_s.Panes (by omega)).Term hs46) ?_) ?_
  · first | assumption | rfl | omega | exact hPt _ (gat_mem (F := encPaneR) (show i < s.Panes.xs.length by omega)) | exact hwt | exact hst | (exact Nat.le_trans hwt (by decide)) | (exact Nat.le_trans hst (by decide))
  rintro _ whs47 ⟨r48, L1_49, rfl, hs47, ho50, hd51⟩
  replace hs47 := hs46.callF hs47
  refine ⟨_, rfl, ?_⟩
  replace hs47 := St.back [_, _, _] hs47
  have hcp := hd51
  refine WL.r 1 hs47 [] rfl (WL.st tbk hs47 0 rfl rfl (fun _ hs52 => WL.nil (WC.region (WL.r 2 hs52 [0] rfl (WL.buildSlice hs52 Tryz.runUnderlying29 Tryz.sizeOf93 Tryz.zeroValue93 rfl rfl rfl rfl rfl rfl rfl rfl rfl rfl (fun b53 whs54 hs54 => ?_))))))
  obtain ⟨L55, L56, L57, L58, L59, L60, hs67, ho61, ho62, ho63, ho64, ho65, ho66⟩ := ownTermR.op hs54 ho50
  have hs68 := ((((hs67.fb b2).fb b4).fb b44).fb b53)
  obtain ⟨L70, hs69, ho71⟩ := ownPaneR.fl hs68 ho61 ho62 ho63 ho64 ho65 ho66
  have hs72 := ((((hs69.fb b2).fb b4).fb b44).fb b53)
  obtain ⟨L73, L74, hs77, ho75, ho76⟩ := OwnN.open_ (hs72.fr L36) ho37
  have hs78 := ((((hs77.fb b2).fb b4).fb b44).fb b53)
  refine WL.appendG (hs78.fr L73) ho75 (srcF (F := encPaneR) (ys := [(⟨(gat encPaneR s.Panes.xs i).Id, (gat encPaneR s.Panes.xs i).Cmd, (gat encPaneR s.Panes.xs i).Dir, (gat encPaneR s.Panes.xs i).Life, (gat encPaneR s.Panes.xs i).Code, (gat encPaneR s.Panes.xs i).Pid, ⟨⟨r48.P.State, r48.P.Mark, SlD.of ho61, SlD.of ho62⟩, ⟨r48.S.W, r48.S.H, ⟨r48.S.Main.W, r48.S.Main.H, SlD.of ho63⟩, ⟨r48.S.Alt.W, r48.S.Alt.H, SlD.of ho64⟩, r48.S.OnAlt, r48.S.X, r48.S.Y, r48.S.Wrap, ⟨r48.S.A.Fg, r48.S.A.Bg, r48.S.A.Bold, r48.S.A.Under, r48.S.A.Turn⟩, r48.S.Top, r48.S.Bot, r48.S.NoWrap, r48.S.Hide, r48.S.SaveX, r48.S.SaveY, ⟨r48.S.SaveA.Fg, r48.S.SaveA.Bg, r48.S.SaveA.Bold, r48.S.SaveA.Under, r48.S.SaveA.Turn⟩, SlD.of ho65, r48.S.Limit, SlD.ofN ho66⟩⟩⟩ : PaneR)]) Tryz.underlying29 rfl rfl (hs78.own _ (nthL_mem (i := 0) rfl)).1) Tryz.underlying29 inf93 rfl rfl rfl rfl rfl rfl rfl rfl rfl rfl ?_ (fun A82 c83 L79 whs80 hs80 ho81 => ?_)
  · (try simp only [List.length_append, List.length_singleton, List.nil_append, List.length_nil]); first | omega
  replace hs80 := St.back [_, _, _, _] hs80
  obtain ⟨L84, hs85, hb86⟩ := Bag.put (x := (⟨(gat encPaneR s.Panes.xs i).Id, (gat encPaneR s.Panes.xs i).Cmd, (gat encPaneR s.Panes.xs i).Dir, (gat encPaneR s.Panes.xs i).Life, (gat encPaneR s.Panes.xs i).Code, (gat encPaneR s.Panes.xs i).Pid, ⟨⟨r48.P.State, r48.P.Mark, SlD.of ho61, SlD.of ho62⟩, ⟨r48.S.W, r48.S.H, ⟨r48.S.Main.W, r48.S.Main.H, SlD.of ho63⟩, ⟨r48.S.Alt.W, r48.S.Alt.H, SlD.of ho64⟩, r48.S.OnAlt, r48.S.X, r48.S.Y, r48.S.Wrap, ⟨r48.S.A.Fg, r48.S.A.Bg, r48.S.A.Bold, r48.S.A.Under, r48.S.A.Turn⟩, r48.S.Top, r48.S.Bot, r48.S.NoWrap, r48.S.Hide, r48.S.SaveX, r48.S.SaveY, ⟨r48.S.SaveA.Fg, r48.S.SaveA.Bg, r48.S.SaveA.Bold, r48.S.SaveA.Under, r48.S.SaveA.Turn⟩, SlD.of ho65, r48.S.Limit, SlD.ofN ho66⟩⟩⟩ : PaneR)) ((hs80.fr L70).fr L74) ho76 (by exact ho71)
  have hs87 := ((((hs85.fb b2).fb b4).fb b44).fb b53)
  obtain ⟨L89, hs88, ho90⟩ := OwnN.fold ((hs87.fr L84).fr L79) ho81 hb86
  have hs91 := ((((hs88.fb b2).fb b4).fb b44).fb b53)
  refine WL.r 1 hs91 [] rfl (WL.nil (hK43 _ _ (WC.region (WL.r 2 hs91 [] rfl (WL.nil (tkN ?_))))))
  replace hs91 := hs91.d1.d1
  have hF92 := (St.grp1 (L1 := L89) [] (((((hs91.fr L20).fr L29).fb b2).fb b4).fr L89))
  refine ⟨sbF rfl, _, hF92, _, ?_, i + 1, ((ps) ++ [(⟨(gat encPaneR s.Panes.xs i).Id, (gat encPaneR s.Panes.xs i).Cmd, (gat encPaneR s.Panes.xs i).Dir, (gat encPaneR s.Panes.xs i).Life, (gat encPaneR s.Panes.xs i).Code, (gat encPaneR s.Panes.xs i).Pid, ⟨⟨r48.P.State, r48.P.Mark, SlD.of ho61, SlD.of ho62⟩, ⟨r48.S.W, r48.S.H, ⟨r48.S.Main.W, r48.S.Main.H, SlD.of ho63⟩, ⟨r48.S.Alt.W, r48.S.Alt.H, SlD.of ho64⟩, r48.S.OnAlt, r48.S.X, r48.S.Y, r48.S.Wrap, ⟨r48.S.A.Fg, r48.S.A.Bg, r48.S.A.Bold, r48.S.A.Under, r48.S.A.Turn⟩, r48.S.Top, r48.S.Bot, r48.S.NoWrap, r48.S.Hide, r48.S.SaveX, r48.S.SaveY, ⟨r48.S.SaveA.Fg, r48.S.SaveA.Bg, r48.S.SaveA.Bold, r48.S.SaveA.Under, r48.S.SaveA.Turn⟩, SlD.of ho65, r48.S.Limit, SlD.ofN ho66⟩⟩⟩ : PaneR)]), A82, c83, L89, rfl, rfl, ?_, ?_, ?_, ho90, ⟨rfl, rfl, trivial⟩⟩
  · omega
  · omega
  · rw [List.map_append, p1, map_take_succ (F := encPaneR) (by omega)]; exact congrArg (fun t : TermD => _ ++ [({ (gat encPaneR s.Panes.xs i).dat with Term := t } : PaneD)]) hcp
  · simp only [List.length_append, List.length_singleton]; omega
 refine WC.exit (hK33 _ _ (WC.seq (fun K93 hK93 => WC.r1 hs40 [1] rfl (WC.block ?_))))
 have hM98 := (St.grp1 (L1 := L20) [] (((((hs40.fr L29).fr L36).fb b2).fb b4).fr L20))
 refine WC.lV [1, 2, 3, 5, 19, 32, 33] rfl hM98 (fun k_ (a_ : Hp) f => ∃ (j : Nat) (ws : List WinR) (A94 : Option Addr) (c95 : Nat) (L96 : Hp), k_ = s.Wins.n - j ∧ a_ = L96 ∧ (j ≤ s.Wins.n) ∧ (ws.map WinR.dat = (s.Wins.xs.take j).map WinR.dat) ∧ (ws.length = j) ∧ OwnN encWinR ownWinR 58 (.slice A94 (ws).length c95) (ws) L96 ∧ Sub [(4, .slice A94 (ws).length c95), (34, .int .i64 j)] f) (s.Wins.n) ?_ ?_
 ·refine ⟨0, [], A18, c19, L20, rfl, rfl, ?_, ?_, ?_, ho22, ⟨rfl, rfl, trivial⟩⟩
  · exact Nat.zero_le _
  · rfl
  · rfl
 rintro _ L96 f w ⟨j, ws, A94, c95, _, rfl, rfl, r0, r1, r2, ho97, hG⟩ hF hs99
 refine WC.sub _ (hG.app hF) ?_
 clear hG hF
 replace hs99 := St.ungrp1 [] hs99
 have hs100 := ((hs99.fb b2).fb b4)
 refine WC.r1 hs100 [] rfl (WC.seq (fun K101 hK101 => ?_))
 refine WC.cD rfl (fun qh102 => ?_) (fun qh102 => ?_)
 ·have hnlw := (SlN.nth f_s.Wins (show j < s.Wins.n by omega)).Tree.len
  have hwt := hWt _ (gat_mem (F := encWinR) (show j < s.Wins.xs.length by omega))
  refine WC.skip (hK101 _ _ (WC.seq (fun K103 hK103 => WC.block (WC.sr ?_))))
  refine WL.val rfl rfl rfl (Run.idxN Tryz.runUnderlying30 Tryz.sizeOf58 rfl rfl rfl ?_ ?_ ?_) ?_
  · exact SlF.some_ (SlF.st0 f_s.Wins.sl hs100)
  · omega
  · omega
  refine WL.val rfl rfl rfl (Run.loadA Tryz.isAgg58 Tryz.sizeOf58 rfl rfl (SlF.whole (SlF.st0 f_s.Wins.sl hs100) ?_)) ?_
  · omega
  refine WL.al hs100 Tryz.zeroValue58 rfl rfl (fun b104 _ hs105 => WL.st tbk hs105 0 rfl rfl (fun _ hs106 => WL.nil (WC.sr (WL.r 2 hs106 [0] rfl ?_))))
  refine WL.cl Tryz.call148 rfl (k74_ _ _ _ _ _ (SlF.st0 (SlN.nth f_s.Wins (by omega)).Tree hs106) ?_) ?_
  · first | assumption | rfl | omega | exact hPt _ (gat_mem (F := encPaneR) (show i < s.Panes.xs.length by omega)) | exact hwt | exact hst | (exact Nat.le_trans hwt (by decide)) | (exact Nat.le_trans hst (by decide))
  rintro _ whs107 ⟨A108, c109, L1_110, rfl, hs107, ho111⟩
  replace hs107 := hs106.callF hs107
  refine ⟨_, rfl, ?_⟩
  replace hs107 := St.back [_, _, _] hs107
  refine WL.r 1 hs107 [] rfl (WL.st tbk hs107 0 rfl rfl (fun _ hs112 => WL.nil (WC.region (WL.r 2 hs112 [0] rfl (WL.buildSlice hs112 Tryz.runUnderlying30 Tryz.sizeOf58 Tryz.zeroValue58 rfl rfl rfl rfl rfl rfl rfl rfl rfl rfl (fun b113 whs114 hs114 => ?_))))))
  obtain ⟨L115, L116, hs119, ho117, ho118⟩ := OwnN.open_ (hs114.fr L96) ho97
  have hs120 := ((((hs119.fb b2).fb b4).fb b104).fb b113)
  refine WL.appendG (hs120.fr L115) ho117 (srcF (F := encWinR) (ys := [(⟨(gat encWinR s.Wins.xs j).Id, (gat encWinR s.Wins.xs j).Name, SlD.of ho111, (gat encWinR s.Wins.xs j).Active, (gat encWinR s.Wins.xs j).Zoom⟩ : WinR)]) Tryz.underlying30 rfl rfl (hs120.own _ (nthL_mem (i := 0) rfl)).1) Tryz.underlying30 inf58 rfl rfl rfl rfl rfl rfl rfl rfl rfl rfl ?_ (fun A124 c125 L121 whs122 hs122 ho123 => ?_)
  · (try simp only [List.length_append, List.length_singleton, List.nil_append, List.length_nil]); first | omega
  replace hs122 := St.back [_, _, _, _] hs122
  obtain ⟨L126, hs127, hb128⟩ := Bag.put (x := (⟨(gat encWinR s.Wins.xs j).Id, (gat encWinR s.Wins.xs j).Name, SlD.of ho111, (gat encWinR s.Wins.xs j).Active, (gat encWinR s.Wins.xs j).Zoom⟩ : WinR)) ((hs122.fr L1_110).fr L116) ho118 ho111
  have hs129 := ((((hs127.fb b2).fb b4).fb b104).fb b113)
  obtain ⟨L131, hs130, ho132⟩ := OwnN.fold ((hs129.fr L126).fr L121) ho123 hb128
  have hs133 := ((((hs130.fb b2).fb b4).fb b104).fb b113)
  refine WL.r 1 hs133 [] rfl (WL.nil (hK103 _ _ (WC.region (WL.r 2 hs133 [] rfl (WL.nil (tkN ?_))))))
  replace hs133 := hs133.d1.d1
  have hF134 := (St.grp1 (L1 := L131) [] (((((hs133.fr L29).fr L36).fb b2).fb b4).fr L131))
  refine ⟨sbF rfl, _, hF134, _, ?_, j + 1, ((ws) ++ [(⟨(gat encWinR s.Wins.xs j).Id, (gat encWinR s.Wins.xs j).Name, SlD.of ho111, (gat encWinR s.Wins.xs j).Active, (gat encWinR s.Wins.xs j).Zoom⟩ : WinR)]), A124, c125, L131, rfl, rfl, ?_, ?_, ?_, ho132, ⟨rfl, rfl, trivial⟩⟩
  · omega
  · omega
  · rw [List.map_append, r1, map_take_succ (F := encWinR) (by omega)]; rfl
  · simp only [List.length_append, List.length_singleton]; omega
 refine WC.exit (hK93 _ _ (WC.seq (fun K135 hK135 => WC.r1 hs100 [1] rfl (WC.block ?_))))
 have hM140 := (St.grp1 (L1 := L29) [] (((((hs100.fr L36).fr L96).fb b2).fb b4).fr L29))
 refine WC.lV [1, 2, 3, 4, 19, 35, 48, 49] rfl hM140 (fun k_ (a_ : Hp) f => ∃ (m : Nat) (zs : List SessR) (A136 : Option Addr) (c137 : Nat) (L138 : Hp), k_ = s.Sess.n - m ∧ a_ = L138 ∧ (m ≤ s.Sess.n) ∧ (zs.map SessR.dat = (s.Sess.xs.take m).map SessR.dat) ∧ (zs.length = m) ∧ OwnN encSessR ownSessR 106 (.slice A136 (zs).length c137) (zs) L138 ∧ Sub [(5, .slice A136 (zs).length c137), (50, .int .i64 m)] f) (s.Sess.n) ?_ ?_
 ·refine ⟨0, [], A27, c28, L29, rfl, rfl, ?_, ?_, ?_, ho31, ⟨rfl, rfl, trivial⟩⟩
  · exact Nat.zero_le _
  · rfl
  · rfl
 rintro _ L138 f w ⟨m, zs, A136, c137, _, rfl, rfl, t0, t1, t2, ho139, hG⟩ hF hs141
 refine WC.sub _ (hG.app hF) ?_
 clear hG hF
 replace hs141 := St.ungrp1 [] hs141
 have hs142 := ((hs141.fb b2).fb b4)
 refine WC.r1 hs142 [] rfl (WC.seq (fun K143 hK143 => ?_))
 refine WC.cD rfl (fun qh144 => ?_) (fun qh144 => ?_)
 ·have hnls := (SlN.nth f_s.Sess (show m < s.Sess.n by omega)).Wins.len
  have hst := hSt _ (gat_mem (F := encSessR) (show m < s.Sess.xs.length by omega))
  refine WC.skip (hK143 _ _ (WC.seq (fun K145 hK145 => WC.block (WC.sr ?_))))
  refine WL.val rfl rfl rfl (Run.idxN Tryz.runUnderlying31 Tryz.sizeOf106 rfl rfl rfl ?_ ?_ ?_) ?_
  · exact SlF.some_ (SlF.st0 f_s.Sess.sl hs142)
  · omega
  · omega
  refine WL.val rfl rfl rfl (Run.loadA Tryz.isAgg106 Tryz.sizeOf106 rfl rfl (SlF.whole (SlF.st0 f_s.Sess.sl hs142) ?_)) ?_
  · omega
  refine WL.al hs142 Tryz.zeroValue106 rfl rfl (fun b146 _ hs147 => WL.st tbk hs147 0 rfl rfl (fun _ hs148 => WL.nil (WC.sr (WL.r 2 hs148 [0] rfl ?_))))
  refine WL.cl Tryz.call149 rfl (k73_ _ _ _ _ _ (SlF.st0 (SlN.nth f_s.Sess (by omega)).Wins hs148) ?_) ?_
  · first | assumption | rfl | omega | exact hPt _ (gat_mem (F := encPaneR) (show i < s.Panes.xs.length by omega)) | exact hwt | exact hst | (exact Nat.le_trans hwt (by decide)) | (exact Nat.le_trans hst (by decide))
  rintro _ whs149 ⟨A150, c151, L1_152, rfl, hs149, ho153⟩
  replace hs149 := hs148.callF hs149
  refine ⟨_, rfl, ?_⟩
  replace hs149 := St.back [_, _, _] hs149
  refine WL.r 1 hs149 [] rfl (WL.st tbk hs149 0 rfl rfl (fun _ hs154 => WL.nil (WC.region (WL.r 2 hs154 [0] rfl (WL.buildSlice hs154 Tryz.runUnderlying31 Tryz.sizeOf106 Tryz.zeroValue106 rfl rfl rfl rfl rfl rfl rfl rfl rfl rfl (fun b155 whs156 hs156 => ?_))))))
  obtain ⟨L157, L158, hs161, ho159, ho160⟩ := OwnN.open_ (hs156.fr L138) ho139
  have hs162 := ((((hs161.fb b2).fb b4).fb b146).fb b155)
  refine WL.appendG (hs162.fr L157) ho159 (srcF (F := encSessR) (ys := [(⟨(gat encSessR s.Sess.xs m).Name, SlD.of ho153, (gat encSessR s.Sess.xs m).Active⟩ : SessR)]) Tryz.underlying31 rfl rfl (hs162.own _ (nthL_mem (i := 0) rfl)).1) Tryz.underlying31 inf106 rfl rfl rfl rfl rfl rfl rfl rfl rfl rfl ?_ (fun A166 c167 L163 whs164 hs164 ho165 => ?_)
  · (try simp only [List.length_append, List.length_singleton, List.nil_append, List.length_nil]); first | omega
  replace hs164 := St.back [_, _, _, _] hs164
  obtain ⟨L168, hs169, hb170⟩ := Bag.put (x := (⟨(gat encSessR s.Sess.xs m).Name, SlD.of ho153, (gat encSessR s.Sess.xs m).Active⟩ : SessR)) ((hs164.fr L1_152).fr L158) ho160 ho153
  have hs171 := ((((hs169.fb b2).fb b4).fb b146).fb b155)
  obtain ⟨L173, hs172, ho174⟩ := OwnN.fold ((hs171.fr L168).fr L163) ho165 hb170
  have hs175 := ((((hs172.fb b2).fb b4).fb b146).fb b155)
  refine WL.r 1 hs175 [] rfl (WL.nil (hK145 _ _ (WC.region (WL.r 2 hs175 [] rfl (WL.nil (tkN ?_))))))
  replace hs175 := hs175.d1.d1
  have hF176 := (St.grp1 (L1 := L173) [] (((((hs175.fr L36).fr L96).fb b2).fb b4).fr L173))
  refine ⟨sbF rfl, _, hF176, _, ?_, m + 1, ((zs) ++ [(⟨(gat encSessR s.Sess.xs m).Name, SlD.of ho153, (gat encSessR s.Sess.xs m).Active⟩ : SessR)]), A166, c167, L173, rfl, rfl, ?_, ?_, ?_, ho174, ⟨rfl, rfl, trivial⟩⟩
  · omega
  · omega
  · rw [List.map_append, t1, map_take_succ (F := encSessR) (by omega)]; rfl
  · simp only [List.length_append, List.length_singleton]; omega
 refine WC.exit (hK135 _ _ (WC.sr (WL.r 4 hs142 [] rfl (WL.st tbk hs142 1 rfl rfl (fun _ hs177 => WL.r 1 hs177 [] rfl (WL.st tbk hs177 1 rfl rfl (fun _ hs178 => WL.r 1 hs178 [] rfl ?_)))))))
 refine WL.st tbk hs178 1 rfl rfl (fun _ hs179 => WL.nil (WC.sr (WL.r 1 hs179 [1] rfl (WL.st tbk hs179 0 rfl rfl (fun _ hs180 => WL.nil (WC.ret (retV1 rfl (resV.cellA tbk hs180 0 rfl rfl rfl rfl) ?_)))))))
 have hb_Panes : ps.map PaneR.dat = s.dat.Panes := by rw [p1, List.take_of_length_le (by omega)]; rfl
 have hb_Wins : ws.map WinR.dat = s.dat.Wins := by rw [r1, List.take_of_length_le (by omega)]; rfl
 have hb_Sess : zs.map SessR.dat = s.dat.Sess := by rw [t1, List.take_of_length_le (by omega)]; rfl
 obtain ⟨L182, hs181, ho183⟩ := ownStateR.fl hs180 ho37 ho97 ho139
 have hs184 := ((hs181.fb b2).fb b4)
 refine ownStateR.ret rfl (St.keep1 (hs184.fr L182)) ho183 ?_
 · exact StateD.ext' rfl rfl rfl rfl hb_Panes hb_Wins hb_Sess
set_option maxHeartbeats 4000000 in
theorem k101_ (s : StateR) (w : World) (f_s : okStateR 549755813888 w s) (hsm : smState 1048576 s.dat) :
    Calls Tryz.prog 82 #[.agg #[i64 s.W, i64 s.H, i64 s.Limit, i64 s.Next, .slice s.Panes.A s.Panes.n s.Panes.c, .slice s.Wins.A s.Wins.n s.Wins.c, .slice s.Sess.A s.Sess.n s.Sess.c]] w fun e w' => ∃ r L1, e = .returned (.agg #[i64 r.W, i64 r.H, i64 r.Limit, i64 r.Next, .slice r.Panes.A r.Panes.n r.Panes.c, .slice r.Wins.A r.Wins.n r.Wins.c, .slice r.Sess.A r.Sess.n r.Sess.c]) ∧ St w [] L1 w' ∧ ownStateR r L1 ∧ r.dat = s.dat := by
 have nb_s_Panes := f_s.Panes_n
 have nl_s_Panes := f_s.Panes.sl.len
 have nb_s_Wins := f_s.Wins_n
 have nl_s_Wins := f_s.Wins.sl.len
 have nb_s_Sess := f_s.Sess_n
 have nl_s_Sess := f_s.Sess.sl.len
 have hP9 : s.Panes.xs.length ≤ 1048576 := by have h_ := hsm.1; simpa [StateR.dat] using h_
 have hW9 : s.Wins.xs.length ≤ 1048576 := by have h_ := hsm.2.2.1; simpa [StateR.dat] using h_
 have hS9 : s.Sess.xs.length ≤ 1048576 := by have h_ := hsm.2.2.2.2.1; simpa [StateR.dat] using h_
 have hPt : ∀ y, y ∈ s.Panes.xs → smTerm 1048576 y.Term.dat := fun y hy => (hsm.2.1 _ (List.mem_map_of_mem hy)).2.2
 have hWt : ∀ y, y ∈ s.Wins.xs → y.Tree.xs.length ≤ 1048576 := fun y hy => (hsm.2.2.2.1 _ (List.mem_map_of_mem hy)).2
 have hSt : ∀ y, y ∈ s.Sess.xs → y.Wins.xs.length ≤ 1048576 := fun y hy => (hsm.2.2.2.2.2 _ (List.mem_map_of_mem hy)).2
 refine enter 71 Tryz.func82 rfl Tryz.ntmps82 rfl rfl ?_
 have hs1 := St.init w
 refine WC.sr (WL.bx hs1 rfl (fun b2 _ hs3 => WL.al hs3 Tryz.zeroValue33 rfl rfl (fun b4 _ hs5 => WL.nil (WC.sr (WL.buildF (F := encPaneR) hs5 ([]) Tryz.runUnderlying29 Tryz.sizeOf93 Tryz.zeroValue93 rfl rfl rfl rfl rfl rfl rfl rfl rfl rfl rfl rfl (fun A9 c10 L6 whs7 hs7 ho8 => ?_))))))
 replace hs7 := St.back [_, _] hs7
 obtain ⟨L11, hs12, ho13⟩ := OwnN.fresh (own := ownPaneR) (hs7.fr L6) ho8 Bag.nil
 have hs14 := ((hs12.fb b2).fb b4)
 refine WL.r 1 hs14 [] rfl (WL.nil (WC.seq (fun K15 hK15 => WC.r1 hs14 [1] rfl (WC.block ?_))))
 have hM20 := (St.grp1 (L1 := L11) [] (((hs14.fb b2).fb b4).fr L11))
 refine WC.lV [1, 2, 14, 15] rfl hM20 (fun k_ (a_ : Hp) f => ∃ (i : Nat) (ps : List PaneR) (A16 : Option Addr) (c17 : Nat) (L18 : Hp), k_ = s.Panes.n - i ∧ a_ = L18 ∧ (i ≤ s.Panes.n) ∧ (ps.map PaneR.dat = (s.Panes.xs.take i).map PaneR.dat) ∧ (ps.length = i) ∧ OwnN encPaneR ownPaneR 93 (.slice A16 (ps).length c17) (ps) L18 ∧ Sub [(3, .slice A16 (ps).length c17), (16, .int .i64 i)] f) (s.Panes.n) ?_ ?_
 ·refine ⟨0, [], A9, c10, L11, rfl, rfl, ?_, ?_, ?_, ho13, ⟨rfl, rfl, trivial⟩⟩
  · exact Nat.zero_le _
  · rfl
  · rfl
 rintro _ L18 f w ⟨i, ps, A16, c17, _, rfl, rfl, p0, p1, p2, ho19, hG⟩ hF hs21
 refine WC.sub _ (hG.app hF) ?_
 clear hG hF
 replace hs21 := St.ungrp1 [] hs21
 have hs22 := ((hs21.fb b2).fb b4)
 refine WC.r1 hs22 [] rfl (WC.seq (fun K23 hK23 => ?_))
 refine WC.cD rfl (fun qh24 => ?_) (fun qh24 => ?_)
 ·refine WC.skip (hK23 _ _ (WC.seq (fun K25 hK25 => WC.block (WC.sr ?_))))
  refine WL.val rfl rfl rfl (Run.idxN Tryz.runUnderlying29 Tryz.sizeOf93 rfl rfl rfl ?_ ?_ ?_) ?_
  · exact SlF.some_ (SlF.st0 f_s.Panes.sl hs22)
  · omega
  · omega
  refine WL.val rfl rfl rfl (Run.loadA Tryz.isAgg93 Tryz.sizeOf93 rfl rfl (SlF.whole (SlF.st0 f_s.Panes.sl hs22) ?_)) ?_
  · omega
  refine WL.al hs22 Tryz.zeroValue93 rfl rfl (fun b26 _ hs27 => WL.st tbk hs27 0 rfl rfl (fun _ hs28 => WL.nil (WC.sr (WL.r 2 hs28 [0] rfl ?_))))
  refine WL.cl Tryz.call143 rfl (k87_ (gat encPaneR s.Panes.xs i).Term _ (okTermR.st0 (SlN.nth f_s.Panes (by omega)).Term hs28) ?_) ?_
  · first | assumption | rfl | omega | exact hPt _ (gat_mem (F := encPaneR) (show i < s.Panes.xs.length by omega)) | exact hwt | exact hst | (exact Nat.le_trans hwt (by decide)) | (exact Nat.le_trans hst (by decide))
  rintro _ whs29 ⟨r30, L1_31, rfl, hs29, ho32, hd33⟩
  replace hs29 := hs28.callF hs29
  refine ⟨_, rfl, ?_⟩
  replace hs29 := St.back [_, _, _] hs29
  have hcp := hd33
  refine WL.r 1 hs29 [] rfl (WL.st tbk hs29 0 rfl rfl (fun _ hs34 => WL.nil (WC.region (WL.r 2 hs34 [0] rfl (WL.buildSlice hs34 Tryz.runUnderlying29 Tryz.sizeOf93 Tryz.zeroValue93 rfl rfl rfl rfl rfl rfl rfl rfl rfl rfl (fun b35 whs36 hs36 => ?_))))))
  obtain ⟨L37, L38, L39, L40, L41, L42, hs49, ho43, ho44, ho45, ho46, ho47, ho48⟩ := ownTermR.op hs36 ho32
  have hs50 := ((((hs49.fb b2).fb b4).fb b26).fb b35)
  obtain ⟨L52, hs51, ho53⟩ := ownPaneR.fl hs50 ho43 ho44 ho45 ho46 ho47 ho48
  have hs54 := ((((hs51.fb b2).fb b4).fb b26).fb b35)
  obtain ⟨L55, L56, hs59, ho57, ho58⟩ := OwnN.open_ (hs54.fr L18) ho19
  have hs60 := ((((hs59.fb b2).fb b4).fb b26).fb b35)
  refine WL.appendG (hs60.fr L55) ho57 (srcF (F := encPaneR) (ys := [(⟨(gat encPaneR s.Panes.xs i).Id, (gat encPaneR s.Panes.xs i).Cmd, (gat encPaneR s.Panes.xs i).Dir, (gat encPaneR s.Panes.xs i).Life, (gat encPaneR s.Panes.xs i).Code, (gat encPaneR s.Panes.xs i).Pid, ⟨⟨r30.P.State, r30.P.Mark, SlD.of ho43, SlD.of ho44⟩, ⟨r30.S.W, r30.S.H, ⟨r30.S.Main.W, r30.S.Main.H, SlD.of ho45⟩, ⟨r30.S.Alt.W, r30.S.Alt.H, SlD.of ho46⟩, r30.S.OnAlt, r30.S.X, r30.S.Y, r30.S.Wrap, ⟨r30.S.A.Fg, r30.S.A.Bg, r30.S.A.Bold, r30.S.A.Under, r30.S.A.Turn⟩, r30.S.Top, r30.S.Bot, r30.S.NoWrap, r30.S.Hide, r30.S.SaveX, r30.S.SaveY, ⟨r30.S.SaveA.Fg, r30.S.SaveA.Bg, r30.S.SaveA.Bold, r30.S.SaveA.Under, r30.S.SaveA.Turn⟩, SlD.of ho47, r30.S.Limit, SlD.ofN ho48⟩⟩⟩ : PaneR)]) Tryz.underlying29 rfl rfl (hs60.own _ (nthL_mem (i := 0) rfl)).1) Tryz.underlying29 inf93 rfl rfl rfl rfl rfl rfl rfl rfl rfl rfl ?_ (fun A64 c65 L61 whs62 hs62 ho63 => ?_)
  · (try simp only [List.length_append, List.length_singleton, List.nil_append, List.length_nil]); first | omega
  replace hs62 := St.back [_, _, _, _] hs62
  obtain ⟨L66, hs67, hb68⟩ := Bag.put (x := (⟨(gat encPaneR s.Panes.xs i).Id, (gat encPaneR s.Panes.xs i).Cmd, (gat encPaneR s.Panes.xs i).Dir, (gat encPaneR s.Panes.xs i).Life, (gat encPaneR s.Panes.xs i).Code, (gat encPaneR s.Panes.xs i).Pid, ⟨⟨r30.P.State, r30.P.Mark, SlD.of ho43, SlD.of ho44⟩, ⟨r30.S.W, r30.S.H, ⟨r30.S.Main.W, r30.S.Main.H, SlD.of ho45⟩, ⟨r30.S.Alt.W, r30.S.Alt.H, SlD.of ho46⟩, r30.S.OnAlt, r30.S.X, r30.S.Y, r30.S.Wrap, ⟨r30.S.A.Fg, r30.S.A.Bg, r30.S.A.Bold, r30.S.A.Under, r30.S.A.Turn⟩, r30.S.Top, r30.S.Bot, r30.S.NoWrap, r30.S.Hide, r30.S.SaveX, r30.S.SaveY, ⟨r30.S.SaveA.Fg, r30.S.SaveA.Bg, r30.S.SaveA.Bold, r30.S.SaveA.Under, r30.S.SaveA.Turn⟩, SlD.of ho47, r30.S.Limit, SlD.ofN ho48⟩⟩⟩ : PaneR)) ((hs62.fr L52).fr L56) ho58 (by exact ho53)
  have hs69 := ((((hs67.fb b2).fb b4).fb b26).fb b35)
  obtain ⟨L71, hs70, ho72⟩ := OwnN.fold ((hs69.fr L66).fr L61) ho63 hb68
  have hs73 := ((((hs70.fb b2).fb b4).fb b26).fb b35)
  refine WL.r 1 hs73 [] rfl (WL.nil (hK25 _ _ (WC.region (WL.r 2 hs73 [] rfl (WL.nil (tkN ?_))))))
  replace hs73 := hs73.d1.d1
  have hF74 := (St.grp1 (L1 := L71) [] (((hs73.fb b2).fb b4).fr L71))
  refine ⟨sbF rfl, _, hF74, _, ?_, i + 1, ((ps) ++ [(⟨(gat encPaneR s.Panes.xs i).Id, (gat encPaneR s.Panes.xs i).Cmd, (gat encPaneR s.Panes.xs i).Dir, (gat encPaneR s.Panes.xs i).Life, (gat encPaneR s.Panes.xs i).Code, (gat encPaneR s.Panes.xs i).Pid, ⟨⟨r30.P.State, r30.P.Mark, SlD.of ho43, SlD.of ho44⟩, ⟨r30.S.W, r30.S.H, ⟨r30.S.Main.W, r30.S.Main.H, SlD.of ho45⟩, ⟨r30.S.Alt.W, r30.S.Alt.H, SlD.of ho46⟩, r30.S.OnAlt, r30.S.X, r30.S.Y, r30.S.Wrap, ⟨r30.S.A.Fg, r30.S.A.Bg, r30.S.A.Bold, r30.S.A.Under, r30.S.A.Turn⟩, r30.S.Top, r30.S.Bot, r30.S.NoWrap, r30.S.Hide, r30.S.SaveX, r30.S.SaveY, ⟨r30.S.SaveA.Fg, r30.S.SaveA.Bg, r30.S.SaveA.Bold, r30.S.SaveA.Under, r30.S.SaveA.Turn⟩, SlD.of ho47, r30.S.Limit, SlD.ofN ho48⟩⟩⟩ : PaneR)]), A64, c65, L71, rfl, rfl, ?_, ?_, ?_, ho72, ⟨rfl, rfl, trivial⟩⟩
  · omega
  · omega
  · rw [List.map_append, p1, map_take_succ (F := encPaneR) (by omega)]; exact congrArg (fun t : TermD => _ ++ [({ (gat encPaneR s.Panes.xs i).dat with Term := t } : PaneD)]) hcp
  · simp only [List.length_append, List.length_singleton]; omega
 refine WC.exit (hK15 _ _ (WC.sr (WL.buildF (F := encWinR) hs22 ([]) Tryz.runUnderlying30 Tryz.sizeOf58 Tryz.zeroValue58 rfl rfl rfl rfl rfl rfl rfl rfl rfl rfl rfl rfl (fun A78 c79 L75 whs76 hs76 ho77 => ?_))))
 replace hs76 := St.back [_, _] hs76
 obtain ⟨L80, hs81, ho82⟩ := OwnN.fresh (own := ownWinR) (hs76.fr L75) ho77 Bag.nil
 have hs83 := ((hs81.fb b2).fb b4)
 refine WL.r 1 hs83 [] rfl (WL.nil (WC.seq (fun K84 hK84 => WC.r1 hs83 [1] rfl (WC.block ?_))))
 have hM89 := (St.grp1 (L1 := L80) [] ((((hs83.fr L18).fb b2).fb b4).fr L80))
 refine WC.lV [1, 2, 3, 17, 31, 32] rfl hM89 (fun k_ (a_ : Hp) f => ∃ (j : Nat) (ws : List WinR) (A85 : Option Addr) (c86 : Nat) (L87 : Hp), k_ = s.Wins.n - j ∧ a_ = L87 ∧ (j ≤ s.Wins.n) ∧ (ws.map WinR.dat = (s.Wins.xs.take j).map WinR.dat) ∧ (ws.length = j) ∧ OwnN encWinR ownWinR 58 (.slice A85 (ws).length c86) (ws) L87 ∧ Sub [(6, .slice A85 (ws).length c86), (33, .int .i64 j)] f) (s.Wins.n) ?_ ?_
 ·refine ⟨0, [], A78, c79, L80, rfl, rfl, ?_, ?_, ?_, ho82, ⟨rfl, rfl, trivial⟩⟩
  · exact Nat.zero_le _
  · rfl
  · rfl
 rintro _ L87 f w ⟨j, ws, A85, c86, _, rfl, rfl, r0, r1, r2, ho88, hG⟩ hF hs90
 refine WC.sub _ (hG.app hF) ?_
 clear hG hF
 replace hs90 := St.ungrp1 [] hs90
 have hs91 := ((hs90.fb b2).fb b4)
 refine WC.r1 hs91 [] rfl (WC.seq (fun K92 hK92 => ?_))
 refine WC.cD rfl (fun qh93 => ?_) (fun qh93 => ?_)
 ·have hnlw := (SlN.nth f_s.Wins (show j < s.Wins.n by omega)).Tree.len
  have hwt := hWt _ (gat_mem (F := encWinR) (show j < s.Wins.xs.length by omega))
  refine WC.skip (hK92 _ _ (WC.seq (fun K94 hK94 => WC.block (WC.sr ?_))))
  refine WL.val rfl rfl rfl (Run.idxN Tryz.runUnderlying30 Tryz.sizeOf58 rfl rfl rfl ?_ ?_ ?_) ?_
  · exact SlF.some_ (SlF.st0 f_s.Wins.sl hs91)
  · omega
  · omega
  refine WL.val rfl rfl rfl (Run.loadA Tryz.isAgg58 Tryz.sizeOf58 rfl rfl (SlF.whole (SlF.st0 f_s.Wins.sl hs91) ?_)) ?_
  · omega
  refine WL.al hs91 Tryz.zeroValue58 rfl rfl (fun b95 _ hs96 => WL.st tbk hs96 0 rfl rfl (fun _ hs97 => WL.nil (WC.sr (WL.r 2 hs97 [0] rfl ?_))))
  refine WL.cl Tryz.call144 rfl (k75_ _ _ _ _ _ (SlF.st0 (SlN.nth f_s.Wins (by omega)).Tree hs97) ?_) ?_
  · first | assumption | rfl | omega | exact hPt _ (gat_mem (F := encPaneR) (show i < s.Panes.xs.length by omega)) | exact hwt | exact hst | (exact Nat.le_trans hwt (by decide)) | (exact Nat.le_trans hst (by decide))
  rintro _ whs98 ⟨A99, c100, L1_101, rfl, hs98, ho102⟩
  replace hs98 := hs97.callF hs98
  refine ⟨_, rfl, ?_⟩
  replace hs98 := St.back [_, _, _] hs98
  refine WL.r 1 hs98 [] rfl (WL.st tbk hs98 0 rfl rfl (fun _ hs103 => WL.nil (WC.region (WL.r 2 hs103 [0] rfl (WL.buildSlice hs103 Tryz.runUnderlying30 Tryz.sizeOf58 Tryz.zeroValue58 rfl rfl rfl rfl rfl rfl rfl rfl rfl rfl (fun b104 whs105 hs105 => ?_))))))
  obtain ⟨L106, L107, hs110, ho108, ho109⟩ := OwnN.open_ (hs105.fr L87) ho88
  have hs111 := ((((hs110.fb b2).fb b4).fb b95).fb b104)
  refine WL.appendG (hs111.fr L106) ho108 (srcF (F := encWinR) (ys := [(⟨(gat encWinR s.Wins.xs j).Id, (gat encWinR s.Wins.xs j).Name, SlD.of ho102, (gat encWinR s.Wins.xs j).Active, (gat encWinR s.Wins.xs j).Zoom⟩ : WinR)]) Tryz.underlying30 rfl rfl (hs111.own _ (nthL_mem (i := 0) rfl)).1) Tryz.underlying30 inf58 rfl rfl rfl rfl rfl rfl rfl rfl rfl rfl ?_ (fun A115 c116 L112 whs113 hs113 ho114 => ?_)
  · (try simp only [List.length_append, List.length_singleton, List.nil_append, List.length_nil]); first | omega
  replace hs113 := St.back [_, _, _, _] hs113
  obtain ⟨L117, hs118, hb119⟩ := Bag.put (x := (⟨(gat encWinR s.Wins.xs j).Id, (gat encWinR s.Wins.xs j).Name, SlD.of ho102, (gat encWinR s.Wins.xs j).Active, (gat encWinR s.Wins.xs j).Zoom⟩ : WinR)) ((hs113.fr L1_101).fr L107) ho109 ho102
  have hs120 := ((((hs118.fb b2).fb b4).fb b95).fb b104)
  obtain ⟨L122, hs121, ho123⟩ := OwnN.fold ((hs120.fr L117).fr L112) ho114 hb119
  have hs124 := ((((hs121.fb b2).fb b4).fb b95).fb b104)
  refine WL.r 1 hs124 [] rfl (WL.nil (hK94 _ _ (WC.region (WL.r 2 hs124 [] rfl (WL.nil (tkN ?_))))))
  replace hs124 := hs124.d1.d1
  have hF125 := (St.grp1 (L1 := L122) [] ((((hs124.fr L18).fb b2).fb b4).fr L122))
  refine ⟨sbF rfl, _, hF125, _, ?_, j + 1, ((ws) ++ [(⟨(gat encWinR s.Wins.xs j).Id, (gat encWinR s.Wins.xs j).Name, SlD.of ho102, (gat encWinR s.Wins.xs j).Active, (gat encWinR s.Wins.xs j).Zoom⟩ : WinR)]), A115, c116, L122, rfl, rfl, ?_, ?_, ?_, ho123, ⟨rfl, rfl, trivial⟩⟩
  · omega
  · omega
  · rw [List.map_append, r1, map_take_succ (F := encWinR) (by omega)]; rfl
  · simp only [List.length_append, List.length_singleton]; omega
 refine WC.exit (hK84 _ _ (WC.sr (WL.buildF (F := encSessR) hs91 ([]) Tryz.runUnderlying31 Tryz.sizeOf106 Tryz.zeroValue106 rfl rfl rfl rfl rfl rfl rfl rfl rfl rfl rfl rfl (fun A129 c130 L126 whs127 hs127 ho128 => ?_))))
 replace hs127 := St.back [_, _] hs127
 obtain ⟨L131, hs132, ho133⟩ := OwnN.fresh (own := ownSessR) (hs127.fr L126) ho128 Bag.nil
 have hs134 := ((hs132.fb b2).fb b4)
 refine WL.r 1 hs134 [] rfl (WL.nil (WC.seq (fun K135 hK135 => WC.r1 hs134 [1] rfl (WC.block ?_))))
 have hM140 := (St.grp1 (L1 := L131) [] (((((hs134.fr L18).fr L87).fb b2).fb b4).fr L131))
 refine WC.lV [1, 2, 3, 6, 17, 34, 48, 49] rfl hM140 (fun k_ (a_ : Hp) f => ∃ (m : Nat) (zs : List SessR) (A136 : Option Addr) (c137 : Nat) (L138 : Hp), k_ = s.Sess.n - m ∧ a_ = L138 ∧ (m ≤ s.Sess.n) ∧ (zs.map SessR.dat = (s.Sess.xs.take m).map SessR.dat) ∧ (zs.length = m) ∧ OwnN encSessR ownSessR 106 (.slice A136 (zs).length c137) (zs) L138 ∧ Sub [(9, .slice A136 (zs).length c137), (50, .int .i64 m)] f) (s.Sess.n) ?_ ?_
 ·refine ⟨0, [], A129, c130, L131, rfl, rfl, ?_, ?_, ?_, ho133, ⟨rfl, rfl, trivial⟩⟩
  · exact Nat.zero_le _
  · rfl
  · rfl
 rintro _ L138 f w ⟨m, zs, A136, c137, _, rfl, rfl, t0, t1, t2, ho139, hG⟩ hF hs141
 refine WC.sub _ (hG.app hF) ?_
 clear hG hF
 replace hs141 := St.ungrp1 [] hs141
 have hs142 := ((hs141.fb b2).fb b4)
 refine WC.r1 hs142 [] rfl (WC.seq (fun K143 hK143 => ?_))
 refine WC.cD rfl (fun qh144 => ?_) (fun qh144 => ?_)
 ·have hnls := (SlN.nth f_s.Sess (show m < s.Sess.n by omega)).Wins.len
  have hst := hSt _ (gat_mem (F := encSessR) (show m < s.Sess.xs.length by omega))
  refine WC.skip (hK143 _ _ (WC.seq (fun K145 hK145 => WC.block (WC.sr ?_))))
  refine WL.val rfl rfl rfl (Run.idxN Tryz.runUnderlying31 Tryz.sizeOf106 rfl rfl rfl ?_ ?_ ?_) ?_
  · exact SlF.some_ (SlF.st0 f_s.Sess.sl hs142)
  · omega
  · omega
  refine WL.val rfl rfl rfl (Run.loadA Tryz.isAgg106 Tryz.sizeOf106 rfl rfl (SlF.whole (SlF.st0 f_s.Sess.sl hs142) ?_)) ?_
  · omega
  refine WL.al hs142 Tryz.zeroValue106 rfl rfl (fun b146 _ hs147 => WL.st tbk hs147 0 rfl rfl (fun _ hs148 => WL.nil (WC.sr (WL.buildF (F := encI) hs148 ([]) Tryz.runUnderlying60 Tryz.sizeOf3 Tryz.zeroValue3 rfl rfl rfl rfl rfl rfl rfl rfl rfl rfl rfl rfl (fun A152 c153 L149 whs150 hs150 ho151 => ?_)))))
  replace hs150 := St.back [_, _, _] hs150
  refine WL.r 2 hs150 [0] rfl (WL.appendG (hs150.fr L149) ho151 (SlF.src (SlF.st0 (SlN.nth f_s.Sess (by omega)).Wins hs150) Tryz.underlying60) Tryz.underlying60 inf3 rfl rfl rfl rfl rfl rfl rfl rfl rfl rfl ?_ (fun A157 c158 L154 whs155 hs155 ho156 => ?_))
  · (try simp only [List.length_append, List.length_singleton, List.nil_append, List.length_nil]); first | omega
  replace hs155 := St.back [_, _, _] hs155
  refine WL.r 1 hs155 [] rfl (WL.st tbk hs155 0 rfl rfl (fun _ hs159 => WL.nil (WC.region (WL.r 2 hs159 [0] rfl (WL.buildSlice hs159 Tryz.runUnderlying31 Tryz.sizeOf106 Tryz.zeroValue106 rfl rfl rfl rfl rfl rfl rfl rfl rfl rfl (fun b160 whs161 hs161 => ?_))))))
  obtain ⟨L162, L163, hs166, ho164, ho165⟩ := OwnN.open_ (hs161.fr L138) ho139
  have hs167 := ((((hs166.fb b2).fb b4).fb b146).fb b160)
  refine WL.appendG (hs167.fr L162) ho164 (srcF (F := encSessR) (ys := [(⟨(gat encSessR s.Sess.xs m).Name, SlD.of ho156, (gat encSessR s.Sess.xs m).Active⟩ : SessR)]) Tryz.underlying31 rfl rfl (hs167.own _ (nthL_mem (i := 0) rfl)).1) Tryz.underlying31 inf106 rfl rfl rfl rfl rfl rfl rfl rfl rfl rfl ?_ (fun A171 c172 L168 whs169 hs169 ho170 => ?_)
  · (try simp only [List.length_append, List.length_singleton, List.nil_append, List.length_nil]); first | omega
  replace hs169 := St.back [_, _, _, _] hs169
  obtain ⟨L173, hs174, hb175⟩ := Bag.put (x := (⟨(gat encSessR s.Sess.xs m).Name, SlD.of ho156, (gat encSessR s.Sess.xs m).Active⟩ : SessR)) ((hs169.fr L154).fr L163) ho165 ho156
  have hs176 := ((((hs174.fb b2).fb b4).fb b146).fb b160)
  obtain ⟨L178, hs177, ho179⟩ := OwnN.fold ((hs176.fr L173).fr L168) ho170 hb175
  have hs180 := ((((hs177.fb b2).fb b4).fb b146).fb b160)
  refine WL.r 1 hs180 [] rfl (WL.nil (hK145 _ _ (WC.region (WL.r 2 hs180 [] rfl (WL.nil (tkN ?_))))))
  replace hs180 := hs180.d1.d1
  have hF181 := (St.grp1 (L1 := L178) [] (((((hs180.fr L18).fr L87).fb b2).fb b4).fr L178))
  refine ⟨sbF rfl, _, hF181, _, ?_, m + 1, ((zs) ++ [(⟨(gat encSessR s.Sess.xs m).Name, SlD.of ho156, (gat encSessR s.Sess.xs m).Active⟩ : SessR)]), A171, c172, L178, rfl, rfl, ?_, ?_, ?_, ho179, ⟨rfl, rfl, trivial⟩⟩
  · omega
  · omega
  · rw [List.map_append, t1, map_take_succ (F := encSessR) (by omega)]; rfl
  · simp only [List.length_append, List.length_singleton]; omega
 refine WC.exit (hK135 _ _ (WC.sr (WL.r 2 hs142 [] rfl (WL.st tbk hs142 1 rfl rfl (fun _ hs182 => WL.nil (WC.sr (WL.r 2 hs182 [] rfl ?_)))))))
 refine WL.st tbk hs182 1 rfl rfl (fun _ hs183 => WL.nil (WC.sr (WL.r 2 hs183 [] rfl (WL.st tbk hs183 1 rfl rfl (fun _ hs184 => WL.nil (WC.sr (WL.r 1 hs184 [1] rfl ?_)))))))
 refine WL.st tbk hs184 0 rfl rfl (fun _ hs185 => WL.nil (WC.ret (retV1 rfl (resV.cellA tbk hs185 0 rfl rfl rfl rfl) ?_)))
 have hb_Panes : ps.map PaneR.dat = s.dat.Panes := by rw [p1, List.take_of_length_le (by omega)]; rfl
 have hb_Wins : ws.map WinR.dat = s.dat.Wins := by rw [r1, List.take_of_length_le (by omega)]; rfl
 have hb_Sess : zs.map SessR.dat = s.dat.Sess := by rw [t1, List.take_of_length_le (by omega)]; rfl
 obtain ⟨L187, hs186, ho188⟩ := ownStateR.fl hs185 ho19 ho88 ho139
 have hs189 := ((hs186.fb b2).fb b4)
 refine ownStateR.ret rfl (St.keep1 (hs189.fr L187)) ho188 ?_
 · exact StateD.ext' rfl rfl rfl rfl hb_Panes hb_Wins hb_Sess
theorem k102_ (A_l : Option Addr) (n_l c_l : Nat) (l : List Int) (x : Int) (w : World) (f_l : SlF encI w A_l n_l l) (hn : n_l ≤ 549755813888) :
    Calls Tryz.prog 39 #[.slice A_l n_l c_l, i64 x] w fun e w' => e = .returned (.bool (hasI l x)) ∧ St w [] [] w' := by
 have hl := f_l.len
 refine enter 17 Tryz.func39 rfl Tryz.ntmps39 rfl rfl ?_
 have hs1 := St.init w
 refine WC.r1 hs1 [] rfl (WC.seq (fun K2 hK2 => WC.r1 hs1 [] rfl (WC.block ?_)))
 refine WC.lS [1, 7, 8] rfl hs1 (fun k_ f w' => ∃ (i : Nat), k_ = n_l - i ∧ (i ≤ n_l) ∧ (∀ j, j < i → iat l j ≠ x) ∧ Sub [(9, .int .i64 i)] f) ((fun (i : Nat) => n_l - i) (0)) ?_ ?_
 ·refine ⟨0, rfl, ?_, ?_, ⟨rfl, trivial⟩⟩
  · exact Nat.zero_le _
  · exact fun j hj => absurd hj (by omega)
 clear hs1
 rintro _ f w ⟨i, rfl, p0, p1, hG⟩ hF hs3
 refine WC.sub _ (hG.app hF) ?_
 clear hG hF
 refine WC.r1 hs3 [] rfl (WC.seq (fun K4 hK4 => ?_))
 refine WC.cD rfl (fun qh5 => ?_) (fun qh5 => ?_)
 ·refine WC.skip (hK4 _ _ (WC.seq (fun K6 hK6 => WC.block (WC.sr ?_))))
  refine WL.val rfl rfl rfl (Run.idxN Tryz.runUnderlying60 Tryz.sizeOf3 rfl rfl rfl ?_ ?_ ?_) ?_
  · exact SlF.some_ (SlF.st0 f_l hs3)
  · omega
  · omega
  refine WL.val rfl rfl rfl (Run.load Tryz.isAgg3 rfl rfl (SlF.one1 (SlF.st0 f_l hs3) ?_ rfl)) ?_
  · omega
  refine WL.r 1 hs3 [] rfl (WL.nil (WC.r1 hs3 [] rfl (WC.cD rfl (fun qh7 => ?_) (fun qh7 => ?_))))
  ·refine WC.r1 hs3 [] rfl (WC.ret (ibR (tkR (tkR (ibR (tkR ?_))))))
   clear hK6 hK2
   refine rtv rfl rfl hs3 ?_
   congr 1; symm; unfold hasI; rw [decide_eq_true_eq]; rw [← qh7]; exact gat_mem (F := encI) (by omega)
  refine WC.skip (hK6 _ _ (WC.region (WL.r 2 hs3 [] rfl (WL.nil (tkN ?_)))))
  refine ⟨sbF rfl, hs3, _, ?_, i + 1, rfl, ?_, ?_, ⟨rfl, trivial⟩⟩
  · omega
  · omega
  · intro j hj; rcases Nat.lt_or_ge j i with h_ | h_
    · exact p1 j h_
    · obtain rfl : j = i := by omega
      exact qh7
 refine WC.exit (hK2 _ _ (WC.r1 hs3 [] rfl (WC.ret (rtv rfl rfl hs3 ?_))))
 congr 1; symm; unfold hasI; rw [decide_eq_false_iff_not]; exact hasI_not (fun j hj => p1 j (by omega))
theorem k103_ (A_t : Option Addr) (n_t c_t : Nat) (t : List NodeD) (w : World) (f_t : SlF encNode w A_t n_t t) (hn : n_t ≤ 268435456) :
    Calls Tryz.prog 101 #[.slice A_t n_t c_t] w fun e w' => e = .returned (.bool (treeOk t)) ∧ St w [] [] w' := by
 have hl := f_t.len
 refine enter 78 Tryz.func101 rfl Tryz.ntmps101 rfl rfl ?_
 have hs1 := St.init w
 refine WC.r1 hs1 [] rfl (WC.seq (fun K2 hK2 => WC.sr (WL.r 4 hs1 [] rfl ?_)))
 apply WL.gO 5 Acts.nil hs1 rfl
 ·intro g3 J4
  have qg3 := g3
  try simp only [bf, within_iff, within_not] at qg3
  refine WL.runA tbk 1 (Acts.nil.cons (j := 3) rfl g3) hs1 [] rfl trivial (WL.call (wantF rfl g3) rfl rfl (Run.call Tryz.call161 rfl rfl rfl) (k72_ _ _ _ _ 0 _ (SlF.st0 f_t hs1) ?_ ?_) ?_)
  iterate 2 omega
  rintro _ whs5 ⟨rfl, hs5⟩
  replace hs5 := hs1.call0 hs5
  refine ⟨_, rfl, WL.runA tbk 3 (Acts.nil.cons (j := 3) rfl g3) hs5 [] rfl trivial (WL.eO 5 Acts.nil J4 hs5 g3 rfl rfl)⟩
 intro _ hs6
 refine WL.nil (WC.cq rfl (fun h7 qh7 => ?_) (fun h7 qh7 => ?_))
 ·have hbad : treeOk t = false := by cases ht : treeOk t with | false => rfl | true => have h1_ := treeOk_len ht; have h2_ := treeOk_sEnd ht; simp at qh7; omega
  refine WC.r1 hs6 [] rfl (WC.ret (tkR ?_))
  clear hK2
  refine rtv rfl rfl hs6 ?_
  rw [hbad]
 refine WC.skip (hK2 _ _ (WC.sr (WL.buildF (F := encI) hs6 ([]) Tryz.runUnderlying60 Tryz.sizeOf3 Tryz.zeroValue3 rfl rfl rfl rfl rfl rfl rfl rfl rfl rfl rfl rfl (fun A11 c12 L8 whs9 hs9 ho10 => WL.r 1 hs9 [] rfl (WL.nil (WC.seq (fun K13 hK13 => WC.r1 hs9 [] rfl ?_)))))))
 refine WC.block (WC.lO [17, 19, 20] rfl hs9 (fun k_ f L_ => ∃ (zs : List Int) (i : Nat) (A14 : Option Addr) (c15 : Nat), k_ = n_t - i ∧ (i ≤ n_t) ∧ (zs = panesL (t.take i)) ∧ ((panesL (t.take i)).Nodup) ∧ (∀ j, j < i → nodeOk (gat encNode t j) = true) ∧ OwnF encI 3 (.slice A14 (zs.length) c15) (zs) L_ ∧ Sub [(3, .slice A14 (zs.length) c15), (21, .int .i64 i)] f) (((fun (zs : List Int) (i : Nat) => n_t - i) ([]) (0))) ?_ ?_)
 ·refine ⟨[], 0, _, _, rfl, ?_, ?_, ?_, ?_, ho10, ⟨rfl, rfl, trivial⟩⟩
  · exact Nat.zero_le _
  · simp [panesL]
  · simp [panesL]
  · exact fun j hj => absurd hj (by omega)
 clear hs9
 rintro _ f w L16 ⟨zs, i, A14, c15, rfl, p0, p1, p2, p3, ho17, hG⟩ hF hs18
 refine WC.sub _ (hG.app hF) ?_
 clear hG hF
 have hzl : zs.length ≤ n_t := by rw [p1]; have := panesL_len (t.take i); rw [List.length_take] at this; omega
 refine WC.r1 hs18 [] rfl (WC.seq (fun K19 hK19 => ?_))
 refine WC.cq rfl (fun h20 qh20 => ?_) (fun h20 qh20 => ?_)
 ·refine WC.skip (hK19 _ _ (WC.seq (fun K21 hK21 => WC.block (WC.sr ?_))))
  refine WL.val rfl rfl rfl (Run.idxN Tryz.runUnderlying56 Tryz.sizeOf103 rfl rfl rfl ?_ ?_ ?_) ?_
  · exact SlF.some_ (SlF.st0 f_t hs18)
  · omega
  · omega
  refine WL.val rfl rfl rfl (Run.loadA Tryz.isAgg103 Tryz.sizeOf103 rfl rfl (SlF.whole (SlF.st0 f_t hs18) ?_)) ?_
  · omega
  refine WL.al hs18 Tryz.zeroValue103 rfl rfl (fun b22 _ hs23 => WL.st tbk hs23 0 rfl rfl (fun _ hs24 => WL.nil (WC.sr (WL.r 4 hs24 [0] rfl (WL.pA tbk 3 Acts.nil hs24 [0] rfl rfl rfl rfl (fun g_ => ⟨rfl, trivial⟩) (WL.r 1 hs24 [] rfl (WL.pA tbk 3 Acts.nil hs24 [0] rfl rfl rfl rfl (fun g_ => ⟨rfl, trivial⟩) ?_)))))))
  refine WL.r 1 hs24 [] rfl (WL.pA tbk 3 Acts.nil hs24 [0] rfl rfl rfl rfl (fun g_ => ⟨rfl, trivial⟩) (WL.r 1 hs24 [] rfl (WL.nil (WC.sr (WL.r 4 hs24 [0] rfl (WL.pA tbk 3 Acts.nil hs24 [0] rfl rfl rfl rfl (fun g_ => ⟨rfl, trivial⟩) (WL.r 1 hs24 [] rfl ?_)))))))
  refine WL.pA tbk 3 Acts.nil hs24 [0] rfl rfl rfl rfl (fun g_ => ⟨rfl, trivial⟩) (WL.r 1 hs24 [] rfl (WL.nil (WC.seq (fun K25 hK25 => WC.sr (WL.r 3 hs24 [] rfl (WL.pA tbk 2 Acts.nil hs24 [] rfl rfl rfl rfl (fun g_ => trivial) (WL.r 1 hs24 [] rfl ?_)))))))
  apply WL.gO 7 Acts.nil hs24 rfl
  ·intro g26 J27
   have qg26 := g26
   try simp only [bf, within_iff, within_not] at qg26
   refine WL.runA tbk 2 (Acts.nil.cons (j := 6) rfl g26) hs24 [] rfl trivial ?_
   apply WL.gA 4 (Acts.nil.cons (j := 6) rfl g26) hs24 rfl
   ·intro g28 J29
    have qg28 := g28
    try simp only [bf, within_iff, within_not] at qg28
    refine WL.runA tbk 3 (Acts.nil.cons (j := 8) rfl g28) hs24 [0] rfl ⟨rfl, trivial⟩ (WL.call (wantT rfl g28) rfl rfl (Run.call Tryz.call39 rfl rfl rfl) (k102_ _ _ _ _ _ _ (SlF.ofOwn ho17 (hs24.ow L16)) ?_) ?_)
    · first | assumption | rfl | omega
    rintro _ whs30 ⟨rfl, hs30⟩
    replace hs30 := hs24.call0 hs30
    refine ⟨_, rfl, WL.eA 4 (Acts.nil.cons (j := 6) rfl g26) J29 hs30 g28 rfl rfl⟩
   intro _ hs31
   exact WL.eO 3 Acts.nil J27 hs31 g26 rfl rfl
  intro _ hs32
  refine WL.nil (WC.cq rfl (fun h33 qh33 => ?_) (fun h33 qh33 => ?_))
  ·have hbad : treeOk t = false := node_bad (i := i) (by omega) (by rw [← p1]; exact h33)
   refine WC.r1 hs32 [] rfl (WC.ret (tkR (ibR (tkR (tkR (ibR (tkR ?_)))))))
   clear hK25 hK21 hK13
   refine rtv rfl rfl hs32 ?_
   rw [hbad]
  obtain ⟨hnode, hnew⟩ := node_step h33
  refine WC.skip (hK25 _ _ (WC.r1 hs32 [] rfl ?_))
  refine WC.cq rfl (fun h34 qh34 => ?_) (fun h34 qh34 => ?_)
  ·have hp := leafB_ne (n := gat encNode t i) h34
   have hnin := hnew h34
   refine WC.region (WL.r 3 hs32 [0] rfl (WL.buildSlice hs32 Tryz.runUnderlying60 Tryz.sizeOf3 Tryz.zeroValue3 rfl rfl rfl rfl rfl rfl rfl rfl rfl rfl (fun b35 whs36 hs36 => ?_)))
   refine WL.appendG (hs36.fr L16) ho17 (srcI1 Tryz.underlying60 (hs36.own _ (nthL_mem (i := 0) rfl)).1) Tryz.underlying60 inf3 rfl rfl rfl rfl rfl rfl rfl rfl rfl rfl ?_ (fun A40 c41 L37 whs38 hs38 ho39 => ?_)
   · simp; omega
   replace hs38 := St.back [_, _] hs38
   refine WL.r 1 hs38 [] rfl (WL.nil (hK21 _ _ (WC.region (WL.r 2 hs38 [] rfl (WL.nil (tkN ?_))))))
   replace hs38 := hs38.d1.d1
   refine ⟨sbF rfl, _, hs38, _, ?_, _, i + 1, _, _, rfl, ?_, ?_, ?_, ?_, ho39, ⟨rfl, rfl, trivial⟩⟩
   · omega
   · omega
   · rw [panesL_take (by omega), p1]; first | (rw [if_pos hp]) | (rw [if_neg (by simpa using hp), List.append_nil])
   · rw [panesL_take (by omega)]; first | (rw [if_pos hp]; exact nodup_snoc p2 (by rw [← p1]; exact hnin)) | (rw [if_neg (by simpa using hp), List.append_nil]; exact p2)
   · intro j hj; rcases Nat.lt_or_ge j i with h_ | h_
     · exact p3 j h_
     · obtain rfl : j = i := by omega
       exact hnode
  have hp := leafB_not (n := gat encNode t i) h34 hnode
  refine WC.skip (hK21 _ _ (WC.region (WL.r 2 hs32 [] rfl (WL.nil (tkN ?_)))))
  replace hs32 := hs32.d1
  refine ⟨sbF rfl, _, hs32, _, ?_, _, i + 1, _, _, rfl, ?_, ?_, ?_, ?_, ho17, ⟨rfl, rfl, trivial⟩⟩
  · omega
  · omega
  · rw [panesL_take (by omega), p1]; first | (rw [if_pos hp]) | (rw [if_neg (by simpa using hp), List.append_nil])
  · rw [panesL_take (by omega)]; first | (rw [if_pos hp]; exact nodup_snoc p2 (by rw [← p1]; exact hnin)) | (rw [if_neg (by simpa using hp), List.append_nil]; exact p2)
  · intro j hj; rcases Nat.lt_or_ge j i with h_ | h_
    · exact p3 j h_
    · obtain rfl : j = i := by omega
      exact hnode
 refine WC.exit (hK13 _ _ (WC.r1 hs18 [] rfl (WC.ret (rtv rfl rfl hs18 ?_))))
 rw [treeOk_mk (by omega) (by omega) (fun j hj => p3 j (by omega)) (by rwa [List.take_of_length_le (by omega)] at p2)]
theorem k104_ (A_t : Option Addr) (n_t c_t : Nat) (t : List NodeD) (w : World) (f_t : SlF encNode w A_t n_t t) (hn : n_t ≤ 268435456) :
    Calls Tryz.prog 40 #[.slice A_t n_t c_t] w fun e w' => ∃ A c L1, e = .returned (.slice A (leavesL t).length c) ∧ St w [] L1 w' ∧ OwnF encI 3 (.slice A (leavesL t).length c) (leavesL t) L1 := by
 have hl := f_t.len
 refine enter 27 Tryz.func40 rfl Tryz.ntmps40 rfl rfl ?_
 have hs1 := St.init w
 refine WC.r1 hs1 [] rfl (WC.sr (WL.buildF (F := encI) hs1 ([]) Tryz.runUnderlying60 Tryz.sizeOf3 Tryz.zeroValue3 rfl rfl rfl rfl rfl rfl rfl rfl rfl rfl rfl rfl (fun A5 c6 L2 whs3 hs3 ho4 => WL.r 1 hs3 [] rfl (WL.nil (WC.seq (fun K7 hK7 => WC.sr (WL.r 1 hs3 [] rfl ?_)))))))
 refine WL.cl Tryz.call101 rfl (k103_ _ _ _ _ _ (SlF.st0 f_t hs3) ?_) ?_
 · first | assumption | rfl | omega
 rintro _ whs8 ⟨rfl, hs8⟩
 replace hs8 := hs3.call0 hs8
 refine ⟨_, rfl, WL.r 1 hs8 [] rfl (WL.nil (WC.cq rfl (fun h9 qh9 => ?_) (fun h9 qh9 => ?_)))⟩
 ·have hok : treeOk t = false := by simpa using qh9
  refine WC.r1 hs8 [] rfl (WC.ret (tkR ?_))
  clear hK7
  refine retV1 rfl (resV.tmp rfl) ?_
  have hx_ := OwnF.eqOf (xs := leavesL t) ho4 (by simp [leavesL, hok])
  rw [← hx_]
  first | exact ⟨_, _, _, rfl, (St.keep1 hs8), ho4⟩ | exact ⟨A5, c6, _, by rw [OwnF.len_ ho4], (St.keep1 hs8), by rw [OwnF.len_ ho4]; exact ho4⟩
 have hok : treeOk t = true := by simpa using qh9
 refine WC.skip (hK7 _ _ (WC.seq (fun K10 hK10 => WC.r1 hs8 [] rfl (WC.block ?_))))
 refine WC.lO [2, 9, 11, 12] rfl hs8 (fun k_ f L_ => ∃ (zs : List Int) (i : Nat) (A11 : Option Addr) (c12 : Nat), k_ = n_t - i ∧ (i ≤ n_t) ∧ (zs = panesL (t.take i)) ∧ OwnF encI 3 (.slice A11 (zs.length) c12) (zs) L_ ∧ Sub [(3, .slice A11 (zs.length) c12), (13, .int .i64 i)] f) (((fun (zs : List Int) (i : Nat) => n_t - i) ([]) (0))) ?_ ?_
 ·refine ⟨[], 0, _, _, rfl, ?_, ?_, ho4, ⟨rfl, rfl, trivial⟩⟩
  · exact Nat.zero_le _
  · simp [panesL]
 clear hs8
 rintro _ f w L13 ⟨zs, i, A11, c12, rfl, p0, p1, ho14, hG⟩ hF hs15
 refine WC.sub _ (hG.app hF) ?_
 clear hG hF
 have hzl : zs.length ≤ n_t := by rw [p1]; have := panesL_len (t.take i); rw [List.length_take] at this; omega
 refine WC.r1 hs15 [] rfl (WC.seq (fun K16 hK16 => ?_))
 refine WC.cD rfl (fun qh17 => ?_) (fun qh17 => ?_)
 ·refine WC.skip (hK16 _ _ (WC.seq (fun K18 hK18 => WC.block (WC.sr ?_))))
  refine WL.val rfl rfl rfl (Run.idxN Tryz.runUnderlying56 Tryz.sizeOf103 rfl rfl rfl ?_ ?_ ?_) ?_
  · exact SlF.some_ (SlF.st0 f_t hs15)
  · omega
  · omega
  refine WL.val rfl rfl rfl (Run.loadA Tryz.isAgg103 Tryz.sizeOf103 rfl rfl (SlF.whole (SlF.st0 f_t hs15) ?_)) ?_
  · omega
  refine WL.al hs15 Tryz.zeroValue103 rfl rfl (fun b19 _ hs20 => WL.st tbk hs20 0 rfl rfl (fun _ hs21 => WL.nil (WC.r1 hs21 [0] rfl ?_)))
  refine WC.cD rfl (fun qh22 => ?_) (fun qh22 => ?_)
  ·have hp : (gat encNode t i).Pane ≠ 0 := by (try simp at qh22); omega
   refine WC.region (WL.r 3 hs21 [0] rfl (WL.buildSlice hs21 Tryz.runUnderlying60 Tryz.sizeOf3 Tryz.zeroValue3 rfl rfl rfl rfl rfl rfl rfl rfl rfl rfl (fun b23 whs24 hs24 => ?_)))
   refine WL.appendG (hs24.fr L13) ho14 (srcI1 Tryz.underlying60 (hs24.own _ (nthL_mem (i := 0) rfl)).1) Tryz.underlying60 inf3 rfl rfl rfl rfl rfl rfl rfl rfl rfl rfl ?_ (fun A28 c29 L25 whs26 hs26 ho27 => ?_)
   · simp; omega
   replace hs26 := St.back [_, _] hs26
   refine WL.r 1 hs26 [] rfl (WL.nil (hK18 _ _ (WC.region (WL.r 2 hs26 [] rfl (WL.nil (tkN ?_))))))
   replace hs26 := hs26.d1.d1
   refine ⟨sbF rfl, _, hs26, _, ?_, _, i + 1, _, _, rfl, ?_, ?_, ho27, ⟨rfl, rfl, trivial⟩⟩
   · omega
   · omega
   · rw [panesL_take (by omega), p1]; first | (rw [if_pos hp]) | (rw [if_neg (by simpa using hp), List.append_nil])
  have hp : (gat encNode t i).Pane = 0 := by have := nodeOk_pane (treeOk_node hok (i := i) (by omega)); simp at qh22; omega
  refine WC.skip (hK18 _ _ (WC.region (WL.r 2 hs21 [] rfl (WL.nil (tkN ?_)))))
  replace hs21 := hs21.d1
  refine ⟨sbF rfl, _, hs21, _, ?_, _, i + 1, _, _, rfl, ?_, ?_, ho14, ⟨rfl, rfl, trivial⟩⟩
  · omega
  · omega
  · rw [panesL_take (by omega), p1]; first | (rw [if_pos hp]) | (rw [if_neg (by simpa using hp), List.append_nil])
 refine WC.exit (hK10 _ _ (WC.r1 hs15 [] rfl (WC.ret (retV1 rfl (resV.tmp rfl) ?_))))
 have hx_ := OwnF.eqOf (xs := leavesL t) ho14 (by simp only [leavesL, hok, if_true]; rw [p1, List.take_of_length_le (by omega)])
 rw [← hx_]
 first | exact ⟨_, _, _, rfl, (St.keep1 hs15), ho14⟩ | exact ⟨A11, c12, _, by rw [OwnF.len_ ho14], (St.keep1 hs15), by rw [OwnF.len_ ho14]; exact ho14⟩
open Go Go.RowKit Go.Sort
theorem mapBlock_get {w : World} {b : Nat} {f : Array Value → Array Value} {k : Nat} : (mapBlock w b f).heap[k]? = if k = b then (w.heap[k]?).map (onCells f) else w.heap[k]? := by
 unfold mapBlock
 simp only [Array.getElem?_modify]
 by_cases h : b = k
 ·subst h; simp
 ·rw [if_neg h, if_neg (fun e => h e.symm)]
theorem rows_int (l : List Int) : rows encI l = l.map (Value.int .i64) := by
 induction l with
 | nil => rfl
 | cons x r ih => rw [rows_cons, ih]; rfl
theorem putCells_row {pre cl : List Value} {zs : List Int} (h : zs.length ≤ cl.length) : putCells (Value.int .i64) pre.length zs.toArray (pre ++ cl).toArray = (pre ++ (rows encI zs ++ cl.drop zs.length)).toArray := by
 apply Array.toList_inj.1
 rw [rows_int]
 apply List.ext_getElem?
 intro k
 simp only [putCells, Array.toList_mapIdx, List.getElem?_mapIdx, List.getElem?_append, List.length_map, List.getElem?_drop, List.size_toArray]
 by_cases hp : k < pre.length
 ·have h1 : ¬ (pre.length ≤ k ∧ k < pre.length + zs.length) := by omega
  simp [hp, h1, List.getElem?_eq_getElem hp]
 ·by_cases hk : k - pre.length < zs.length
  ·have hk' : k - pre.length < cl.length := by omega
   have h1 : pre.length ≤ k ∧ k < pre.length + zs.length := by omega
   simp [hp, hk, h1, List.getElem?_eq_getElem hk', List.getElem?_eq_getElem hk]
  ·have e : zs.length + (k - pre.length - zs.length) = k - pre.length := by omega
   have h1 : ¬ (pre.length ≤ k ∧ k < pre.length + zs.length) := by omega
   simp [hp, hk, h1, e]
theorem sort_own {P : Program} {g3 : TypeId} {fid : FuncId} {v : Value} {xs : List Int} {L : Hp} {w : World} {srt : List Int → List Int} (hperm : ∀ l, (srt l).length = l.length)
  (hs : ∀ (blk off cap : Nat) (zs : List Int) (w : World), Holds (Value.int .i64) w blk off zs.toArray → blk < w.heap.size → zs.length < 4611686018427387904 →
   Calls P fid #[.slice (some ⟨blk, off, none⟩) zs.length cap] w fun e w' => e = .returned (.tuple #[]) ∧ ∃ n os, w' = grow (putRow (Value.int .i64) (Sort.ahead w n) blk off (srt zs).toArray) os)
  (hn : ∀ (p : Option Addr) (cap : Nat) (w : World), Calls P fid #[.slice p 0 cap] w fun e w' => e = .returned (.tuple #[]) ∧ w' = w)
  (h : OwnF encI g3 v xs L) (hh : ∀ p, p ∈ L → w.heap[p.1]? = some p.2) (hx : xs.length ≤ 268435456) :
  Calls P fid #[v] w fun e w' => ∃ L1, e = .returned (.tuple #[]) ∧ St w (L.map (·.1)) L1 w' ∧ OwnF encI g3 v (srt xs) L1 := by
 have hkeys := h.keys
 by_cases h0 : xs.length = 0
 ·obtain ⟨A, c, rfl⟩ := h.shape
  have e : xs = [] := List.eq_nil_of_length_eq_zero h0
  have e2 : srt xs = [] := List.eq_nil_of_length_eq_zero (by rw [hperm]; exact h0)
  rw [h0]
  refine (hn A c w).mono fun e' w' ⟨he, hw⟩ => ?_
  subst hw
  refine ⟨L, he, St.take _ L hh hkeys, ?_⟩
  rw [e2]
  have := h
  rw [h0, e] at this
  exact this
 ·rcases h.2 with ⟨⟨A', hv⟩, h0', rfl⟩ | ⟨g, cap, o, pre, cl, ⟨lo, hi⟩, hv, rfl, hcap, hcm, hcl, ht, hfz, rfl⟩
  ·omega
  ·subst hv
   have hg := hh _ List.mem_cons_self
   simp only at hg
   have hsz : encI.sz = 1 := rfl
   simp only [hsz, Nat.mul_one] at hcl ht
   have hget : ∀ j (hj : j < xs.length), cl[j]? = some (Value.int .i64 xs[j]) := by
    intro j hj
    have : (cl.take xs.length)[j]? = (rows encI xs)[j]? := by rw [ht]
    rw [List.getElem?_take, if_pos hj] at this
    rw [this, rows_int]
    simp [List.getElem?_eq_getElem hj]
   have hold : Holds (Value.int .i64) w g pre.length xs.toArray := by
    intro j hj
    have hj' : j < xs.length := by simpa using hj
    refine ⟨?_, ?_⟩
    ·refine cell_of_heap hg ?_
     have e1 : (pre ++ cl)[pre.length + j]? = cl[j]? := by rw [List.getElem?_append_right (by omega), Nat.add_sub_cancel_left]
     rw [e1, hget j hj']
     simp [hj']
    ·simp only [World.frozen?, hg]
     rw [List.length_append] at hfz
     rcases hfz with h | h
     ·simp; omega
     ·simp; omega
   refine (hs g pre.length cap xs w hold (lt_of_heap hg) (by omega)).mono fun e' w' ⟨he, n, os, hw⟩ => ?_
   have hget' : ∀ k, k < w.heap.size → w'.heap[k]? = (mapBlock (Sort.ahead w n) g (putCells (Value.int .i64) pre.length (srt xs).toArray)).heap[k]? := by
    intro k hk
    rw [hw]
    show ((mapBlock (Sort.ahead w n) g (putCells (Value.int .i64) pre.length (srt xs).toArray)).heap ++ os)[k]? = _
    rw [Array.getElem?_append_left]
    unfold mapBlock
    simpa using hk
   have hsize : w.heap.size ≤ w'.heap.size := by
    rw [hw]
    show _ ≤ ((mapBlock (Sort.ahead w n) g (putCells (Value.int .i64) pre.length (srt xs).toArray)).heap ++ os).size
    unfold mapBlock
    simp [Sort.ahead]
   have hlen := hperm xs
   have hnew : w'.heap[g]? = some (.cells (pre ++ (rows encI (srt xs) ++ cl.drop (srt xs).length)).toArray g3 (lo, hi)) := by
    rw [hget' g (lt_of_heap hg), mapBlock_get, if_pos rfl]
    show (w.heap[g]?).map _ = _
    rw [hg]
    simp only [Option.map_some, onCells]
    rw [putCells_row (by omega)]
   refine ⟨[(g, .cells (pre ++ (rows encI (srt xs) ++ cl.drop (srt xs).length)).toArray g3 (lo, hi))], he, ⟨by rw [hw]; rfl, by rw [hw]; rfl, by rw [hw]; rfl, hsize, fun k hk hT => ?_, fun p hp => ?_, by simp⟩, ?_⟩
   ·rw [hget' k hk, mapBlock_get, if_neg (by intro e; apply hT; simp [e])]
    rfl
   ·simp at hp
    subst hp
    exact ⟨hnew, .inr (by simp)⟩
   ·refine ⟨by rw [rows_len], .inr ⟨g, cap, pre.length, pre, _, (lo, hi), by rw [hlen], rfl, by rw [hlen]; exact hcap, hcm, ?_, ?_, ?_, rfl⟩⟩
    ·rw [List.length_append, rows_len, List.length_drop, hlen, hsz]; omega
    ·rw [hsz, Nat.mul_one, List.take_append_of_le_length (by rw [rows_len, hsz]; omega), List.take_of_length_le (by rw [rows_len, hsz]; omega)]
    ·rcases hfz with h | h
     ·exact .inl h
     ·refine .inr ?_
      rw [List.length_append] at h ⊢
      simp only [List.length_append, rows_len, List.length_drop, hlen, hsz]; omega
open Go.Shelf
open Go.RowKit in
open Go.RowKit Go.Lib in
def Tryz.lays189_ren : Go.Shelf.Ren := ⟨fun | 189 => 166 | 125 => 210 | 257 => 209 | 128 => 258 | 129 => 259 | 294 => 249 | 295 => 250 | 296 => 251 | 297 => 252 | 298 => 253 | 299 => 254 | 216 => 255 | 300 => 256 | 301 => 257 | 328 => 281 | 329 => 282 | 330 => 283 | 331 => 284 | 332 => 285 | 215 => 286 | 343 => 300 | n => n, fun | 28 => 60 | 3 => 3 | 46 => 233 | 0 => 0 | 51 => 266 | 53 => 268 | 4 => 4 | 183 => 260 | 182 => 259 | 131 => 263 | 5 => 5 | 9 => 9 | 218 => 288 | 222 => 292 | 228 => 309 | 229 => 37 | n => n, fun | n => n⟩
theorem Tryz.lays189 : Go.Proofs.Lays.n189 Tryz.prog Tryz.lays189_ren := {
  mixed := by kernel_rfl
  f125 := Tryz.func210.trans (congrArg some (by kernel_rfl))
  f128 := Tryz.func258.trans (congrArg some (by kernel_rfl))
  f129 := Tryz.func259.trans (congrArg some (by kernel_rfl))
  f189 := Tryz.func166.trans (congrArg some (by kernel_rfl))
  f215 := Tryz.func286.trans (congrArg some (by kernel_rfl))
  f216 := Tryz.func255.trans (congrArg some (by kernel_rfl))
  f257 := Tryz.func209.trans (congrArg some (by kernel_rfl))
  f294 := Tryz.func249.trans (congrArg some (by kernel_rfl))
  f295 := Tryz.func250.trans (congrArg some (by kernel_rfl))
  f296 := Tryz.func251.trans (congrArg some (by kernel_rfl))
  f297 := Tryz.func252.trans (congrArg some (by kernel_rfl))
  f298 := Tryz.func253.trans (congrArg some (by kernel_rfl))
  f299 := Tryz.func254.trans (congrArg some (by kernel_rfl))
  f300 := Tryz.func256.trans (congrArg some (by kernel_rfl))
  f301 := Tryz.func257.trans (congrArg some (by kernel_rfl))
  f328 := Tryz.func281.trans (congrArg some (by kernel_rfl))
  f329 := Tryz.func282.trans (congrArg some (by kernel_rfl))
  f330 := Tryz.func283.trans (congrArg some (by kernel_rfl))
  f331 := Tryz.func284.trans (congrArg some (by kernel_rfl))
  f332 := Tryz.func285.trans (congrArg some (by kernel_rfl))
  f343 := Tryz.func300.trans (congrArg some (by kernel_rfl))
  t0 := Tryz.underlying0
  a0 := Tryz.isAgg0
  z0 := Tryz.sizeOf0
  v0 := Tryz.zeroValue0
  t3 := Tryz.underlying3
  a3 := Tryz.isAgg3
  z3 := Tryz.sizeOf3
  v3 := Tryz.zeroValue3
  t4 := Tryz.underlying4
  a4 := Tryz.isAgg4
  z4 := Tryz.sizeOf4
  v4 := Tryz.zeroValue4
  t5 := Tryz.underlying5
  a5 := Tryz.isAgg5
  z5 := Tryz.sizeOf5
  v5 := Tryz.zeroValue5
  t9 := Tryz.underlying9
  a9 := Tryz.isAgg9
  z9 := Tryz.sizeOf9
  v9 := Tryz.zeroValue9
  t28 := Tryz.underlying60
  a28 := Tryz.isAgg60
  z28 := Tryz.sizeOf60
  v28 := Tryz.zeroValue60
  t46 := Tryz.underlying233
  a46 := Tryz.isAgg233
  z46 := Tryz.sizeOf233
  v46 := Tryz.zeroValue233
  t51 := Tryz.underlying266
  a51 := Tryz.isAgg266
  z51 := Tryz.sizeOf266
  v51 := Tryz.zeroValue266
  t53 := Tryz.underlying268
  a53 := Tryz.isAgg268
  z53 := Tryz.sizeOf268
  v53 := Tryz.zeroValue268
  t131 := Tryz.underlying263
  a131 := Tryz.isAgg263
  z131 := Tryz.sizeOf263
  v131 := Tryz.zeroValue263
  t182 := Tryz.underlying259
  a182 := Tryz.isAgg259
  z182 := Tryz.sizeOf259
  v182 := Tryz.zeroValue259
  t183 := Tryz.underlying260
  a183 := Tryz.isAgg260
  z183 := Tryz.sizeOf260
  v183 := Tryz.zeroValue260
  t218 := Tryz.underlying288
  a218 := Tryz.isAgg288
  z218 := Tryz.sizeOf288
  v218 := Tryz.zeroValue288
  t222 := Tryz.underlying292
  a222 := Tryz.isAgg292
  z222 := Tryz.sizeOf292
  v222 := Tryz.zeroValue292
  t228 := Tryz.underlying309
  a228 := Tryz.isAgg309
  z228 := Tryz.sizeOf309
  v228 := Tryz.zeroValue309
  t229 := Tryz.underlying37
  a229 := Tryz.isAgg37
  z229 := Tryz.sizeOf37
  v229 := Tryz.zeroValue37 }
open Go.Sort Go.RowKit in
theorem Tryz.slices_Sort_int (blk off cap : Nat) (zs : List Int) (w : World) (hH : Holds (Value.int .i64) w blk off zs.toArray) (hblk : blk < w.heap.size) (hsz : zs.length < 4611686018427387904) :
    Calls Tryz.prog 166 #[.slice (some ⟨blk, off, none⟩) zs.length cap] w fun e w' =>
      e = .returned (.tuple #[]) ∧ ∃ n os, w' = grow (putRow (Value.int .i64) (Sort.ahead w n) blk off (zs.mergeSort fun x y => decide (x ≤ y)).toArray) os := Any.slices_Sort_int Tryz.lays189 blk off cap zs w hH hblk hsz
open Go.RowKit Go.Lib in
open Go.RowKit Go.Lib in
open Go.RowKit Go.Lib in
open Go.RowKit Go.Lib in
open Go.RowKit Go.Lib in
open Go.RowKit Go.Lib Go.Sort in
open Go.RowKit Go.Lib Go.Sort in
open Go.RowKit Go.Lib Go.Sort in
open Go.RowKit Go.Lib in
open Go.RowKit Go.Lib in
open Go.RowKit Go.Lib Go.Sort in
open Go.RowKit Go.Sort in
theorem Tryz.slices_Sort_int_none (p : Option Addr) (cap : Nat) (w : World) :
    Calls Tryz.prog 166 #[.slice p 0 cap] w fun e w' => e = .returned (.tuple #[]) ∧ w' = w := Any.slices_Sort_int_none Tryz.lays189 p cap w
open Go.RowKit Go.Lib in
open Go.RowKit Go.Lib in
section
theorem k105_ (v_s : Value) (s : List Int) (L_s : Hp) (w : World) (o_s : OwnF encI 3 v_s s L_s) (h_s : Hh w L_s) (hn : s.length ≤ 268435456) :
    Calls Tryz.prog 166 #[v_s] w fun e w' => ∃ L1, e = .returned (.tuple #[]) ∧ St w (L_s.map (·.1)) L1 w' ∧ OwnF encI 3 v_s (sortI s) L1 :=
  sort_own (srt := sortI) sortI_len (fun b o c zs w h1 h2 h3 => Tryz.slices_Sort_int b o c zs w h1 h2 h3) Tryz.slices_Sort_int_none o_s h_s hn
end
theorem k106_ (v_s : Value) (s : List Int) (L_s : Hp) (w : World) (o_s : OwnF encI 3 v_s s L_s) (h_s : Hh w L_s) (hn : s.length ≤ 268435456) :
    Calls Tryz.prog 167 #[v_s] w fun e w' => ∃ m A c, e = .returned (.slice A m c) ∧ St w (L_s.map (·.1)) [] w' ∧ (m = s.length ↔ adjNe s) := by
 obtain ⟨A_s, c_s, rfl⟩ := o_s.shape
 refine enter 61 Tryz.func167 rfl Tryz.ntmps167 rfl rfl ?_
 have hs1 := St.lent1 w L_s o_s h_s
 refine WC.r1 hs1 [] rfl (WC.seq (fun K2 hK2 => WC.r1 hs1 [] rfl ?_))
 refine WC.cq rfl (fun h3 qh3 => ?_) (fun h3 qh3 => ?_)
 ·refine WC.r1 hs1 [] rfl (WC.ret (tkR ?_))
  clear hK2
  refine retV1 rfl (resV.tmp rfl) (⟨_, _, _, rfl, hs1.nil, ⟨fun _ i hi => absurd hi (by omega), fun _ => rfl⟩⟩)
 refine WC.skip (hK2 _ _ (WC.seq (fun K4 hK4 => WC.r1 hs1 [] rfl (WC.block ?_))))
 refine WC.lS [0, 8] rfl hs1 (fun k_ f w' => ∃ (k : Nat), k_ = s.length - k ∧ (1 ≤ k) ∧ (k ≤ s.length) ∧ (∀ j, 1 ≤ j → j < k → iat s j ≠ iat s (j - 1)) ∧ Sub [(3, .int .i64 k)] f) ((fun (k : Nat) => s.length - k) (1)) ?_ ?_
 ·refine ⟨1, rfl, ?_, ?_, ?_, ⟨rfl, trivial⟩⟩
  · exact Nat.le_refl _
  · omega
  · exact fun j h1 h2 => absurd h1 (by omega)
 clear hs1
 rintro _ f w ⟨k, rfl, p0, p1, p2, hG⟩ hF hs5
 refine WC.sub _ (hG.app hF) ?_
 clear hG hF
 refine WC.seq (fun K6 hK6 => WC.r1 hs5 [] rfl ?_)
 refine WC.cq rfl (fun h7 qh7 => ?_) (fun h7 qh7 => ?_)
 ·refine WC.skip (hK6 _ _ (WC.seq (fun K8 hK8 => WC.block (WC.sq1 hs5 (WQ.r 2 [] rfl ?_)))))
  refine WQ.val rfl rfl rfl (fun w_ hs_ => (Run.idxN Tryz.runUnderlying60 Tryz.sizeOf3 rfl rfl rfl ?_ ?_ ?_)) ?_
  · exact SlF.some_ (SlF.ofOwn o_s ((hs_ : St _ _ _ _).ow L_s))
  · first | omega | (simp only [List.length_take, List.length_drop]; omega)
  · first | omega | (simp only [List.length_take, List.length_drop]; omega)
  refine WQ.val rfl rfl rfl (fun w_ hs_ => (Run.load Tryz.isAgg3 rfl rfl (SlF.one1 (SlF.ofOwn o_s ((hs_ : St _ _ _ _).ow L_s)) ?_ rfl))) ?_
  · first | omega | (simp only [List.length_take, List.length_drop]; omega)
  refine WQ.r 3 [] rfl ?_
  refine WQ.val rfl rfl rfl (fun w_ hs_ => (Run.idxK (k - 1) Tryz.runUnderlying60 Tryz.sizeOf3 rfl rfl rfl ?_ ?_ ?_)) ?_
  · exact SlF.some_ (SlF.ofOwn o_s ((hs_ : St _ _ _ _).ow L_s))
  · first | omega | (simp only [List.length_take, List.length_drop]; omega)
  · first | omega | (simp only [List.length_take, List.length_drop]; omega)
  refine WQ.val rfl rfl rfl (fun w_ hs_ => (Run.load Tryz.isAgg3 rfl rfl (SlF.one1 (SlF.ofOwn o_s ((hs_ : St _ _ _ _).ow L_s)) ?_ rfl))) ?_
  · first | omega | (simp only [List.length_take, List.length_drop]; omega)
  refine WQ.r 1 [] rfl (WQ.nil (fun _ (hs9 : St _ _ _ _) => ?_))
  refine WC.cq rfl (fun h10 qh10 => ?_) (fun h10 qh10 => ?_)
  ·have hdup : iat s (k - 1 + 1) = iat s (k - 1) := by rw [show k - 1 + 1 = k by omega]; exact qh10
   refine WC.sr (WL.r 2 hs9 [] rfl ?_)
   have hc_ := OwnF.cap o_s
   refine WL.val rfl rfl rfl (Run.sliceL (k) Tryz.runUnderlying60 Tryz.sizeOf3 rfl rfl rfl ?_ ?_) ?_
   · first | rfl | (omega)
   · refine ⟨?_, ?_, ?_⟩ <;> (omega)
   refine WL.r 1 hs9 [] rfl (WL.nil (WC.seq (fun K11 hK11 => WC.r1 hs9 [] rfl (WC.block ?_))))
   refine WC.lO [4, 8, 10, 11, 12, 13, 16, 17, 18, 19, 20, 21, 22, 23, 24, 25, 26, 27, 28] rfl hs9 (fun k_ f L_ => ∃ (zs : List Int) (j k2 : Nat), k_ = (s.length - k) - j ∧ (1 ≤ j) ∧ (k2 + 1 ≤ k + j) ∧ (k ≤ k2) ∧ (k + j ≤ s.length) ∧ (zs.length = s.length) ∧ OwnF encI 3 (.slice A_s (s.length) c_s) (zs) L_ ∧ Sub [(0, .slice A_s (s.length) c_s), (5, .int .i64 j), (3, .int .i64 k2)] f) (((fun (zs : List Int) (j k2 : Nat) => (s.length - k) - j) (s) (1) (k))) ?_ ?_
   ·refine ⟨s, 1, k, rfl, ?_, ?_, ?_, ?_, ?_, o_s, ⟨rfl, rfl, rfl, trivial⟩⟩
    · exact Nat.le_refl _
    · omega
    · exact Nat.le_refl _
    · omega
    · rfl
   clear hs9
   rintro _ f w L14 ⟨zs, j, k2, rfl, r0, r1, r2, r3, r4, ho15, hG⟩ hF hs16
   refine WC.sub _ (hG.app hF) ?_
   clear hG hF
   refine WC.seq (fun K17 hK17 => WC.r1 hs16 [] rfl ?_)
   refine WC.cq rfl (fun h18 qh18 => ?_) (fun h18 qh18 => ?_)
   ·refine WC.skip (hK17 _ _ (WC.seq (fun K19 hK19 => WC.block (WC.sq1 hs16 (WQ.r 2 [] rfl ?_)))))
    refine WQ.val rfl rfl rfl (fun w_ hs_ => (Run.idxN Tryz.runUnderlying60 Tryz.sizeOf3 rfl rfl rfl ?_ ?_ ?_)) ?_
    · exact SlF.some_ (SlF.cutL (k) (SlF.ofOwn ho15 ((hs_ : St _ _ _ _).ow L14)) (by refine ⟨?_, ?_, ?_⟩ <;> (omega)))
    · first | omega | (simp only [List.length_take, List.length_drop]; omega)
    · first | omega | (simp only [List.length_take, List.length_drop]; omega)
    refine WQ.val rfl rfl rfl (fun w_ hs_ => (Run.load Tryz.isAgg3 rfl rfl (SlF.one1 (SlF.cutL (k) (SlF.ofOwn ho15 ((hs_ : St _ _ _ _).ow L14)) (by refine ⟨?_, ?_, ?_⟩ <;> (omega))) ?_ rfl))) ?_
    · first | omega | (simp only [List.length_take, List.length_drop]; omega)
    refine WQ.r 3 [] rfl ?_
    refine WQ.val rfl rfl rfl (fun w_ hs_ => (Run.idxK (j - 1) Tryz.runUnderlying60 Tryz.sizeOf3 rfl rfl rfl ?_ ?_ ?_)) ?_
    · exact SlF.some_ (SlF.cutL (k) (SlF.ofOwn ho15 ((hs_ : St _ _ _ _).ow L14)) (by refine ⟨?_, ?_, ?_⟩ <;> (omega)))
    · first | omega | (simp only [List.length_take, List.length_drop]; omega)
    · first | omega | (simp only [List.length_take, List.length_drop]; omega)
    refine WQ.val rfl rfl rfl (fun w_ hs_ => (Run.load Tryz.isAgg3 rfl rfl (SlF.one1 (SlF.cutL (k) (SlF.ofOwn ho15 ((hs_ : St _ _ _ _).ow L14)) (by refine ⟨?_, ?_, ?_⟩ <;> (omega))) ?_ rfl))) ?_
    · first | omega | (simp only [List.length_take, List.length_drop]; omega)
    refine WQ.r 1 [] rfl (WQ.nil (fun _ (hs20 : St _ _ _ _) => ?_))
    refine WC.cq rfl (fun h21 qh21 => ?_) (fun h21 qh21 => ?_)
    ·refine WC.sr (WL.r 4 hs20 [] rfl (WL.val rfl rfl rfl (Run.idxN Tryz.runUnderlying60 Tryz.sizeOf3 rfl rfl rfl ?_ ?_ ?_) ?_))
     · exact SlF.some_ (SlF.cutL (k) (SlF.ofOwn ho15 (hs20.ow L14)) (by refine ⟨?_, ?_, ?_⟩ <;> (omega)))
     · first | omega | (simp only [List.length_take, List.length_drop]; omega)
     · first | omega | (simp only [List.length_take, List.length_drop]; omega)
     refine WL.val rfl rfl rfl (Run.load Tryz.isAgg3 rfl rfl (SlF.one1 (SlF.cutL (k) (SlF.ofOwn ho15 (hs20.ow L14)) (by refine ⟨?_, ?_, ?_⟩ <;> (omega))) ?_ rfl)) ?_
     · first | omega | (simp only [List.length_take, List.length_drop]; omega)
     refine WL.val rfl rfl rfl (Run.idxN Tryz.runUnderlying60 Tryz.sizeOf3 rfl rfl rfl ?_ ?_ ?_) ?_
     · exact SlF.some_ (SlF.ofOwn ho15 (hs20.ow L14))
     · first | omega | (simp only [List.length_take, List.length_drop]; omega)
     · first | omega | (simp only [List.length_take, List.length_drop]; omega)
     refine WL.storeF1 (x' := _) hs20 ho15 Tryz.sizeOf3 rfl rfl rfl rfl rfl rfl rfl rfl rfl ?_ rfl (fun L22 whs23 hs23 ho24 _ => ?_)
     · first | omega | (simp only [List.length_take, List.length_drop]; omega)
     refine WL.nil (WC.region (WL.r 3 hs23 [] rfl (WL.nil (hK19 _ _ (WC.region (WL.r 3 hs23 [] rfl (WL.nil ?_)))))))
     refine tkN (⟨sbF rfl, _, hs23, _, ?_, _, (j + 1), (k2 + 1), rfl, ?_, ?_, ?_, ?_, ?_, ho24, ⟨rfl, rfl, rfl, trivial⟩⟩)
     · omega
     · omega
     · omega
     · omega
     · omega
     · first | omega | (rw [List.length_set]; omega)
    refine WC.skip (hK19 _ _ (WC.region (WL.r 3 hs20 [] rfl (WL.nil (tkN ?_)))))
    refine ⟨sbF rfl, _, hs20, _, ?_, _, (j + 1), k2, rfl, ?_, ?_, ?_, ?_, ?_, ho15, ⟨rfl, rfl, rfl, trivial⟩⟩
    · omega
    · omega
    · omega
    · omega
    · omega
    · first | omega | (rw [List.length_set]; omega)
   refine WC.exit (hK11 _ _ (WC.sr (WL.r 2 hs16 [] rfl ?_)))
   have hc_ := OwnF.cap ho15
   refine WL.val rfl rfl rfl (Run.sliceL (k2) Tryz.runUnderlying60 Tryz.sizeOf3 rfl rfl rfl ?_ ?_) ?_
   · first | rfl | (omega)
   · refine ⟨?_, ?_, ?_⟩ <;> (omega)
   refine WL.clearF (lo := k2) hs16 ho15 Tryz.underlying60 Tryz.zeroValue3 rfl rfl rfl rfl rfl ?_ (fun L25 whs26 hs26 ho27 _ => ?_)
   · omega
   refine WL.nil (WC.sr (WL.r 2 hs26 [] rfl ?_))
   have ho28 := OwnF.take (k := k2) ho27 (by omega)
   have hcho28 := OwnF.cap ho28
   refine WL.val rfl rfl rfl (Run.sliceH0 (k2) Tryz.runUnderlying60 Tryz.sizeOf3 rfl rfl rfl ?_ ?_) ?_
   · first | rfl | (omega)
   · first | (exact Nat.zero_le _) | (omega)
   refine WL.r 1 hs26 [] rfl (WL.nil (WC.ret (ibR (tkR (tkR (ibR (tkR ?_)))))))
   clear hK8 hK4
   refine retV1 rfl (resV.tmp rfl) (⟨_, _, _, rfl, hs26.nil, ⟨fun h => absurd h (by omega), fun h => absurd hdup (h (k - 1) (by omega))⟩⟩)
  refine WC.skip (hK8 _ _ (WC.region (WL.r 3 hs9 [] rfl (WL.nil (tkN ?_)))))
  refine ⟨sbF rfl, hs9, _, ?_, k + 1, rfl, ?_, ?_, ?_, ⟨rfl, trivial⟩⟩
  · omega
  · omega
  · omega
  · intro j h1 h2; rcases Nat.lt_or_ge j k with h_ | h_
    · exact p2 j h1 h_
    · obtain rfl : j = k := by omega
      exact qh10
 refine WC.exit (hK4 _ _ (WC.r1 hs5 [] rfl (WC.ret (retV1 rfl (resV.tmp rfl) (⟨_, _, _, rfl, hs5.nil, ⟨fun _ i hi => p2 (i + 1) (by omega) (by omega), fun _ => rfl⟩⟩)))))
theorem k107_ (A_t : Option Addr) (n_t c_t : Nat) (t : List NodeD) (w : World) (f_t : SlF encNode w A_t n_t t) (hn : n_t ≤ 268435456) :
    Calls Tryz.prog 106 #[.slice A_t n_t c_t] w fun e w' => e = .returned (.bool (treeOk t)) ∧ St w [] [] w' := by
 have hl := f_t.len
 have hpl := panesL_len t
 have hsl := sortI_len (panesL t)
 refine enter 25 Tryz.func106 rfl Tryz.ntmps106 rfl rfl ?_
 have hs1 := St.init w
 refine WC.r1 hs1 [] rfl (WC.seq (fun K2 hK2 => WC.sr (WL.r 4 hs1 [] rfl ?_)))
 apply WL.gO 5 Acts.nil hs1 rfl
 ·intro g3 J4
  have qg3 := g3
  try simp only [bf, within_iff, within_not] at qg3
  refine WL.runA tbk 1 (Acts.nil.cons (j := 3) rfl g3) hs1 [] rfl trivial (WL.call (wantF rfl g3) rfl rfl (Run.call Tryz.call165 rfl rfl rfl) (k70_ _ _ _ _ _ _ (SlF.st0 f_t hs1) ?_) ?_)
  · first | assumption | rfl | omega
  rintro _ whs5 ⟨rfl, hs5⟩
  replace hs5 := hs1.call0 hs5
  refine ⟨_, rfl, WL.runA tbk 3 (Acts.nil.cons (j := 3) rfl g3) hs5 [] rfl trivial (WL.eO 5 Acts.nil J4 hs5 g3 rfl rfl)⟩
 intro _ hs6
 refine WL.nil (WC.cq rfl (fun h7 qh7 => ?_) (fun h7 qh7 => ?_))
 ·have hbad : treeOk t = false := by
    rw [← Bool.not_eq_true]; intro h_; simp only [treeOk, Bool.and_eq_true, decide_eq_true_eq] at h_; simp at qh7; omega
  refine WC.r1 hs6 [] rfl (WC.ret (tkR ?_))
  clear hK2
  refine retV1 rfl (resV.tmp rfl) (⟨congrArg Ending.returned (by rw [hbad]), hs6.nil⟩)
 have hA : t.length ≤ 31 := by simp at qh7; omega
 have hB : endI t 0 = (t.length : Int) := by simp at qh7; omega
 refine WC.skip (hK2 _ _ (WC.sr (WL.r 1 hs6 [] rfl ?_)))
 refine WL.cl Tryz.call107 rfl (k71_ _ _ _ _ _ (SlF.st0 f_t hs6) ?_) ?_
 · first | assumption | rfl | omega
 rintro _ whs8 ⟨A9, c10, L1_11, rfl, hs8, ho12⟩
 replace hs8 := hs6.callF hs8
 refine ⟨_, rfl, WL.r 1 hs8 [] rfl (WL.nil (WC.sr (WL.r 1 hs8 [] rfl (WL.cl Tryz.call166 rfl (k105_ _ _ _ _ ho12 (hs8.ow L1_11) ?_) ?_))))⟩
 · omega
 rintro _ whs13 ⟨L1_14, rfl, hs13, ho15⟩
 replace hs13 := St.lend hs8 hs13
 refine ⟨_, rfl, WL.nil (WC.sr (WL.r 1 hs13 [] rfl (WL.cl Tryz.call149 rfl (k73_ _ _ _ _ _ (SlF.ofOwn ho15 (hs13.ow L1_14)) ?_) ?_)))⟩
 · first | assumption | rfl | omega
 rintro _ whs16 ⟨A17, c18, L1_19, rfl, hs16, ho20⟩
 replace hs16 := hs13.callF hs16
 refine ⟨_, rfl, WL.cl Tryz.call167 rfl (k106_ _ _ _ _ ho20 (hs16.ow L1_19) ?_) ?_⟩
 · first | assumption | rfl | omega
 rintro _ whs21 ⟨m22, A23, c24, rfl, hs21, hm25⟩
 replace hs21 := St.lend hs16 hs21
 refine ⟨_, rfl, ?_⟩
 rw [List.nil_append] at hs21
 refine WL.r 5 hs21 [] rfl (WL.nil (WC.ret (retV1 rfl (resV.tmp rfl) (⟨congrArg Ending.returned (congrArg Value.bool ?_), hs21.nil⟩))))
 have hm_ := hm25
 rw [sortI_adj, sortI_len] at hm_
 rw [Bool.eq_iff_iff, decide_eq_true_eq]
 simp only [treeOk, hA, hB, decide_true, Bool.true_and, decide_eq_true_eq]
 rw [← hm_]
 try omega
theorem k108_ (A_t : Option Addr) (n_t c_t : Nat) (t : List NodeD) (w : World) (f_t : SlF encNode w A_t n_t t) (hn : n_t ≤ 268435456) :
    Calls Tryz.prog 47 #[.slice A_t n_t c_t] w fun e w' => ∃ A c L1, e = .returned (.slice A (leavesL t).length c) ∧ St w [] L1 w' ∧ OwnF encI 3 (.slice A (leavesL t).length c) (leavesL t) L1 := by
 refine enter 8 Tryz.func47 rfl Tryz.ntmps47 rfl rfl ?_
 have hs1 := St.init w
 refine WC.r1 hs1 [] rfl (WC.seq (fun K2 hK2 => WC.sr (WL.r 1 hs1 [] rfl ?_)))
 refine WL.cl Tryz.call106 rfl (k107_ _ _ _ _ _ (SlF.st0 f_t hs1) ?_) ?_
 · first | assumption | rfl | omega
 rintro _ whs3 ⟨rfl, hs3⟩
 replace hs3 := hs1.call0 hs3
 refine ⟨_, rfl, WL.r 1 hs3 [] rfl (WL.nil (WC.cq rfl (fun h4 qh4 => ?_) (fun h4 qh4 => ?_)))⟩
 ·have hok : treeOk t = false := by simpa using qh4
  refine WC.r1 hs3 [] rfl (WC.ret (tkR ?_))
  clear hK2
  refine retV1 rfl (resV.tmp rfl) ?_
  have hx_ := OwnF.eqOf (xs := leavesL t) (OwnF.nil encI 3) (by simp [leavesL, hok])
  rw [← hx_]
  exact ⟨_, _, _, rfl, hs3.nil, (OwnF.nil encI 3)⟩
 have hok : treeOk t = true := by simpa using qh4
 refine WC.skip (hK2 _ _ (WC.sr (WL.r 1 hs3 [] rfl ?_)))
 refine WL.cl Tryz.call107 rfl (k71_ _ _ _ _ _ (SlF.st0 f_t hs3) ?_) ?_
 · first | assumption | rfl | omega
 rintro _ whs5 ⟨A6, c7, L1_8, rfl, hs5, ho9⟩
 replace hs5 := hs3.callF hs5
 refine ⟨_, rfl, WL.r 1 hs5 [] rfl (WL.nil (WC.ret (retV1 rfl (resV.tmp rfl) ?_)))⟩
 have hx_ := OwnF.eqOf (xs := leavesL t) ho9 (by simp [leavesL, hok])
 rw [← hx_]
 first | exact ⟨_, _, _, rfl, (St.keep1 hs5), ho9⟩ | exact ⟨A6, c7, _, by rw [OwnF.len_ ho9], (St.keep1 hs5), by rw [OwnF.len_ ho9]; exact ho9⟩
theorem k109_ (q : WinR) (b_p : Nat) (p : Int) (w : World) (f_q : okWinR 549755813888 w q) (f_p : SlF encI w (some ⟨b_p, 0, none⟩) 1 [p]) (hq : q.Tree.n ≤ 1048576) :
    Calls Tryz.prog 45 #[.agg #[i64 q.Id, .string q.Name, .slice q.Tree.A q.Tree.n q.Tree.c, i64 q.Active, .bool q.Zoom], .pointer (some ⟨b_p, 0, none⟩)] w fun e w' => e = .returned (.bool (hasI (leavesL q.Tree.xs) p)) ∧ St w [] [] w' := by
 have nz_q_Name := f_q.Name_z
 have nb_q_Tree := f_q.Tree_n
 have nl_q_Tree := f_q.Tree.len
 have hll := leavesL_len q.Tree.xs
 refine enter 9 Tryz.func45 rfl Tryz.ntmps45 rfl rfl ?_
 have hs1 := St.init w
 refine WC.sr (WL.bx hs1 rfl (fun b2 _ hs3 => WL.r 1 hs3 [] rfl (WL.nil (WC.seq (fun K4 hK4 => WC.rH hs3 hs3 (fun _ hs5 => ?_))))))
 refine WH.rn [0, 1] hs5 [0] rfl rfl ?_
 refine WH.take 3 rfl (by kernel_rfl) rfl rfl rfl hs5 (fun w_ hs_ => (Run.load Tryz.isAgg3 rfl rfl (SlF.var (SlF.st0 f_p (hs_ : St _ _ _ _)) rfl))) ?_
 refine WH.o1 2 rfl (WL.cl Tryz.call47 rfl (k108_ _ _ _ _ _ (SlF.st0 f_q.Tree hs5) ?_) ?_)
 · first | assumption | rfl | omega
 rintro _ whs6 ⟨A7, c8, L1_9, rfl, hs6, ho10⟩
 replace hs6 := hs5.callF hs6
 refine ⟨_, rfl, ?_⟩
 replace hs6 := St.back [_] hs6
 refine WL.nil ⟨(hs6.rm L1_9), WH.o1 4 rfl (WL.cl Tryz.call46 rfl (k77_ _ _ _ _ _ _ (SlF.ofOwn ho10 (hs6.ow L1_9)) ?_) ?_)⟩
 · first | assumption | rfl | omega
 rintro _ whs11 ⟨rfl, hs11⟩
 replace hs11 := hs6.call0 hs11
 refine ⟨_, rfl, WL.nil ⟨(hs11.rm L1_9), WH.rn [5] (hs11.rm L1_9) [] rfl rfl (WH.dn (hK4 _ _ (WC.ret (rtv rfl rfl hs11 ?_))))⟩⟩
 rfl
theorem k110_ (A_s : Option Addr) (n_s c_s : Nat) (s : List WinR) (b_p : Nat) (p : Int) (w : World) (f_s : SlN encWinR (okWinR 549755813888) w A_s n_s s) (f_p : SlF encI w (some ⟨b_p, 0, none⟩) 1 [p]) (hn : n_s ≤ 549755813888) (hW : ∀ y, y ∈ s → y.Tree.n ≤ 1048576) :
    Calls Tryz.prog 44 #[.slice A_s n_s c_s, .func (.func 45) #[] #[.pointer (some ⟨b_p, 0, none⟩)]] w fun e w' => e = .returned (.int .i64 (findI (fun q : WinR => hasI (leavesL q.Tree.xs) p) s)) ∧ St w [] [] w' := by
 have hsl := f_s.sl.len
 refine enter 19 Tryz.func44 rfl Tryz.ntmps44 rfl rfl ?_
 have hs1 := St.init w
 refine WC.r1 hs1 [] rfl (WC.seq (fun K2 hK2 => WC.r1 hs1 [] rfl (WC.block ?_)))
 refine WC.lS [0, 1, 7] rfl hs1 (fun k_ f w' => ∃ (i : Nat), k_ = n_s - i ∧ (i ≤ n_s) ∧ (∀ j, j < i → (fun q : WinR => hasI (leavesL q.Tree.xs) p) (gat encWinR s j) = false) ∧ Sub [(8, .int .i64 i)] f) ((fun (i : Nat) => n_s - i) (0)) ?_ ?_
 ·refine ⟨0, rfl, ?_, ?_, ⟨rfl, trivial⟩⟩
  · exact Nat.zero_le _
  · exact fun j hj => absurd hj (by omega)
 clear hs1
 rintro _ f w ⟨i, rfl, p0, p1, hG⟩ hF hs3
 refine WC.sub _ (hG.app hF) ?_
 clear hG hF
 refine WC.r1 hs3 [] rfl (WC.seq (fun K4 hK4 => ?_))
 refine WC.cond rfl (fun h5 => ?_) (fun h5 => ?_)
 ·have qh5 := h5
  try simp only [decide_eq_true_eq, decide_eq_false_iff_not] at qh5
  have hWi := hW (gat encWinR s i) (gat_mem (by omega))
  refine WC.skip (hK4 _ _ (WC.seq (fun K6 hK6 => WC.block (WC.r1 hs3 [] rfl (WC.sr (WL.r 3 hs3 [] rfl ?_))))))
  refine WL.val rfl rfl rfl (Run.idxN Tryz.runUnderlying30 Tryz.sizeOf58 rfl rfl rfl ?_ ?_ ?_) ?_
  · exact SlF.some_ (SlF.st0 f_s.sl hs3)
  · omega
  · omega
  refine WL.val rfl rfl rfl (Run.loadA Tryz.isAgg58 Tryz.sizeOf58 rfl rfl (SlF.whole (SlF.st0 f_s.sl hs3) ?_)) ?_
  · omega
  refine WL.call rfl rfl rfl (Run.callC Tryz.call45 rfl rfl rfl) (k109_ (gat encWinR s i) _ _ _ (okWinR.st0 (SlN.nth f_s (by omega)) hs3) (SlF.st0 f_p hs3) ?_) ?_
  · first | assumption | rfl | omega
  rintro _ whs7 ⟨rfl, hs7⟩
  replace hs7 := hs3.call0 hs7
  refine ⟨_, rfl, WL.nil (WC.cond rfl (fun h8 => ?_) (fun h8 => ?_))⟩
  ·have qh8 := h8
   try simp only [decide_eq_true_eq, decide_eq_false_iff_not] at qh8
   refine WC.r1 hs7 [] rfl (WC.ret (ibR (tkR (tkR (ibR (tkR ?_))))))
   clear hK6 hK2
   refine rtv rfl rfl hs7 ?_
   rw [findI_some (F := encWinR) (by rw [f_s.sl.len]; omega) p1 h8]
  have qh8 := h8
  try simp only [decide_eq_true_eq, decide_eq_false_iff_not] at qh8
  refine WC.skip (hK6 _ _ (WC.region (WL.r 2 hs7 [] rfl (WL.nil (tkN ?_)))))
  refine ⟨sbF rfl, hs7, _, ?_, i + 1, rfl, ?_, ?_, ⟨rfl, trivial⟩⟩
  · omega
  · omega
  · intro j hj; rcases Nat.lt_or_ge j i with h_ | h_
    · exact p1 j h_
    · obtain rfl : j = i := by omega
      exact h8
 have qh5 := h5
 try simp only [decide_eq_true_eq, decide_eq_false_iff_not] at qh5
 refine WC.exit (hK2 _ _ (WC.r1 hs3 [] rfl (WC.ret (rtv rfl rfl hs3 ?_))))
 rw [findI_none (F := encWinR) (fun j hj => p1 j (by rw [f_s.sl.len] at hj; omega))]
theorem k111_ (s : StateR) (p : Int) (w : World) (f_s : okStateR 549755813888 w s) (hT : totState s.dat ≤ 1048576) :
    Calls Tryz.prog 14 #[.agg #[i64 s.W, i64 s.H, i64 s.Limit, i64 s.Next, .slice s.Panes.A s.Panes.n s.Panes.c, .slice s.Wins.A s.Wins.n s.Wins.c, .slice s.Sess.A s.Sess.n s.Sess.c], i64 p] w fun e w' => e = .returned (.int .i64 (findI (winHas p) s.dat.Wins)) ∧ St w [] [] w' := by
 have nb_s_Panes := f_s.Panes_n
 have nl_s_Panes := f_s.Panes.sl.len
 have nb_s_Wins := f_s.Wins_n
 have nl_s_Wins := f_s.Wins.sl.len
 have nb_s_Sess := f_s.Sess_n
 have nl_s_Sess := f_s.Sess.sl.len
 have hsm0 : smState 1048576 s.dat := totState_sm hT
 have hWn : ∀ y, y ∈ s.Wins.xs → y.Tree.n ≤ 1048576 := fun y hy => by have h1 := (f_s.Wins.all y hy).Tree.len; have h2 : y.Tree.xs.length ≤ 1048576 := (hsm0.2.2.2.1 _ (List.mem_map_of_mem hy)).2; omega
 refine enter 9 Tryz.func14 rfl Tryz.ntmps14 rfl rfl ?_
 have hs1 := St.init w
 refine WC.sr (WL.bx hs1 rfl (fun b2 _ hs3 => WL.bx hs3 rfl (fun b4 _ hs5 => WL.r 1 hs5 [] rfl (WL.nil (WC.sr (WL.r 2 hs5 [1] rfl (WL.val rfl rfl rfl (Run.makeFunc rfl rfl) ?_)))))))
 refine WL.cl Tryz.call44 rfl (k110_ _ _ _ _ _ _ _ (SlN.st0 okWinR.st0 f_s.Wins hs5) (SlF.own1 (hs5.own _ (nthL_mem (i := 0) rfl)).1) ?_ ?_) ?_
 iterate 2 first | assumption | rfl | omega
 rintro _ whs6 ⟨rfl, hs6⟩
 replace hs6 := hs5.call0 hs6
 refine ⟨_, rfl, WL.r 1 hs6 [] rfl (WL.nil (WC.ret (rtv rfl rfl hs6 ?_)))⟩
 rw [show s.dat.Wins = s.Wins.xs.map WinR.dat from rfl, findI_map]; rfl
theorem k112_ (s : StateR) (p : Int) (w : World) (f_s : okStateR 549755813888 w s) (hT : totState s.dat ≤ 1048576) :
    Calls Tryz.prog 12 #[.agg #[i64 s.W, i64 s.H, i64 s.Limit, i64 s.Next, .slice s.Panes.A s.Panes.n s.Panes.c, .slice s.Wins.A s.Wins.n s.Wins.c, .slice s.Sess.A s.Sess.n s.Sess.c], i64 p] w fun e w' => e = .returned (.int .i64 (findI (winHas p) s.dat.Wins)) ∧ St w [] [] w' := by
 have nb_s_Panes := f_s.Panes_n
 have nl_s_Panes := f_s.Panes.sl.len
 have nb_s_Wins := f_s.Wins_n
 have nl_s_Wins := f_s.Wins.sl.len
 have nb_s_Sess := f_s.Sess_n
 have nl_s_Sess := f_s.Sess.sl.len
 have hsm0 : smState 1048576 s.dat := totState_sm hT
 have hWn : ∀ y, y ∈ s.Wins.xs → y.Tree.n ≤ 1048576 := fun y hy => by have h1 := (f_s.Wins.all y hy).Tree.len; have h2 : y.Tree.xs.length ≤ 1048576 := (hsm0.2.2.2.1 _ (List.mem_map_of_mem hy)).2; omega
 refine enter 22 Tryz.func12 rfl Tryz.ntmps12 rfl rfl ?_
 have hs1 := St.init w
 refine WC.sr (WL.bx hs1 rfl (fun b2 _ hs3 => WL.r 1 hs3 [] rfl (WL.nil (WC.seq (fun K4 hK4 => WC.r1 hs3 [0] rfl (WC.block ?_))))))
 refine WC.lS [1, 8, 9] rfl hs3 (fun k_ f w' => ∃ (i : Nat), k_ = s.Wins.n - i ∧ (i ≤ s.Wins.n) ∧ (∀ j, j < i → (fun q : WinR => hasI (leavesL q.Tree.xs) p) (gat encWinR s.Wins.xs j) = false) ∧ Sub [(10, .int .i64 i)] f) ((fun (i : Nat) => s.Wins.n - i) (0)) ?_ ?_
 ·refine ⟨0, rfl, ?_, ?_, ⟨rfl, trivial⟩⟩
  · exact Nat.zero_le _
  · exact fun j hj => absurd hj (by omega)
 clear hs3
 rintro _ f w ⟨i, rfl, p0, p1, hG⟩ hF hs5
 refine WC.sub _ (hG.app hF) ?_
 clear hG hF
 refine WC.r1 hs5 [] rfl (WC.seq (fun K6 hK6 => ?_))
 refine WC.cq rfl (fun h7 qh7 => ?_) (fun h7 qh7 => ?_)
 ·have hWi := hWn (gat encWinR s.Wins.xs i) (gat_mem (by omega))
  have hll := leavesL_len (gat encWinR s.Wins.xs i).Tree.xs
  have hTl := (SlN.nth f_s.Wins (show i < s.Wins.n by omega)).Tree.len
  refine WC.skip (hK6 _ _ (WC.seq (fun K8 hK8 => WC.block (WC.sr (WL.r 1 hs5 [] rfl ?_)))))
  refine WL.val rfl rfl rfl (Run.idxN Tryz.runUnderlying30 Tryz.sizeOf58 rfl rfl rfl ?_ ?_ ?_) ?_
  · exact SlF.some_ (SlF.st0 f_s.Wins.sl hs5)
  · omega
  · omega
  refine WL.val rfl rfl rfl (Run.loadA Tryz.isAgg58 Tryz.sizeOf58 rfl rfl (SlF.whole (SlF.st0 f_s.Wins.sl hs5) ?_)) ?_
  · omega
  refine WL.al hs5 Tryz.zeroValue58 rfl rfl (fun b9 _ hs10 => WL.r 1 hs10 [] rfl (WL.st tbk hs10 0 rfl rfl (fun _ hs11 => WL.nil (WC.sr (WL.r 2 hs11 [0] rfl ?_)))))
  refine WL.cl Tryz.call40 rfl (k104_ _ _ _ _ _ (SlF.st0 (SlN.nth f_s.Wins (by omega)).Tree hs11) ?_) ?_
  · first | assumption | rfl | omega
  rintro _ whs12 ⟨A13, c14, L1_15, rfl, hs12, ho16⟩
  replace hs12 := hs11.callF hs12
  refine ⟨_, rfl, ?_⟩
  replace hs12 := St.back [_, _] hs12
  refine WL.r 1 hs12 [] rfl (WL.cl Tryz.call39 rfl (k102_ _ _ _ _ _ _ (SlF.ofOwn ho16 (hs12.ow L1_15)) ?_) ?_)
  · first | assumption | rfl | omega
  rintro _ whs17 ⟨rfl, hs17⟩
  replace hs17 := hs12.call0 hs17
  refine ⟨_, rfl, WL.nil (WC.cq rfl (fun h18 qh18 => ?_) (fun h18 qh18 => ?_))⟩
  ·refine WC.r1 hs17 [] rfl (WC.ret (ibR (tkR (tkR (ibR (tkR ?_))))))
   clear hK8 hK4
   refine rtv rfl rfl hs17 ?_
   rw [show s.dat.Wins = s.Wins.xs.map WinR.dat from rfl, findI_map]; exact congrArg (Value.int _) (findI_some (F := encWinR) (p := (fun q : WinR => hasI (leavesL q.Tree.xs) p)) (xs := s.Wins.xs) (by omega) p1 h18).symm
  refine WC.skip (hK8 _ _ (WC.region (WL.r 2 hs17 [] rfl (WL.nil (tkN ?_)))))
  refine ⟨sbF rfl, (hs17.drop (by repeat (first | exact List.Sublist.refl _ | exact List.sublist_append_left _ _ | exact List.Sublist.trans (List.sublist_append_left _ _) (List.sublist_append_left _ _) | apply List.Sublist.cons | refine List.Sublist.trans ?_ (sR _)))), _, ?_, i + 1, rfl, ?_, ?_, ⟨rfl, trivial⟩⟩
  · omega
  · omega
  · intro j hj; rcases Nat.lt_or_ge j i with h_ | h_
    · exact p1 j h_
    · obtain rfl : j = i := by omega
      exact h18
 refine WC.exit (hK4 _ _ (WC.r1 hs5 [] rfl (WC.ret (rtv rfl rfl hs5 ?_))))
 rw [show s.dat.Wins = s.Wins.xs.map WinR.dat from rfl, findI_map]; exact congrArg (Value.int _) (findI_none (F := encWinR) (p := (fun q : WinR => hasI (leavesL q.Tree.xs) p)) (xs := s.Wins.xs) (fun j hj => p1 j (by omega))).symm
theorem inf71 : Tryz.prog.info? 71 = some Tryz.t71 := by kernel_rfl
set_option maxHeartbeats 1000000 in
theorem k113_ (n_Pane : Int) (n_Down : Bool) (n_First : Int) (r_Pane : Int) (r_X : Int) (r_Y : Int) (r_W : Int) (r_H : Int) (w : World) (hb : -1000000 ≤ n_First ∧ n_First ≤ 1000000 ∧ 0 ≤ r_X ∧ r_X ≤ 1000 ∧ 0 ≤ r_Y ∧ r_Y ≤ 1000 ∧ 0 ≤ r_W ∧ r_W ≤ 1000 ∧ 0 ≤ r_H ∧ r_H ≤ 1000) :
    Calls Tryz.prog 264 #[.agg #[i64 n_Pane, .bool n_Down, i64 n_First], .agg #[i64 r_Pane, i64 r_X, i64 r_Y, i64 r_W, i64 r_H]] w fun e w' => e = .returned (.tuple #[.agg (encRect.enc (firstR (⟨n_Pane, n_Down, n_First⟩ : NodeD) (⟨r_Pane, r_X, r_Y, r_W, r_H⟩ : RectD))).toArray, .agg (encRect.enc (secondR (⟨n_Pane, n_Down, n_First⟩ : NodeD) (⟨r_Pane, r_X, r_Y, r_W, r_H⟩ : RectD))).toArray, .bool (decide (3 ≤ sizeR (⟨n_Pane, n_Down, n_First⟩ : NodeD) (⟨r_Pane, r_X, r_Y, r_W, r_H⟩ : RectD)))]) ∧ St w [] [] w' := by
 refine enter 56 Tryz.func264 rfl Tryz.ntmps264 rfl rfl ?_
 have hs1 := St.init w
 refine WC.sr (WL.bx hs1 rfl (fun b2 _ hs3 => WL.bx hs3 rfl (fun b4 _ hs5 => WL.al hs5 Tryz.zeroValue71 rfl rfl (fun b6 _ hs7 => WL.al hs7 Tryz.zeroValue71 rfl rfl (fun b8 _ hs9 => WL.r 1 hs9 [] rfl (WL.nil (WC.seq (fun K10 hK10 => ?_))))))))
 apply WC.join2 (fun b11 b12 => (b11, .cells (List.toArray [i64 (r_Pane), i64 (r_X), i64 (r_Y), i64 (r_W), i64 (r_H)]) _ _) :: (b12, .cells (List.toArray [i64 (r_Pane), i64 (r_X), i64 (r_Y), i64 (r_W), i64 (r_H)]) _ _) :: (b8, _) :: (b6, _) :: (b4, _) :: (b2, _) :: _) (fun b11 b12 => [(0, _), (1, _), (2, _), (3, _), (4, _), (5, _), (6, _), (7, _), (8, _)])
 ·refine WC.rH hs9 hs9 (fun _ hs13 => ?_)
  refine WH.rn [0, 1] hs13 [2, 2] rfl rfl (WH.all [2, 3] (by kernel_rfl) rfl (WHs.cons (i := 2) rfl ?_ (WHs.cons (i := 3) rfl ?_ WHs.nil)))
  ·refine WL.al hs13 Tryz.zeroValue71 rfl rfl (fun b14 _ hs15 => WL.nil ⟨hs15.d1, WH.o1 3 rfl (WL.al hs15 Tryz.zeroValue71 rfl rfl (fun b16 _ hs17 => WL.nil ⟨hs17.d1.d1, WH.o1 4 rfl (WL.st tbk hs17 1 rfl rfl (fun _ hs18 => WL.nil ⟨hs18.d1.d1, ?_⟩))⟩))⟩)
   refine WH.o1 5 rfl (WL.st tbk hs18 0 rfl rfl (fun _ hs19 => WL.nil ⟨hs19.d1.d1, WH.dn (⟨rfl, b14, b16, (St.swap [] hs19), ⟨rfl, rfl, rfl, rfl, rfl, rfl, rfl, rfl, rfl, trivial⟩⟩)⟩))
  refine WL.al hs13 Tryz.zeroValue71 rfl rfl (fun b20 _ hs21 => WL.nil ⟨hs21.d1, WH.o1 2 rfl (WL.al hs21 Tryz.zeroValue71 rfl rfl (fun b22 _ hs23 => WL.nil ⟨hs23.d1.d1, WH.o1 4 rfl (WL.st tbk hs23 0 rfl rfl (fun _ hs24 => WL.nil ⟨hs24.d1.d1, ?_⟩))⟩))⟩)
  refine WH.o1 5 rfl (WL.st tbk hs24 1 rfl rfl (fun _ hs25 => WL.nil ⟨hs25.d1.d1, WH.dn (⟨rfl, b22, b20, hs25, ⟨rfl, rfl, rfl, rfl, rfl, rfl, rfl, rfl, rfl, trivial⟩⟩)⟩))
 ·rintro f_hs26 whs26 ⟨b11, b12, hs26, hG27⟩
  replace hs26 : St _ _ _ _ := hs26
  refine hK10 _ _ (WC.sub _ hG27 (WC.r1 hs26 [4] rfl (WC.seq (fun K28 hK28 => WC.r1 hs26 [5] rfl ?_))))
  refine WC.cq rfl (fun h29 qh29 => ?_) (fun h29 qh29 => ?_)
  ·have hd : n_Down = true := qh29
   have e1 : firstR (⟨n_Pane, n_Down, n_First⟩ : NodeD) (⟨r_Pane, r_X, r_Y, r_W, r_H⟩ : RectD) = ⟨r_Pane, r_X, r_Y, r_W, min n_First (r_H - 2)⟩ := by simp [firstR, hd]
   have e2 : secondR (⟨n_Pane, n_Down, n_First⟩ : NodeD) (⟨r_Pane, r_X, r_Y, r_W, r_H⟩ : RectD) = ⟨r_Pane, r_X, r_Y + min n_First (r_H - 2) + 1, r_W, r_H - min n_First (r_H - 2) - 1⟩ := by simp [secondR, hd]
   have e3 : sizeR (⟨n_Pane, n_Down, n_First⟩ : NodeD) (⟨r_Pane, r_X, r_Y, r_W, r_H⟩ : RectD) = r_H := by simp [sizeR, hd]
   refine WC.region (WL.r 3 hs26 [4] rfl (WL.nil (hK28 _ _ (WC.r1 hs26 [5] rfl (WC.seq (fun K30 hK30 => WC.r1 hs26 [5] rfl (WC.condT rfl h29 ?_)))))))
   apply WC.join0 ((b11, .cells (List.toArray [i64 (r_Pane), i64 (r_X), i64 (r_Y), i64 (r_W), i64 (min n_First (r_H - 2))]) _ _) :: (b12, .cells (List.toArray [i64 (r_Pane), i64 (r_X), i64 (r_Y + min n_First (r_H - 2) + 1), i64 (r_W), i64 (r_H - min n_First (r_H - 2) - 1)]) _ _) :: (b8, _) :: (b6, _) :: (b4, _) :: (b2, _) :: _) ([(0, _), (1, _), (2, _), (3, _), (4, _), (5, _), (6, _), (7, _), (8, _), (9, _), (10, _), (13, _), (14, _), (15, _), (16, _), (17, _), (18, _), (19, _), (20, _), (21, _), (22, _), (23, _), (24, _), (25, _)])
   ·refine WC.rH hs26.d1.d1 hs26 (fun _ hs32 => ?_)
    refine WH.rn [0, 1, 2, 3, 4, 5, 6, 7, 8, 9, 10] hs32.d1.d1 [2] rfl rfl (WH.o1 11 rfl (WL.st tbk hs32 0 rfl rfl (fun _ hs33 => WL.nil ⟨hs33.d1.d1, WH.rn [12] hs33.d1.d1 [] rfl rfl (WH.o1 13 rfl (WL.st tbk hs33 1 rfl rfl (fun _ hs34 => WL.nil ⟨hs34.d1.d1, ?_⟩)))⟩)))
    refine WH.rn [14] hs34.d1.d1 [] rfl rfl (WH.o1 15 rfl (WL.st tbk hs34 1 rfl rfl (fun _ hs35 => WL.nil ⟨hs35.d1.d1, WH.dn (⟨rfl, hs35, ⟨rfl, rfl, rfl, rfl, rfl, rfl, rfl, rfl, rfl, rfl, rfl, rfl, rfl, rfl, rfl, rfl, rfl, rfl, rfl, rfl, rfl, rfl, rfl, rfl, trivial⟩⟩)⟩)))
   ·rintro f_hs36 whs36 ⟨hs36, hG37⟩
    replace hs36 : St _ _ _ _ := hs36
    refine hK30 _ _ (WC.sub _ hG37 (WC.seq (fun K38 hK38 => ?_)))
    apply WC.join0 ((b11, _) :: (b12, _) :: (b8, .cells (List.toArray [i64 (r_Pane), i64 (r_X), i64 (r_Y + min n_First (r_H - 2) + 1), i64 (r_W), i64 (r_H - min n_First (r_H - 2) - 1)]) _ _) :: (b6, .cells (List.toArray [i64 (r_Pane), i64 (r_X), i64 (r_Y), i64 (r_W), i64 (min n_First (r_H - 2))]) _ _) :: (b4, _) :: (b2, _) :: _) ([(0, _), (1, _), (2, _), (3, _), (4, _), (5, _), (7, _), (8, _), (9, _), (10, _), (13, _), (14, _), (15, _), (16, _), (17, _), (18, _), (19, _), (20, _), (21, _), (22, _), (23, _), (24, _), (25, _), (6, _)])
    ·refine WC.rH ((hs36.fb b8).d1.fb b6).d1 hs36 (fun _ hs39 => ?_)
     refine WH.rn [0, 1, 2, 3] ((hs39.fb b8).d1.fb b6).d1 [0, 1] rfl rfl (WH.o1 4 rfl (WL.st tbk hs39 3 rfl rfl (fun _ hs40 => WL.nil ⟨((hs40.fb b8).d1.fb b6).d1, WH.o1 5 rfl (WL.st tbk hs40 2 rfl rfl (fun _ hs41 => WL.nil ⟨((hs41.fb b8).d1.fb b6).d1, WH.rn [6] ((hs41.fb b8).d1.fb b6).d1 [] rfl rfl ?_⟩))⟩)))
     refine WH.dn (⟨rfl, hs41, ⟨rfl, rfl, rfl, rfl, rfl, rfl, rfl, rfl, rfl, rfl, rfl, rfl, rfl, rfl, rfl, rfl, rfl, rfl, rfl, rfl, rfl, rfl, rfl, rfl, trivial⟩⟩)
    ·rintro f_hs42 whs42 ⟨hs42, hG43⟩
     replace hs42 : St _ _ _ _ := hs42
     refine hK38 _ _ (WC.sub _ hG43 (WC.ret (retV3 rfl (resV.cellA tbk hs42 3 rfl rfl rfl rfl) (resV.cellA tbk hs42 2 rfl rfl rfl rfl) (resV.tmp rfl) (⟨congrArg Ending.returned ?_, hs42.nil⟩))))
     rw [e1, e2, e3]; rfl
  have hd : n_Down = false := qh29
  have e1 : firstR (⟨n_Pane, n_Down, n_First⟩ : NodeD) (⟨r_Pane, r_X, r_Y, r_W, r_H⟩ : RectD) = ⟨r_Pane, r_X, r_Y, min n_First (r_W - 2), r_H⟩ := by simp [firstR, hd]
  have e2 : secondR (⟨n_Pane, n_Down, n_First⟩ : NodeD) (⟨r_Pane, r_X, r_Y, r_W, r_H⟩ : RectD) = ⟨r_Pane, r_X + min n_First (r_W - 2) + 1, r_Y, r_W - min n_First (r_W - 2) - 1, r_H⟩ := by simp [secondR, hd]
  have e3 : sizeR (⟨n_Pane, n_Down, n_First⟩ : NodeD) (⟨r_Pane, r_X, r_Y, r_W, r_H⟩ : RectD) = r_W := by simp [sizeR, hd]
  refine WC.skip (hK28 _ _ (WC.r1 hs26 [5] rfl (WC.seq (fun K44 hK44 => WC.r1 hs26 [5] rfl (WC.condF rfl h29 ?_)))))
  apply WC.join0 ((b11, .cells (List.toArray [i64 (r_Pane), i64 (r_X), i64 (r_Y), i64 (min n_First (r_W - 2)), i64 (r_H)]) _ _) :: (b12, .cells (List.toArray [i64 (r_Pane), i64 (r_X + min n_First (r_W - 2) + 1), i64 (r_Y), i64 (r_W - min n_First (r_W - 2) - 1), i64 (r_H)]) _ _) :: (b8, _) :: (b6, _) :: (b4, _) :: (b2, _) :: _) ([(0, _), (1, _), (2, _), (3, _), (4, _), (5, _), (6, _), (7, _), (8, _), (9, _), (10, _), (13, _), (14, _), (15, _), (16, _), (19, _), (20, _), (21, _), (22, _), (23, _), (24, _), (25, _)])
  ·refine WC.rH hs26.d1.d1 hs26 (fun _ hs46 => ?_)
   refine WH.rn [0, 1, 2, 3, 4, 5, 6, 7, 8, 9, 10] hs46.d1.d1 [2] rfl rfl (WH.o1 11 rfl (WL.st tbk hs46 0 rfl rfl (fun _ hs47 => WL.nil ⟨hs47.d1.d1, WH.rn [12] hs47.d1.d1 [] rfl rfl (WH.o1 13 rfl (WL.st tbk hs47 1 rfl rfl (fun _ hs48 => WL.nil ⟨hs48.d1.d1, ?_⟩)))⟩)))
   refine WH.rn [14] hs48.d1.d1 [] rfl rfl (WH.o1 15 rfl (WL.st tbk hs48 1 rfl rfl (fun _ hs49 => WL.nil ⟨hs49.d1.d1, WH.dn (⟨rfl, hs49, ⟨rfl, rfl, rfl, rfl, rfl, rfl, rfl, rfl, rfl, rfl, rfl, rfl, rfl, rfl, rfl, rfl, rfl, rfl, rfl, rfl, rfl, rfl, trivial⟩⟩)⟩)))
  ·rintro f_hs50 whs50 ⟨hs50, hG51⟩
   replace hs50 : St _ _ _ _ := hs50
   refine hK44 _ _ (WC.sub _ hG51 (WC.seq (fun K52 hK52 => ?_)))
   apply WC.join0 ((b11, _) :: (b12, _) :: (b8, .cells (List.toArray [i64 (r_Pane), i64 (r_X + min n_First (r_W - 2) + 1), i64 (r_Y), i64 (r_W - min n_First (r_W - 2) - 1), i64 (r_H)]) _ _) :: (b6, .cells (List.toArray [i64 (r_Pane), i64 (r_X), i64 (r_Y), i64 (min n_First (r_W - 2)), i64 (r_H)]) _ _) :: (b4, _) :: (b2, _) :: _) ([(0, _), (1, _), (2, _), (3, _), (4, _), (5, _), (7, _), (8, _), (9, _), (10, _), (13, _), (14, _), (15, _), (16, _), (19, _), (20, _), (21, _), (22, _), (23, _), (24, _), (25, _), (6, _)])
   ·refine WC.rH ((hs50.fb b8).d1.fb b6).d1 hs50 (fun _ hs53 => ?_)
    refine WH.rn [0, 1, 2, 3] ((hs53.fb b8).d1.fb b6).d1 [0, 1] rfl rfl (WH.o1 4 rfl (WL.st tbk hs53 3 rfl rfl (fun _ hs54 => WL.nil ⟨((hs54.fb b8).d1.fb b6).d1, WH.o1 5 rfl (WL.st tbk hs54 2 rfl rfl (fun _ hs55 => WL.nil ⟨((hs55.fb b8).d1.fb b6).d1, WH.rn [6] ((hs55.fb b8).d1.fb b6).d1 [] rfl rfl ?_⟩))⟩)))
    refine WH.dn (⟨rfl, hs55, ⟨rfl, rfl, rfl, rfl, rfl, rfl, rfl, rfl, rfl, rfl, rfl, rfl, rfl, rfl, rfl, rfl, rfl, rfl, rfl, rfl, rfl, rfl, trivial⟩⟩)
   ·rintro f_hs56 whs56 ⟨hs56, hG57⟩
    replace hs56 : St _ _ _ _ := hs56
    refine hK52 _ _ (WC.sub _ hG57 (WC.ret (retV3 rfl (resV.cellA tbk hs56 3 rfl rfl rfl rfl) (resV.cellA tbk hs56 2 rfl rfl rfl rfl) (resV.tmp rfl) (⟨congrArg Ending.returned ?_, hs56.nil⟩))))
    rw [e1, e2, e3]; rfl
theorem k114_ (f : Int) (n : Int) (w : World) (hb : -1000000 ≤ n ∧ n ≤ 1000000) :
    Calls Tryz.prog 214 #[i64 f, i64 n] w fun e w' => e = .returned (.int .i64 (min f (n - 2))) ∧ St w [] [] w' := by
 refine enter 12 Tryz.func214 rfl Tryz.ntmps214 rfl rfl ?_
 have hs1 := St.init w
 refine WC.r1 hs1 [] rfl (WC.seq (fun K2 hK2 => WC.r1 hs1 [] rfl ?_))
 refine WC.cD rfl (fun qh3 => ?_) (fun qh3 => ?_)
 ·refine WC.r1 hs1 [] rfl (WC.ret (tkR ?_))
  clear hK2
  refine rtv rfl rfl hs1 ?_
  refine congrArg (Value.int .i64) ?_; omega
 refine WC.skip (hK2 _ _ (WC.r1 hs1 [] rfl (WC.ret (rtv rfl rfl hs1 ?_))))
 refine congrArg (Value.int .i64) ?_; omega
set_option maxHeartbeats 2000000 in
theorem k115_ (m_ : Nat) : ∀ (A_t : Option Addr) (n_t c_t : Nat) (t : List NodeD) (at_ : Int) (i : Nat) (r_Pane : Int) (r_X : Int) (r_Y : Int) (r_W : Int) (r_H : Int) (S : Tr) (w : World) (f_t : SlF encNode w A_t n_t t) (hn : n_t ≤ 268435456) (hat : at_ = (i : Int)) (hS : At t i S) (hr : Fine (⟨r_Pane, r_X, r_Y, r_W, r_H⟩ : RectD)) (hm_ : S.flat.length = m_), Calls Tryz.prog 172 #[.slice A_t n_t c_t, i64 at_, .agg #[i64 r_Pane, i64 r_X, i64 r_Y, i64 r_W, i64 r_H]] w fun e w' => ∃ A c L1, e = .returned (.tuple #[.slice A ((placeS S (⟨r_Pane, r_X, r_Y, r_W, r_H⟩ : RectD)).1).length c, .bool (placeS S (⟨r_Pane, r_X, r_Y, r_W, r_H⟩ : RectD)).2]) ∧ St w [] L1 w' ∧ OwnF encRect 71 (.slice A ((placeS S (⟨r_Pane, r_X, r_Y, r_W, r_H⟩ : RectD)).1).length c) ((placeS S (⟨r_Pane, r_X, r_Y, r_W, r_H⟩ : RectD)).1) L1 := by
 induction m_ using Nat.strongRecOn with
 | ind m_ IH =>
  intro A_t n_t c_t t at_ i r_Pane r_X r_Y r_W r_H S w f_t hn hat hS hr hm_
  subst hat
  have hl := f_t.len
  have hlt := hS.lt
  have hnode := hS.ok (gat encNode t i) (by have := hS.head; exact List.mem_of_mem_head? this)
  have hpb := nodeOk_pane hnode
  obtain ⟨hr0, hr1, hr2, hr3, hr4, hr5, hr6⟩ := id hr
  simp only at hr0 hr1 hr2 hr3 hr4 hr5 hr6
  refine enter 102 Tryz.func172 rfl Tryz.ntmps172 rfl rfl ?_
  have hs1 := St.init w
  refine WC.sr (WL.bx hs1 rfl (fun b2 _ hs3 => WL.r 2 hs3 [] rfl (WL.nil (WC.sr (WL.r 2 hs3 [] rfl ?_)))))
  refine WL.val rfl rfl rfl (Run.idxN Tryz.runUnderlying56 Tryz.sizeOf103 rfl rfl rfl ?_ ?_ ?_) ?_
  · exact SlF.some_ (SlF.st0 f_t hs3)
  · omega
  · omega
  refine WL.val rfl rfl rfl (Run.loadA Tryz.isAgg103 Tryz.sizeOf103 rfl rfl (SlF.whole (SlF.st0 f_t hs3) ?_)) ?_
  · omega
  refine WL.al hs3 Tryz.zeroValue103 rfl rfl (fun b4 _ hs5 => WL.st tbk hs5 0 rfl rfl (fun _ hs6 => WL.nil (WC.seq (fun K7 hK7 => WC.r1 hs6 [0] rfl ?_))))
  refine WC.cD rfl (fun qh8 => ?_) (fun qh8 => ?_)
  ·have hlf : isSplit t i = false := by simp [isSplit]; omega
   have hSe := hS.of_leaf hlf
   subst hSe
   refine WC.sr (WL.r 3 hs6 [0] rfl (WL.st tbk hs6 1 rfl rfl (fun _ hs9 => WL.nil (WC.sr (WL.r 1 hs9 [1] rfl (WL.buildF (F := encRect) hs9 ([⟨(gat encNode t i).Pane, r_X, r_Y, r_W, r_H⟩]) Tryz.runUnderlying158 Tryz.sizeOf71 Tryz.zeroValue71 rfl rfl rfl rfl rfl rfl rfl rfl rfl rfl rfl rfl (fun A13 c14 L10 whs11 hs11 ho12 => ?_)))))))
   replace hs11 := St.back [_, _] hs11
   refine WL.r 2 hs11 [] rfl (WL.nil (WC.ret (tkR ?_)))
   clear hK7
   refine retV2 rfl (resV.tmp rfl) (resV.tmp rfl) (⟨_, _, _, rfl, (St.keep1 (hs11.fr L10)), ho12⟩)
  have hsp : isSplit t i = true := by simp [isSplit]; omega
  obtain ⟨n, a, b, rfl⟩ := hS.of_split hsp
  obtain ⟨hn', ha, hb⟩ := hS.parts
  subst hn'
  have hF : 1 ≤ (gat encNode t i).First ∧ (gat encNode t i).First ≤ 120 := by
    have := hnode; rw [nodeOk, if_pos (by simpa [isSplit] using hsp), within_iff] at this; exact this
  have hle := hS.le
  simp only [Tr.flat, List.length_cons, List.length_append] at hle
  refine WC.skip (hK7 _ _ (WC.sr (WL.r 1 hs6 [1] rfl (WL.al hs6 Tryz.zeroValue71 rfl rfl (fun b15 _ hs16 => WL.st tbk hs16 0 rfl rfl (fun _ hs17 => WL.nil (WC.sr ?_)))))))
  refine WL.r 1 hs17 [2] rfl (WL.al hs17 Tryz.zeroValue71 rfl rfl (fun b18 _ hs19 => WL.st tbk hs19 0 rfl rfl (fun _ hs20 => WL.nil (WC.seq (fun K21 hK21 => WC.r1 hs20 [2] rfl ?_)))))
  refine WC.cq rfl (fun h22 qh22 => ?_) (fun h22 qh22 => ?_)
  ·have hd : (gat encNode t i).Down = true := qh22
   refine WC.seq (fun K23 hK23 => WC.r1 hs20 [3] rfl ?_)
   refine WC.cD rfl (fun qh24 => ?_) (fun qh24 => ?_)
   ·have hpl : placeS (.split (gat encNode t i) a b) (⟨r_Pane, r_X, r_Y, r_W, r_H⟩ : RectD) = ([], false) := by
      have : ¬ 3 ≤ sizeR (gat encNode t i) (⟨r_Pane, r_X, r_Y, r_W, r_H⟩ : RectD) := by simp only [sizeR, hd]; simp; omega
      simp only [placeS, if_neg this]
    refine WC.r1 hs20 [] rfl (WC.ret (tkR (tkR ?_)))
    clear hK23 hK21
    refine retV2 rfl (resV.tmp rfl) (resV.tmp rfl) ?_
    rw [hpl]
    exact ⟨_, _, _, rfl, hs20.nil, OwnF.nil encRect 71⟩
   have hs3 : 3 ≤ sizeR (gat encNode t i) (⟨r_Pane, r_X, r_Y, r_W, r_H⟩ : RectD) := by simp only [sizeR, hd]; simp; omega
   have hfe : firstR (gat encNode t i) (⟨r_Pane, r_X, r_Y, r_W, r_H⟩ : RectD) = ⟨r_Pane, r_X, r_Y, r_W, min (gat encNode t i).First (r_H - 2)⟩ := by simp [firstR, hd]
   have hse : secondR (gat encNode t i) (⟨r_Pane, r_X, r_Y, r_W, r_H⟩ : RectD) = ⟨r_Pane, r_X, r_Y + min (gat encNode t i).First (r_H - 2) + 1, r_W, r_H - min (gat encNode t i).First (r_H - 2) - 1⟩ := by simp [secondR, hd]
   have hpl : placeS (.split (gat encNode t i) a b) (⟨r_Pane, r_X, r_Y, r_W, r_H⟩ : RectD) = ((placeS a ⟨r_Pane, r_X, r_Y, r_W, min (gat encNode t i).First (r_H - 2)⟩).1 ++ (placeS b ⟨r_Pane, r_X, r_Y + min (gat encNode t i).First (r_H - 2) + 1, r_W, r_H - min (gat encNode t i).First (r_H - 2) - 1⟩).1, (placeS a ⟨r_Pane, r_X, r_Y, r_W, min (gat encNode t i).First (r_H - 2)⟩).2 && (placeS b ⟨r_Pane, r_X, r_Y + min (gat encNode t i).First (r_H - 2) + 1, r_W, r_H - min (gat encNode t i).First (r_H - 2) - 1⟩).2) := by simp only [placeS, if_pos hs3, hfe, hse]
   refine WC.skip (hK23 _ _ (WC.sr (WL.r 4 hs20 [2, 3] rfl ?_)))
   refine WL.cl Tryz.call214 rfl (k114_ _ _ _ ?_) ?_
   · first | assumption | rfl | omega
   rintro _ whs25 ⟨rfl, hs25⟩
   replace hs25 := hs20.call0 hs25
   refine ⟨_, rfl, WL.r 1 hs25 [] rfl (WL.st tbk hs25 1 rfl rfl (fun _ hs26 => WL.nil (WC.sr (WL.r 7 hs26 [3, 1] rfl (WL.st tbk hs26 0 rfl rfl (fun _ hs27 => WL.nil ?_))))))⟩
   refine WC.region (WL.r 7 hs27 [3, 1] rfl (WL.st tbk hs27 0 rfl rfl (fun _ hs28 => WL.nil (hK21 _ _ (WC.sr (WL.r 4 hs28 [1] rfl ?_))))))
   refine WL.cl Tryz.call172 rfl (IH _ ?_ _ _ _ _ _ (i + 1) _ _ _ _ _ a _ (SlF.st0 f_t hs28) ?_ ?_ ?_ ?_ rfl) ?_
   · (rw [← hm_]; simp only [Tr.flat, List.length_cons, List.length_append]; omega)
   · exact hn
   · rfl
   · exact ha
   · exact hfe ▸ Fine.first hr hF.1 hs3
   rintro _ whs29 ⟨A30, c31, L1_32, rfl, hs29, ho33⟩
   replace hs29 := hs28.callF hs29
   refine ⟨_, rfl, ?_⟩
   replace hs29 := St.back [_, _, _, _] hs29
   refine WL.r 5 hs29 [] rfl (WL.nil (WC.seq (fun K34 hK34 => WC.rH hs29 hs29 (fun _ hs35 => ?_))))
   refine WH.rn [0, 1, 2, 3, 5] hs35 [0] rfl rfl (WH.o1 4 rfl (WL.cl Tryz.call161 rfl (k72_ _ _ _ _ (i + 1) _ (SlF.st0 f_t hs35) ?_ ?_) ?_))
   iterate 2 omega
   rintro _ whs36 ⟨rfl, hs36⟩
   replace hs36 := hs35.call0 hs36
   refine ⟨_, rfl, WL.nil ⟨hs36, WH.o1 6 rfl (WL.cl Tryz.call172 rfl (IH _ ?_ _ _ _ _ _ (i + 1 + a.flat.length) _ _ _ _ _ b _ (SlF.st0 f_t hs36) ?_ ?_ ?_ ?_ rfl) ?_)⟩⟩
   · (rw [← hm_]; simp only [Tr.flat, List.length_cons, List.length_append]; omega)
   · exact hn
   · (have := ha.sEnd; omega)
   · exact hb
   · exact hse ▸ Fine.second hr hF.1 hs3
   rintro _ whs37 ⟨A38, c39, L1_40, rfl, hs37, ho41⟩
   replace hs37 := hs36.callF hs37
   refine ⟨_, rfl, ?_⟩
   replace hs37 := St.back [_, _, _, _] hs37
   refine WL.nil ⟨(hs37.rm L1_40), WH.rn [7, 8, 9, 10, 11] (hs37.rm L1_40) [] rfl rfl (WH.dn (hK34 _ _ (WC.sr (WL.r 2 hs37 [] rfl ?_))))⟩
   refine WL.appendG (hs37.fr L1_32) ho33 (SlF.src (SlF.ofOwn ho41 (hs37.ow L1_40)) Tryz.underlying158) Tryz.underlying158 inf71 rfl rfl rfl rfl rfl rfl rfl rfl rfl rfl ?_ (fun A45 c46 L42 whs43 hs43 ho44 => ?_)
   · refine Nat.le_trans (Nat.add_le_add placeS_len placeS_len) ?_; omega
   replace hs43 := St.back [_, _, _, _] hs43
   refine WL.r 2 hs43 [] rfl (WL.pA tbk 1 Acts.nil hs43 [] rfl rfl rfl rfl (fun g_ => trivial) (WL.r 2 hs43 [] rfl (WL.nil (WC.ret (retV2 rfl (resV.tmp rfl) (resV.tmp rfl) ?_)))))
   rw [hpl]
   exact ⟨_, _, _, rfl, (St.keep1 (hs43.fr L42)), ho44⟩
  have hd : (gat encNode t i).Down = false := qh22
  refine WC.seq (fun K47 hK47 => WC.r1 hs20 [3] rfl ?_)
  refine WC.cD rfl (fun qh48 => ?_) (fun qh48 => ?_)
  ·have hpl : placeS (.split (gat encNode t i) a b) (⟨r_Pane, r_X, r_Y, r_W, r_H⟩ : RectD) = ([], false) := by
     have : ¬ 3 ≤ sizeR (gat encNode t i) (⟨r_Pane, r_X, r_Y, r_W, r_H⟩ : RectD) := by simp only [sizeR, hd]; simp; omega
     simp only [placeS, if_neg this]
   refine WC.r1 hs20 [] rfl (WC.ret (tkR (tkR ?_)))
   clear hK47 hK21
   refine retV2 rfl (resV.tmp rfl) (resV.tmp rfl) ?_
   rw [hpl]
   exact ⟨_, _, _, rfl, hs20.nil, OwnF.nil encRect 71⟩
  have hs3 : 3 ≤ sizeR (gat encNode t i) (⟨r_Pane, r_X, r_Y, r_W, r_H⟩ : RectD) := by simp only [sizeR, hd]; simp; omega
  have hfe : firstR (gat encNode t i) (⟨r_Pane, r_X, r_Y, r_W, r_H⟩ : RectD) = ⟨r_Pane, r_X, r_Y, min (gat encNode t i).First (r_W - 2), r_H⟩ := by simp [firstR, hd]
  have hse : secondR (gat encNode t i) (⟨r_Pane, r_X, r_Y, r_W, r_H⟩ : RectD) = ⟨r_Pane, r_X + min (gat encNode t i).First (r_W - 2) + 1, r_Y, r_W - min (gat encNode t i).First (r_W - 2) - 1, r_H⟩ := by simp [secondR, hd]
  have hpl : placeS (.split (gat encNode t i) a b) (⟨r_Pane, r_X, r_Y, r_W, r_H⟩ : RectD) = ((placeS a ⟨r_Pane, r_X, r_Y, min (gat encNode t i).First (r_W - 2), r_H⟩).1 ++ (placeS b ⟨r_Pane, r_X + min (gat encNode t i).First (r_W - 2) + 1, r_Y, r_W - min (gat encNode t i).First (r_W - 2) - 1, r_H⟩).1, (placeS a ⟨r_Pane, r_X, r_Y, min (gat encNode t i).First (r_W - 2), r_H⟩).2 && (placeS b ⟨r_Pane, r_X + min (gat encNode t i).First (r_W - 2) + 1, r_Y, r_W - min (gat encNode t i).First (r_W - 2) - 1, r_H⟩).2) := by simp only [placeS, if_pos hs3, hfe, hse]
  refine WC.skip (hK47 _ _ (WC.sr (WL.r 4 hs20 [2, 3] rfl ?_)))
  refine WL.cl Tryz.call214 rfl (k114_ _ _ _ ?_) ?_
  · first | assumption | rfl | omega
  rintro _ whs49 ⟨rfl, hs49⟩
  replace hs49 := hs20.call0 hs49
  refine ⟨_, rfl, WL.r 1 hs49 [] rfl (WL.st tbk hs49 1 rfl rfl (fun _ hs50 => WL.nil (WC.sr (WL.r 7 hs50 [3, 1] rfl (WL.st tbk hs50 0 rfl rfl (fun _ hs51 => WL.nil ?_))))))⟩
  refine WC.region (WL.r 7 hs51 [3, 1] rfl (WL.st tbk hs51 0 rfl rfl (fun _ hs52 => WL.nil (hK21 _ _ (WC.sr (WL.r 4 hs52 [1] rfl ?_))))))
  refine WL.cl Tryz.call172 rfl (IH _ ?_ _ _ _ _ _ (i + 1) _ _ _ _ _ a _ (SlF.st0 f_t hs52) ?_ ?_ ?_ ?_ rfl) ?_
  · (rw [← hm_]; simp only [Tr.flat, List.length_cons, List.length_append]; omega)
  · exact hn
  · rfl
  · exact ha
  · exact hfe ▸ Fine.first hr hF.1 hs3
  rintro _ whs53 ⟨A54, c55, L1_56, rfl, hs53, ho57⟩
  replace hs53 := hs52.callF hs53
  refine ⟨_, rfl, ?_⟩
  replace hs53 := St.back [_, _, _, _] hs53
  refine WL.r 5 hs53 [] rfl (WL.nil (WC.seq (fun K58 hK58 => WC.rH hs53 hs53 (fun _ hs59 => ?_))))
  refine WH.rn [0, 1, 2, 3, 5] hs59 [0] rfl rfl (WH.o1 4 rfl (WL.cl Tryz.call161 rfl (k72_ _ _ _ _ (i + 1) _ (SlF.st0 f_t hs59) ?_ ?_) ?_))
  iterate 2 omega
  rintro _ whs60 ⟨rfl, hs60⟩
  replace hs60 := hs59.call0 hs60
  refine ⟨_, rfl, WL.nil ⟨hs60, WH.o1 6 rfl (WL.cl Tryz.call172 rfl (IH _ ?_ _ _ _ _ _ (i + 1 + a.flat.length) _ _ _ _ _ b _ (SlF.st0 f_t hs60) ?_ ?_ ?_ ?_ rfl) ?_)⟩⟩
  · (rw [← hm_]; simp only [Tr.flat, List.length_cons, List.length_append]; omega)
  · exact hn
  · (have := ha.sEnd; omega)
  · exact hb
  · exact hse ▸ Fine.second hr hF.1 hs3
  rintro _ whs61 ⟨A62, c63, L1_64, rfl, hs61, ho65⟩
  replace hs61 := hs60.callF hs61
  refine ⟨_, rfl, ?_⟩
  replace hs61 := St.back [_, _, _, _] hs61
  refine WL.nil ⟨(hs61.rm L1_64), WH.rn [7, 8, 9, 10, 11] (hs61.rm L1_64) [] rfl rfl (WH.dn (hK58 _ _ (WC.sr (WL.r 2 hs61 [] rfl ?_))))⟩
  refine WL.appendG (hs61.fr L1_56) ho57 (SlF.src (SlF.ofOwn ho65 (hs61.ow L1_64)) Tryz.underlying158) Tryz.underlying158 inf71 rfl rfl rfl rfl rfl rfl rfl rfl rfl rfl ?_ (fun A69 c70 L66 whs67 hs67 ho68 => ?_)
  · refine Nat.le_trans (Nat.add_le_add placeS_len placeS_len) ?_; omega
  replace hs67 := St.back [_, _, _, _] hs67
  refine WL.r 2 hs67 [] rfl (WL.pA tbk 1 Acts.nil hs67 [] rfl rfl rfl rfl (fun g_ => trivial) (WL.r 2 hs67 [] rfl (WL.nil (WC.ret (retV2 rfl (resV.tmp rfl) (resV.tmp rfl) ?_)))))
  rw [hpl]
  exact ⟨_, _, _, rfl, (St.keep1 (hs67.fr L66)), ho68⟩
theorem k116_ (A_t : Option Addr) (n_t c_t : Nat) (t : List NodeD) (at_ : Int) (i : Nat) (r_Pane : Int) (r_X : Int) (r_Y : Int) (r_W : Int) (r_H : Int) (S : Tr) (w : World) (f_t : SlF encNode w A_t n_t t) (hn : n_t ≤ 268435456) (hat : at_ = (i : Int)) (hS : At t i S) (hr : Fine (⟨r_Pane, r_X, r_Y, r_W, r_H⟩ : RectD)) :
    Calls Tryz.prog 172 #[.slice A_t n_t c_t, i64 at_, .agg #[i64 r_Pane, i64 r_X, i64 r_Y, i64 r_W, i64 r_H]] w fun e w' => ∃ A c L1, e = .returned (.tuple #[.slice A ((placeS S (⟨r_Pane, r_X, r_Y, r_W, r_H⟩ : RectD)).1).length c, .bool (placeS S (⟨r_Pane, r_X, r_Y, r_W, r_H⟩ : RectD)).2]) ∧ St w [] L1 w' ∧ OwnF encRect 71 (.slice A ((placeS S (⟨r_Pane, r_X, r_Y, r_W, r_H⟩ : RectD)).1).length c) ((placeS S (⟨r_Pane, r_X, r_Y, r_W, r_H⟩ : RectD)).1) L1 := k115_ _ A_t n_t c_t t at_ i r_Pane r_X r_Y r_W r_H S w f_t hn hat hS hr rfl
end Go.Proofs.YthfhhldbglaieaaGreat
