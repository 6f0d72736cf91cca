/-
  What the proof stands on, part 5.
-/
import Derived.Test.YtcpnlodkmkfplaaGreatDoorKB4
namespace Go.Proofs.YtcpnlodkmkfplaaGreatDoor
open Go Go.RowKit
set_option linter.unusedVariables false
set_option linter.unusedSimpArgs false
theorem k112_ (n : Nat) (w : World) (hn : n ≤ 268435456) :
    Calls Tryz.prog 179 #[.slice none 0 0, .int .i64 n] w fun e w' => ∃ A c L1, e = .returned (.slice A 0 c) ∧ St w [] L1 w' ∧ OwnF encB 5 (.slice A 0 c) [] L1 := by
 refine enter 27 Tryz.func179 rfl Tryz.ntmps179 rfl rfl ?_
 have hs1 := St.init w
 refine WC.r1 hs1 [] rfl (WC.seq (fun K2 hK2 => WC.r1 hs1 [] rfl (WC.condF rfl (by simp) (WC.skip (hK2 _ _ (WC.seq (fun K4 hK4 => WC.r1 hs1 [] rfl ?_)))))))
 refine WC.r1 hs1 [] rfl (WC.cD rfl (fun qh5 => ?_) (fun qh5 => ?_))
 ·refine WC.region (WL.r 3 hs1 [] rfl (WL.val rfl rfl rfl (Run.sliceH0 (0) Tryz.runUnderlying43 Tryz.sizeOf5 rfl rfl rfl ?_ ?_) ?_))
  · first | rfl | (omega)
  · first | (exact Nat.zero_le _) | (omega)
  refine WL.r 1 hs1 [] rfl (WL.appendZ (F := encB) (n) hs1 Tryz.underlying43 Tryz.underlying3 inf5 rfl rfl rfl rfl rfl rfl rfl rfl rfl rfl ?_ ?_ ?_ (fun A9 c10 L6 whs7 _ hs7 ho8 => ?_))
  · first | rfl | (omega)
  · omega
  · omega
  refine WL.r 2 hs7 [] rfl (WL.val rfl rfl rfl (Run.sliceH0 (0) Tryz.runUnderlying43 Tryz.sizeOf5 rfl rfl rfl ?_ ?_) ?_)
  · first | rfl | (omega)
  · first | (exact Nat.zero_le _) | (omega)
  refine WL.r 1 hs7 [] rfl (WL.nil (hK4 _ _ (WC.r1 hs7 [] rfl (WC.ret (retV1 rfl (resV.tmp rfl) (⟨_, _, _, rfl, (St.keep1 hs7), ho8⟩))))))
 refine WC.skip (hK4 _ _ (WC.r1 hs1 [] rfl (WC.ret (retV1 rfl (resV.tmp rfl) (⟨_, _, _, rfl, hs1.nil, OwnF.nil encB 5⟩)))))
theorem k113_ (A_s : Option Addr) (n_s c_s : Nat) (hs : List HdrD) (xss : List (List UInt8)) (w : World) (f_s : SlF encH w A_s n_s hs) (hf : ∀ i, i < n_s → SlF encB w (gat encH hs i).A (gat encH hs i).n (xss.getD i [])) (hl : xss.length = n_s) (ht : xss.flatten.length ≤ 268435456) (hn : n_s ≤ 1000) :
    Calls Tryz.prog 158 #[.slice A_s n_s c_s] w fun e w' => ∃ A c L1, e = .returned (.slice A (xss.flatten).length c) ∧ St w [] L1 w' ∧ OwnF encB 5 (.slice A (xss.flatten).length c) (xss.flatten) L1 := by
 refine enter 36 Tryz.func158 rfl Tryz.ntmps158 rfl rfl ?_
 have hs1 := St.init w
 refine WC.r1 hs1 [] rfl (WC.r1 hs1 [] rfl (WC.seq (fun K2 hK2 => WC.r1 hs1 [] rfl (WC.block ?_))))
 refine WC.lS [0, 2, 9, 10] rfl hs1 (fun k_ f w' => ∃ (i : Nat) (q : Int), k_ = n_s - i ∧ (i ≤ n_s) ∧ (q = (((xss.take i).flatten).length : Int)) ∧ Sub [(11, .int .i64 i), (3, .int .i64 q)] f) ((fun (i : Nat) (q : Int) => n_s - i) (0) (0)) ?_ ?_
 ·refine ⟨0, 0, rfl, ?_, ?_, ⟨rfl, rfl, trivial⟩⟩
  · exact Nat.zero_le _
  · simp
 clear hs1
 rintro _ f w ⟨i, q, rfl, p0, p1, hG⟩ hF hs3
 refine WC.sub _ (hG.app hF) ?_
 clear hG hF
 have hle := flat_le (xss := xss) (i := i)
 have hle2 := flat_le (xss := xss) (i := i + 1)
 refine WC.r1 hs3 [] rfl (WC.seq (fun K4 hK4 => ?_))
 refine WC.cD rfl (fun qh5 => ?_) (fun qh5 => ?_)
 ·have hli := (hf i (by omega)).len
  have hft := congrArg List.length (flat_take (xss := xss) (i := i) (by omega))
  simp only [List.length_append] at hft
  refine WC.skip (hK4 _ _ (WC.seq (fun K6 hK6 => WC.block (WC.sr ?_))))
  refine WL.val rfl rfl rfl (Run.idxN Tryz.runUnderlying195 Tryz.sizeOf43 rfl rfl rfl ?_ ?_ ?_) ?_
  · exact SlF.some_ (SlF.st0 f_s hs3)
  · omega
  · omega
  refine WL.val rfl rfl rfl (Run.load Tryz.isAgg43 rfl rfl (SlF.one1 (SlF.st0 f_s hs3) ?_ rfl)) ?_
  · omega
  refine WL.r 1 hs3 [] rfl (WL.nil (WC.r1 hs3 [] rfl (WC.r1 hs3 [] rfl ?_)))
  refine WC.condF rfl (by simp; omega) (WC.skip (hK6 _ _ (WC.region (WL.r 2 hs3 [] rfl (WL.nil (tkN ?_))))))
  refine ⟨sbF rfl, hs3, _, ?_, i + 1, _, rfl, ?_, ?_, ⟨rfl, rfl, trivial⟩⟩
  · omega
  · omega
  · rw [flat_take (by omega), List.length_append, p1, (hf i (by omega)).len]; simp
 have hqf : xss.take i = xss := List.take_of_length_le (by omega)
 rw [hqf] at p1
 subst p1
 refine WC.exit (hK2 _ _ (WC.sr (WL.r 1 hs3 [] rfl ?_)))
 refine WL.cl Tryz.call179 rfl (k112_ (xss.flatten.length) _ ?_) ?_
 · omega
 rintro _ whs8 ⟨A9, c10, L1_11, rfl, hs8, ho12⟩
 replace hs8 := hs3.callF hs8
 refine ⟨_, rfl, WL.r 1 hs8 [] rfl (WL.nil (WC.seq (fun K13 hK13 => WC.r1 hs8 [] rfl (WC.block ?_))))⟩
 refine WC.lO [2, 12, 25, 26] rfl hs8 (fun k_ f L_ => ∃ (zs : List UInt8) (i : Nat) (A14 : Option Addr) (c15 : Nat), k_ = n_s - i ∧ (i ≤ n_s) ∧ (zs = (xss.take i).flatten) ∧ OwnF encB 5 (.slice A14 (zs.length) c15) (zs) L_ ∧ Sub [(6, .slice A14 (zs.length) c15), (27, .int .i64 i)] f) (((fun (zs : List UInt8) (i : Nat) => n_s - i) ([]) (0))) ?_ ?_
 ·refine ⟨[], 0, _, _, rfl, ?_, ?_, ho12, ⟨rfl, rfl, trivial⟩⟩
  · exact Nat.zero_le _
  · simp
 clear hs8
 rintro _ f w L16 ⟨zs, i, A14, c15, rfl, p0, p1, ho17, hG⟩ hF hs18
 refine WC.sub _ (hG.app hF) ?_
 clear hG hF
 have hle := flat_le (xss := xss) (i := i)
 have hle2 := flat_le (xss := xss) (i := i + 1)
 refine WC.r1 hs18 [] rfl (WC.seq (fun K19 hK19 => ?_))
 refine WC.cD rfl (fun qh20 => ?_) (fun qh20 => ?_)
 ·have hli := (hf i (by omega)).len
  have hft := congrArg List.length (flat_take (xss := xss) (i := i) (by omega))
  simp only [List.length_append] at hft
  refine WC.skip (hK19 _ _ (WC.seq (fun K21 hK21 => WC.block (WC.sr ?_))))
  refine WL.val rfl rfl rfl (Run.idxN Tryz.runUnderlying195 Tryz.sizeOf43 rfl rfl rfl ?_ ?_ ?_) ?_
  · exact SlF.some_ (SlF.st0 f_s hs18)
  · omega
  · omega
  refine WL.val rfl rfl rfl (Run.load Tryz.isAgg43 rfl rfl (SlF.one1 (SlF.st0 f_s hs18) ?_ rfl)) ?_
  · omega
  refine WL.r 1 hs18 [] rfl (WL.nil (WC.region (WL.r 2 hs18 [] rfl (WL.appendG hs18 ho17 (SlF.src (SlF.st0 (hf i (by omega)) hs18) Tryz.underlying43) Tryz.underlying43 inf5 rfl rfl rfl rfl rfl rfl rfl rfl rfl rfl ?_ (fun A25 c26 L22 whs23 hs23 ho24 => ?_)))))
  · rw [p1]; omega
  refine WL.r 1 hs23 [] rfl (WL.nil (hK21 _ _ (WC.region (WL.r 2 hs23 [] rfl (WL.nil (tkN ?_))))))
  refine ⟨sbF rfl, _, hs23, _, ?_, _, i + 1, _, _, rfl, ?_, ?_, ho24, ⟨rfl, rfl, trivial⟩⟩
  · omega
  · omega
  · rw [flat_take (by omega), p1]
 refine WC.exit (hK13 _ _ (WC.r1 hs18 [] rfl (WC.ret (retV1 rfl (resV.tmp rfl) ?_))))
 have hx_ := OwnF.eqOf (xs := xss.flatten) ho17 (by rw [p1, List.take_of_length_le (by omega)])
 rw [← hx_]
 first | exact ⟨_, _, _, rfl, (St.keep1 hs18), ho17⟩ | exact ⟨A14, c15, _, by rw [OwnF.len_ ho17], (St.keep1 hs18), by rw [OwnF.len_ ho17]; exact ho17⟩
theorem k114_ (v_b : Value) (b : List UInt8) (L_b : Hp) (n : Int) (w : World) (o_b : OwnF encB 5 v_b b L_b) (h_b : Hh w L_b) (h0 : 0 ≤ n) (h1 : n ≤ 34359738367) (hx : b.length ≤ 268435456) :
    Calls Tryz.prog 98 #[v_b, i64 n] w fun e w' => ∃ A c L1, e = .returned (.slice A (b ++ varL n.toNat).length c) ∧ St w (L_b.map (·.1)) L1 w' ∧ OwnF encB 5 (.slice A (b ++ varL n.toNat).length c) (b ++ varL n.toNat) L1 := by
 obtain ⟨A_b, c_b, rfl⟩ := o_b.shape
 have hvl := varL_len n.toNat (by omega)
 refine enter 21 Tryz.func98 rfl Tryz.ntmps98 rfl rfl ?_
 have hs1 := St.lent1 w L_b o_b h_b
 refine WC.r1 hs1 [] rfl (WC.seq (fun K2 hK2 => WC.block ?_))
 refine WC.lO [4] rfl hs1 (fun k_ f L_ => ∃ (zs : List UInt8) (q : Int) (A3 : Option Addr) (c4 : Nat), k_ = q.toNat ∧ (0 ≤ q) ∧ (q ≤ n) ∧ (b ++ varL n.toNat = zs ++ varL q.toNat) ∧ OwnF encB 5 (.slice A3 (zs.length) c4) (zs) L_ ∧ Sub [(0, .slice A3 (zs.length) c4), (1, .int .i64 q)] f) (((fun (zs : List UInt8) (q : Int) => q.toNat) (b) (n))) ?_ ?_
 ·refine ⟨b, n, _, _, rfl, ?_, ?_, ?_, o_b, ⟨rfl, rfl, trivial⟩⟩
  · exact h0
  · exact Int.le_refl _
  · rfl
 clear hs1
 rintro _ f w L5 ⟨zs, q, A3, c4, rfl, p0, p1, p2, ho6, hG⟩ hF hs7
 refine WC.sub _ (hG.app hF) ?_
 clear hG hF
 have hlen := congrArg List.length p2
 simp only [List.length_append] at hlen
 refine WC.seq (fun K8 hK8 => WC.r1 hs7 [] rfl ?_)
 refine WC.cq rfl (fun h9 qh9 => ?_) (fun h9 qh9 => ?_)
 ·refine WC.skip (hK8 _ _ (WC.block (WC.sr (WL.r 2 hs7 [] rfl ?_))))
  refine WL.val rfl rfl rfl (Run.rem rfl rfl rfl ?_ ?_) ?_
  · omega
  · omega
  refine WL.r 2 hs7 [] rfl (WL.buildSlice hs7 Tryz.runUnderlying43 Tryz.sizeOf5 Tryz.zeroValue5 rfl rfl rfl rfl rfl rfl rfl rfl rfl rfl (fun b10 whs11 hs11 => ?_))
  refine WL.appendG (hs11.fr L5) ho6 (srcB1 Tryz.underlying43 (hs11.own _ (nthL_mem (i := 0) rfl)).1) Tryz.underlying43 inf5 rfl rfl rfl rfl rfl rfl rfl rfl rfl rfl ?_ (fun A15 c16 L12 whs13 hs13 ho14 => ?_)
  · simp only [List.length_append, List.length_singleton]; omega
  replace hs13 := St.back [_] hs13
  refine WL.r 1 hs13 [] rfl (WL.nil (WC.region (WL.r 1 hs13 [] rfl (WL.val rfl rfl rfl (Run.quo rfl rfl rfl ?_ ?_ ?_) ?_))))
  · omega
  · omega
  · omega
  refine WL.r 1 hs13 [] rfl (WL.nil (ibN (tkN ?_)))
  replace hs13 := hs13.d1
  refine ⟨sbF rfl, _, hs13, _, ?_, _, _, _, _, rfl, ?_, ?_, ?_, ho14, ⟨rfl, rfl, trivial⟩⟩
  · omega
  · omega
  · omega
  · rw [p2, List.append_assoc, List.singleton_append, ub_big (by omega)]
 refine WC.exit (hK2 _ _ (WC.sr (WL.r 3 hs7 [] rfl (WL.buildSlice hs7 Tryz.runUnderlying43 Tryz.sizeOf5 Tryz.zeroValue5 rfl rfl rfl rfl rfl rfl rfl rfl rfl rfl (fun b17 whs18 hs18 => ?_)))))
 refine WL.appendG (hs18.fr L5) ho6 (srcB1 Tryz.underlying43 (hs18.own _ (nthL_mem (i := 0) rfl)).1) Tryz.underlying43 inf5 rfl rfl rfl rfl rfl rfl rfl rfl rfl rfl ?_ (fun A22 c23 L19 whs20 hs20 ho21 => ?_)
 · simp only [List.length_append, List.length_singleton]; omega
 replace hs20 := St.back [_] hs20
 refine WL.r 1 hs20 [] rfl (WL.nil (WC.ret (retV1 rfl (resV.tmp rfl) ?_)))
 have hx_ := OwnF.eqOf (xs := b ++ varL n.toNat) ho21 (by rw [p2, ← ub_small p0 (by omega)])
 rw [← hx_]
 first | exact ⟨_, _, _, rfl, (St.keep1 (hs20.fr L19)), ho21⟩ | exact ⟨A22, c23, _, by rw [OwnF.len_ ho21], (St.keep1 (hs20.fr L19)), by rw [OwnF.len_ ho21]; exact ho21⟩
theorem k115_ (A_b : Option Addr) (n_b c_b : Nat) (b : List UInt8) (n : Int) (w : World) (f_b : SlF encB w A_b n_b b) (h0 : 0 ≤ n) (h1 : n ≤ 4294967295) (hx : b.length ≤ 268435456) :
    Calls Tryz.prog 95 #[.slice A_b n_b c_b, i64 n] w fun e w' => ∃ A c L1, e = .returned (.tuple #[.slice A (b ++ varL n.toNat).length c, .bool true]) ∧ St w [] L1 w' ∧ OwnF encB 5 (.slice A (b ++ varL n.toNat).length c) (b ++ varL n.toNat) L1 := by
 have hvl := varL_len n.toNat (by omega)
 refine enter 29 Tryz.func95 rfl Tryz.ntmps95 rfl rfl ?_
 have hs1 := St.init w
 refine WC.r1 hs1 [] rfl (WC.seq (fun K2 hK2 => WC.sr (WL.r 1 hs1 [] rfl (WL.cl Tryz.call156 rfl (k10_ _ _) ?_))))
 rintro _ whs3 ⟨rfl, hs3⟩
 replace hs3 := hs1.call0 hs3
 refine ⟨_, rfl, WL.r 1 hs3 [] rfl (WL.nil ?_)⟩
 refine WC.condF rfl (by simp [isNumB]; omega) (WC.skip (hK2 _ _ (WC.sr (WL.buildF (F := encB) hs3 ([]) Tryz.runUnderlying43 Tryz.sizeOf5 Tryz.zeroValue5 rfl rfl rfl rfl rfl rfl rfl rfl rfl rfl rfl rfl (fun A8 c9 L5 whs6 hs6 ho7 => WL.r 1 hs6 [] rfl ?_)))))
 refine WL.appendG hs6 ho7 (SlF.src (SlF.st0 f_b hs6) Tryz.underlying43) Tryz.underlying43 inf5 rfl rfl rfl rfl rfl rfl rfl rfl rfl rfl ?_ (fun A13 c14 L10 whs11 hs11 ho12 => ?_)
 · simp only [List.length_append, List.length_singleton, List.length_nil]; omega
 refine WL.r 1 hs11 [] rfl (WL.nil (WC.seq (fun K15 hK15 => WC.block ?_)))
 refine WC.lO [4, 5, 9] rfl hs11 (fun k_ f L_ => ∃ (zs : List UInt8) (q : Int) (A16 : Option Addr) (c17 : Nat), k_ = q.toNat ∧ (0 ≤ q) ∧ (q ≤ n) ∧ (b ++ varL n.toNat = zs ++ varL q.toNat) ∧ OwnF encB 5 (.slice A16 (zs.length) c17) (zs) L_ ∧ Sub [(6, .slice A16 (zs.length) c17), (1, .int .i64 q)] f) (((fun (zs : List UInt8) (q : Int) => q.toNat) (([] ++ b)) (n))) ?_ ?_
 ·refine ⟨([] ++ b), n, _, _, rfl, ?_, ?_, ?_, ho12, ⟨rfl, rfl, trivial⟩⟩
  · exact h0
  · exact Int.le_refl _
  · rfl
 clear hs11
 rintro _ f w L18 ⟨zs, q, A16, c17, rfl, p0, p1, p2, ho19, hG⟩ hF hs20
 refine WC.sub _ (hG.app hF) ?_
 clear hG hF
 have hlen := congrArg List.length p2
 simp only [List.length_append] at hlen
 refine WC.seq (fun K21 hK21 => WC.r1 hs20 [] rfl ?_)
 refine WC.cD rfl (fun qh22 => ?_) (fun qh22 => ?_)
 ·refine WC.skip (hK21 _ _ (WC.block (WC.sr (WL.r 2 hs20 [] rfl ?_))))
  refine WL.val rfl rfl rfl (Run.rem rfl rfl rfl ?_ ?_) ?_
  · omega
  · omega
  refine WL.r 2 hs20 [] rfl (WL.buildSlice hs20 Tryz.runUnderlying43 Tryz.sizeOf5 Tryz.zeroValue5 rfl rfl rfl rfl rfl rfl rfl rfl rfl rfl (fun b23 whs24 hs24 => ?_))
  refine WL.appendG (hs24.fr L18) ho19 (srcB1 Tryz.underlying43 (hs24.own _ (nthL_mem (i := 0) rfl)).1) Tryz.underlying43 inf5 rfl rfl rfl rfl rfl rfl rfl rfl rfl rfl ?_ (fun A28 c29 L25 whs26 hs26 ho27 => ?_)
  · simp only [List.length_append, List.length_singleton, List.length_nil]; omega
  replace hs26 := St.back [_] hs26
  refine WL.r 1 hs26 [] rfl (WL.nil (WC.region (WL.r 1 hs26 [] rfl (WL.val rfl rfl rfl (Run.quo rfl rfl rfl ?_ ?_ ?_) ?_))))
  · omega
  · omega
  · omega
  refine WL.r 1 hs26 [] rfl (WL.nil (ibN (tkN ?_)))
  replace hs26 := hs26.d1
  refine ⟨sbF rfl, _, hs26, _, ?_, _, _, _, _, rfl, ?_, ?_, ?_, ho27, ⟨rfl, rfl, trivial⟩⟩
  · omega
  · omega
  · omega
  · rw [p2, List.append_assoc, List.singleton_append, ub_big (by omega)]
 refine WC.exit (hK15 _ _ (WC.sr (WL.r 3 hs20 [] rfl (WL.buildSlice hs20 Tryz.runUnderlying43 Tryz.sizeOf5 Tryz.zeroValue5 rfl rfl rfl rfl rfl rfl rfl rfl rfl rfl (fun b30 whs31 hs31 => ?_)))))
 refine WL.appendG (hs31.fr L18) ho19 (srcB1 Tryz.underlying43 (hs31.own _ (nthL_mem (i := 0) rfl)).1) Tryz.underlying43 inf5 rfl rfl rfl rfl rfl rfl rfl rfl rfl rfl ?_ (fun A35 c36 L32 whs33 hs33 ho34 => ?_)
 · simp only [List.length_append, List.length_singleton, List.length_nil]; omega
 replace hs33 := St.back [_] hs33
 refine WL.r 2 hs33 [] rfl (WL.nil (WC.ret (retV2 rfl (resV.tmp rfl) (resV.tmp rfl) ?_)))
 have hx_ := OwnF.eqOf (xs := b ++ varL n.toNat) ho34 (by rw [p2, ← ub_small p0 (by omega)])
 rw [← hx_]
 first | exact ⟨_, _, _, rfl, (St.keep1 (hs33.fr L32)), ho34⟩ | exact ⟨A35, c36, _, by rw [OwnF.len_ ho34], (St.keep1 (hs33.fr L32)), by rw [OwnF.len_ ho34]; exact ho34⟩
theorem k116_ (n : Int) (w : World) :
    Calls Tryz.prog 97 #[i64 n] w fun e w' => e = .returned (.bool (isSeqB n)) ∧ St w [] [] w' := by
 refine enter 5 Tryz.func97 rfl Tryz.ntmps97 rfl rfl ?_
 have hs1 := St.init w
 refine WC.r1 hs1 [] rfl (WC.sr (WL.r 1 hs1 [] rfl (WL.cl Tryz.call61 rfl (k3_ _ _ _ _) ?_)))
 rintro _ whs2 ⟨rfl, hs2⟩
 replace hs2 := hs1.call0 hs2
 refine ⟨_, rfl, WL.r 1 hs2 [] rfl (WL.nil (WC.ret (rtv rfl rfl hs2 ?_)))⟩
 rfl
theorem k117_ (A_head : Option Addr) (n_head c_head : Nat) (head : List UInt8) (A_data : Option Addr) (n_data c_data : Nat) (data : List UInt8) (w : World) (f_head : SlF encB w A_head n_head head) (f_data : SlF encB w A_data n_data data) (h1 : n_head ≤ 100000000) (h2 : n_data ≤ 100000000) :
    Calls Tryz.prog 99 #[.slice A_head n_head c_head, .slice A_data n_data c_data] w fun e w' => e = .returned (.int .i64 (crcN (head ++ data) : Nat)) ∧ St w [] [] w' := by
 have hl1 := f_head.len
 have hl2 := f_data.len
 refine enter 10 Tryz.func99 rfl Tryz.ntmps99 rfl rfl ?_
 have hs1 := St.init w
 refine WC.r1 hs1 [] rfl (WC.sr (WL.r 2 hs1 [] rfl (WL.buildF (F := encH) hs1 ([⟨_, _, _⟩, ⟨_, _, _⟩]) Tryz.runUnderlying195 Tryz.sizeOf43 Tryz.zeroValue43 rfl rfl rfl rfl rfl rfl rfl rfl rfl rfl rfl rfl (fun A5 c6 L2 whs3 hs3 ho4 => ?_))))
 refine WL.cl Tryz.call158 rfl (k113_ _ _ _ _ [head, data] _ (SlF.ofOwn ho4 (hs3.ow L2)) ?_ ?_ ?_ ?_) ?_
 · first | (intro i hi; rcases i with _ | _ | i; exact (SlF.st0 f_head hs3); exact (SlF.st0 f_data hs3); (simp at hi; omega)) | omega | (simp; omega)
 · first | rfl | omega | (simp; omega)
 · first | (simp; omega) | omega
 · first | simp | omega | (simp; omega)
 rintro _ whs7 ⟨A8, c9, L1_10, rfl, hs7, ho11⟩
 replace hs7 := hs3.callF hs7
 refine ⟨_, rfl, WL.cl Tryz.call157 rfl (k110_ _ _ _ _ _ (SlF.ofOwn ho11 (hs7.ow L1_10)) ?_) ?_⟩
 · first | assumption | rfl | omega | (simp; omega)
 rintro _ whs12 ⟨rfl, hs12⟩
 replace hs12 := hs7.call0 hs12
 refine ⟨_, rfl, WL.r 1 hs12 [] rfl (WL.nil (WC.ret (rtv rfl rfl hs12 ?_)))⟩
 simp
theorem WL.convLit {P : Program} {n : Nat} {ol rest : List Oper} {o : Oper} {K : Fr → World → Prop} {f : Fr} {w0 w : World} {T : List Nat} {L : Hp} {d b : Nat} {vs : List Value} {xs : List UInt8} {t e : TypeId} {x : Operand} (hst : St w0 T ((b, .cells vs.toArray e (0, 0)) :: L) w) (hv : vs = bytesV xs) (hm : Nat.ble xs.length 1000000 = true)
  (ht : P.underlying t = some (.slice e)) (he : P.underlying e = some (.int .u8)) (ho : o.op = .convert t t x) (hw : want ol o f = some true) (hd : o.dst = some d) (hn : Nat.blt d n = true) (hx : ev f x = some (.slice (some ⟨b, 0, none⟩) xs.length xs.length))
  (k : ∀ L1 w', St w0 T (L1 ++ L) w' → OwnF encB e (.slice (some ⟨b, 0, none⟩) xs.length xs.length) xs L1 → WL P n ol rest K ((d, .slice (some ⟨b, 0, none⟩) xs.length xs.length) :: f) w') : WL P n ol (o :: rest) K f w := by
 have hown := hst.own _ List.mem_cons_self
 have hb : w.heap[b]? = some (.cells vs.toArray e (0, 0)) := hown.1
 have hlt : b < w.heap.size := lt_of_heap hb
 have hsh : w.shape? b = some (e, vs.length) := by
  unfold World.shape?
  rw [hb]
  simp
 have hfr : (w.freeze ⟨b, vs.length, none⟩ 1).heap = w.heap.modify b fun
   | .cells c elem (lo, hi) => .cells c elem (if lo == hi then (vs.length, vs.length + 1) else (min lo vs.length, max hi (vs.length + 1)))
   | o => o := rfl
 have hvl : vs.length = xs.length := by rw [hv, bytesV_len]
 refine WL.val (w' := w.freeze ⟨b, vs.length, none⟩ 1) hw hd hn (fun ρ hρ => ?_) (k [(b, .cells vs.toArray e (vs.length, vs.length + 1))] _ ?_ ?_)
 ·simp [execOp, ho, hρ _ _ hx, convert, run_underlying ht, run_underlying he, markStringish, hsh]
 ·have hnd := hst.nodup
  simp only [List.map_cons, List.nodup_cons] at hnd
  refine ⟨hst.os, hst.tape, hst.output, ?_, fun j hj hT => ?_, fun p hp => ?_, hst.nodup⟩
  ·rw [hfr, Array.size_modify]; exact hst.size
  ·rw [hfr, Array.getElem?_modify, if_neg (by rintro rfl; rcases hown.2 with h9 | h9; exact absurd hj (by simp only at h9; omega); exact hT h9)]
   exact hst.keep j hj hT
  ·rw [List.singleton_append, List.mem_cons] at hp
   rcases hp with rfl | hp
   ·refine ⟨?_, hown.2⟩
    rw [hfr, Array.getElem?_modify, if_pos rfl, hb]
    rfl
   ·have h9 := hst.own p (List.mem_cons_of_mem _ hp)
    refine ⟨?_, h9.2⟩
    rw [hfr, Array.getElem?_modify, if_neg (by intro e9; exact hnd.1 (e9 ▸ List.mem_map_of_mem hp))]
    exact h9.1
 ·have hm' := Nat.le_of_ble_eq_true hm
  refine ⟨by rw [rows_len], .inr ⟨b, xs.length, 0, [], vs, (vs.length, vs.length + 1), rfl, rfl, Nat.le_refl _, by simp only [maxLen]; omega, ?_, ?_, .inr ?_, rfl⟩⟩
  ·rw [hvl]; simp [encB]
  ·rw [hv, List.take_of_length_le (by rw [rows_len]; exact Nat.le_refl _)]
  ·simp
theorem k118_ (gen : Int) (seq : Int) (A_data : Option Addr) (n_data c_data : Nat) (data : List UInt8) (w : World) (f_data : SlF encB w A_data n_data data) (hn : n_data ≤ 1048576) :
    Calls Tryz.prog 74 #[i64 gen, i64 seq, .slice A_data n_data c_data] w fun e w' => ∃ A c L1, e = .returned (.tuple #[.slice A (snapOut gen seq data).length c, .bool (snapOk gen seq data)]) ∧ St w [] L1 w' ∧ OwnF encB 5 (.slice A (snapOut gen seq data).length c) (snapOut gen seq data) L1 := by
 have hl := f_data.len
 refine enter 38 Tryz.func74 rfl Tryz.ntmps74 rfl rfl ?_
 have hs1 := St.init w
 refine WC.r1 hs1 [] rfl (WC.seq (fun K2 hK2 => WC.sr (WL.r 1 hs1 [] rfl (WL.cl Tryz.call60 rfl (k14_ _ _) ?_))))
 rintro _ whs3 ⟨rfl, hs3⟩
 replace hs3 := hs1.call0 hs3
 refine ⟨_, rfl, WL.r 2 hs3 [] rfl ?_⟩
 apply WL.gO 3 Acts.nil hs3 rfl
 ·intro g4 J5
  have qg4 := g4
  try simp only [bf, within_iff, within_not] at qg4
  refine WL.runA tbk 1 (Acts.nil.cons (j := 3) rfl g4) hs3 [] rfl trivial (WL.call (wantF rfl g4) rfl rfl (Run.call Tryz.call97 rfl rfl rfl) (k116_ _ _) ?_)
  rintro _ whs6 ⟨rfl, hs6⟩
  replace hs6 := hs3.call0 hs6
  refine ⟨_, rfl, WL.runA tbk 1 (Acts.nil.cons (j := 3) rfl g4) hs6 [] rfl trivial (WL.eO 3 Acts.nil J5 hs6 g4 rfl rfl)⟩
 intro _ hs7
 refine WL.r 1 hs7 [] rfl (WL.pO tbk 3 Acts.nil hs7 [] rfl rfl rfl rfl (fun g_ => trivial) (WL.nil (WC.cq rfl (fun h8 qh8 => ?_) (fun h8 qh8 => ?_))))
 ·have hk : snapOk gen seq data = false := by unfold snapOk; rw [hl]; have h9 := h8; rw [← Bool.not_eq_true] at *; revert h9; cases isGenB gen <;> cases isSeqB seq <;> simp <;> omega
  refine WC.r1 hs7 [] rfl (WC.ret (tkR ?_))
  clear hK2
  refine retV2 rfl (resV.tmp rfl) (resV.tmp rfl) ?_
  rw [hk]
  have hx_ := OwnF.eqOf (xs := snapOut gen seq data) (OwnF.nil encB 5) (by unfold snapOut; rw [hk]; rfl)
  rw [← hx_]
  exact ⟨_, _, _, rfl, hs7.nil, (OwnF.nil encB 5)⟩
 have hk : snapOk gen seq data = true := by unfold snapOk; rw [hl]; have h9 := h8; revert h9; cases isGenB gen <;> cases isSeqB seq <;> simp <;> omega
 obtain ⟨hgn, hg1, hg2, hg3⟩ := snapOk_P hk
 have hv1 := varL_len gen.toNat (by omega)
 have hv2 := varL_len seq.toNat (by omega)
 have hv3 := varL_len n_data (by omega)
 have hcl2 := crcN_lt ([83, 78, 65, 80] ++ varL gen.toNat ++ varL seq.toNat ++ varL n_data ++ data)
 have hv4 := varL_len (crcN ([83, 78, 65, 80] ++ varL gen.toNat ++ varL seq.toNat ++ varL n_data ++ data)) (by omega)
 refine WC.skip (hK2 _ _ (WC.sr (WL.buildSlice hs7 Tryz.runUnderlying43 Tryz.sizeOf5 Tryz.zeroValue5 rfl rfl rfl rfl rfl rfl rfl rfl rfl rfl (fun b9 whs10 hs10 => WL.convLit (xs := [83, 78, 65, 80]) hs10 rfl rfl Tryz.underlying43 Tryz.underlying5 rfl rfl rfl rfl rfl (fun L11 whs12 hs12 ho13 => WL.r 1 hs12 [] rfl ?_)))))
 refine WL.cl Tryz.call98 rfl (k114_ _ _ _ _ _ ho13 (hs12.ow L11) ?_ ?_ ?_) ?_
 iterate 2 first | omega | assumption | (simp only [List.length_append, List.length_cons, List.length_nil, Int.toNat_natCast]; omega)
 · first | omega | (simp only [List.length_append, List.length_cons, List.length_nil, Int.toNat_natCast]; omega) | assumption
 rintro _ whs14 ⟨A15, c16, L1_17, rfl, hs14, ho18⟩
 replace hs14 := St.lend hs12 hs14
 refine ⟨_, rfl, WL.r 1 hs14 [] rfl (WL.cl Tryz.call98 rfl (k114_ _ _ _ _ _ ho18 (hs14.ow L1_17) ?_ ?_ ?_) ?_)⟩
 iterate 2 first | omega | assumption | (simp only [List.length_append, List.length_cons, List.length_nil, Int.toNat_natCast]; omega)
 · first | omega | (simp only [List.length_append, List.length_cons, List.length_nil, Int.toNat_natCast]; omega) | assumption
 rintro _ whs19 ⟨A20, c21, L1_22, rfl, hs19, ho23⟩
 replace hs19 := St.lend hs14 hs19
 refine ⟨_, rfl, WL.r 2 hs19 [] rfl (WL.cl Tryz.call98 rfl (k114_ _ _ _ _ _ ho23 (hs19.ow L1_22) ?_ ?_ ?_) ?_)⟩
 iterate 2 first | omega | assumption | (simp only [List.length_append, List.length_cons, List.length_nil, Int.toNat_natCast]; omega)
 · first | omega | (simp only [List.length_append, List.length_cons, List.length_nil, Int.toNat_natCast]; omega) | assumption
 rintro _ whs24 ⟨A25, c26, L1_27, rfl, hs24, ho28⟩
 replace hs24 := St.lend hs19 hs24
 refine ⟨_, rfl, WL.r 1 hs24 [] rfl (WL.nil (WC.sr (WL.r 3 hs24 [] rfl (WL.cl Tryz.call99 rfl (k117_ _ _ _ _ _ _ _ _ _ (SlF.ofOwn ho28 (hs24.ow L1_27)) (SlF.st0 f_data hs24) ?_ ?_) ?_))))⟩
 iterate 2 first | assumption | rfl | omega | (simp only [List.length_append, List.length_cons, List.length_nil, Int.toNat_natCast]; omega)
 rintro _ whs29 ⟨rfl, hs29⟩
 replace hs29 := hs24.call0 hs29
 refine ⟨_, rfl, WL.cl Tryz.call98 rfl (k114_ _ _ _ _ _ ho28 (hs29.ow L1_27) ?_ ?_ ?_) ?_⟩
 iterate 2 first | omega | assumption | (simp only [List.length_append, List.length_cons, List.length_nil, Int.toNat_natCast]; omega)
 · first | omega | (simp only [List.length_append, List.length_cons, List.length_nil, Int.toNat_natCast]; omega) | assumption
 rintro _ whs30 ⟨A31, c32, L1_33, rfl, hs30, ho34⟩
 replace hs30 := St.lend hs29 hs30
 refine ⟨_, rfl, WL.r 1 hs30 [] rfl (WL.appendG hs30 ho34 (SlF.src (SlF.st0 f_data hs30) Tryz.underlying43) Tryz.underlying43 inf5 rfl rfl rfl rfl rfl rfl rfl rfl rfl rfl ?_ (fun A38 c39 L35 whs36 hs36 ho37 => ?_))⟩
 · first | omega | (simp only [List.length_append, List.length_cons, List.length_nil, Int.toNat_natCast]; omega)
 refine WL.r 2 hs36 [] rfl (WL.nil (WC.ret (retV2 rfl (resV.tmp rfl) (resV.tmp rfl) ?_)))
 rw [hk]
 have hx_ := OwnF.eqOf (xs := snapOut gen seq data) ho37 (by unfold snapOut; rw [hk, if_pos rfl]; unfold snapL snapHd snapP4; rw [hl]; first | done | rfl | simp)
 rw [← hx_]
 first | exact ⟨_, _, _, rfl, (St.keep1 hs36), ho37⟩ | exact ⟨A38, c39, _, by rw [OwnF.len_ ho37], (St.keep1 hs36), by rw [OwnF.len_ ho37]; exact ho37⟩
theorem k119_ (gen : Int) (seq : Int) (A_data : Option Addr) (n_data c_data : Nat) (data : List UInt8) (w : World) (f_data : SlF encB w A_data n_data data) (hn : n_data ≤ 1048576) :
    Calls Tryz.prog 65 #[i64 gen, i64 seq, .slice A_data n_data c_data] w fun e w' => ∃ A c L1, e = .returned (.tuple #[.slice A (snapOut gen seq data).length c, .bool (snapOk gen seq data)]) ∧ St w [] L1 w' ∧ OwnF encB 5 (.slice A (snapOut gen seq data).length c) (snapOut gen seq data) L1 := by
 have hl := f_data.len
 refine enter 65 Tryz.func65 rfl Tryz.ntmps65 rfl rfl ?_
 have hs1 := St.init w
 refine WC.r1 hs1 [] rfl (WC.seq (fun K2 hK2 => WC.sr (WL.r 3 hs1 [] rfl (WL.pO tbk 2 Acts.nil hs1 [] rfl rfl rfl rfl (fun g_ => trivial) (WL.r 1 hs1 [] rfl (WL.pO tbk 2 Acts.nil hs1 [] rfl rfl rfl rfl (fun g_ => trivial) (WL.r 1 hs1 [] rfl ?_)))))))
 refine WL.pO tbk 2 Acts.nil hs1 [] rfl rfl rfl rfl (fun g_ => trivial) (WL.r 1 hs1 [] rfl (WL.pO tbk 3 Acts.nil hs1 [] rfl rfl rfl rfl (fun g_ => trivial) (WL.nil (WC.cq rfl (fun h3 qh3 => ?_) (fun h3 qh3 => ?_)))))
 ·have hk : snapOk gen seq data = false := by unfold snapOk isGenB isSeqB; have h9 := h3; simp at h9; rw [Bool.and_eq_false_iff, Bool.and_eq_false_iff, within_not, within_not, decide_eq_false_iff_not]; omega
  refine WC.r1 hs1 [] rfl (WC.ret (tkR ?_))
  clear hK2
  refine retV2 rfl (resV.tmp rfl) (resV.tmp rfl) ?_
  rw [hk]
  have hx_ := OwnF.eqOf (xs := snapOut gen seq data) (OwnF.nil encB 5) (by unfold snapOut; rw [hk]; rfl)
  rw [← hx_]
  exact ⟨_, _, _, rfl, hs1.nil, (OwnF.nil encB 5)⟩
 have hk : snapOk gen seq data = true := by unfold snapOk isGenB isSeqB; have h9 := h3; simp at h9; rw [Bool.and_eq_true, Bool.and_eq_true, within_iff, within_iff, decide_eq_true_eq]; omega
 obtain ⟨hgn, hg1, hg2, hg3⟩ := snapOk_P hk
 have hv1 := varL_len gen.toNat (by omega)
 have hv2 := varL_len seq.toNat (by omega)
 have hv3 := varL_len n_data (by omega)
 have hcl2 := crcN_lt ([] ++ ([83, 78, 65, 80] ++ varL gen.toNat ++ varL seq.toNat ++ varL n_data) ++ data)
 have hv4 := varL_len (crcN ([] ++ ([83, 78, 65, 80] ++ varL gen.toNat ++ varL seq.toNat ++ varL n_data) ++ data)) (by omega)
 refine WC.skip (hK2 _ _ (WC.sr (WL.buildSlice hs1 Tryz.runUnderlying43 Tryz.sizeOf5 Tryz.zeroValue5 rfl rfl rfl rfl rfl rfl rfl rfl rfl rfl (fun b4 whs5 hs5 => WL.convLit (xs := [83, 78, 65, 80]) hs5 rfl rfl Tryz.underlying43 Tryz.underlying5 rfl rfl rfl rfl rfl (fun L6 whs7 hs7 ho8 => WL.r 1 hs7 [] rfl ?_)))))
 refine WL.cl Tryz.call95 rfl (k115_ _ _ _ _ _ _ (SlF.ofOwn ho8 (hs7.ow L6)) ?_ ?_ ?_) ?_
 iterate 2 first | omega | assumption | (simp only [List.length_append, List.length_cons, List.length_nil, Int.toNat_natCast]; omega)
 · first | omega | (simp only [List.length_append, List.length_cons, List.length_nil, Int.toNat_natCast]; omega) | assumption
 rintro _ whs9 ⟨A10, c11, L1_12, rfl, hs9, ho13⟩
 replace hs9 := hs7.callF hs9
 refine ⟨_, rfl, WL.r 5 hs9 [] rfl (WL.nil (WC.sr (WL.r 2 hs9 [] rfl (WL.cl Tryz.call95 rfl (k115_ _ _ _ _ _ _ (SlF.ofOwn ho13 (hs9.ow L1_12)) ?_ ?_ ?_) ?_))))⟩
 iterate 2 first | omega | assumption | (simp only [List.length_append, List.length_cons, List.length_nil, Int.toNat_natCast]; omega)
 · first | omega | (simp only [List.length_append, List.length_cons, List.length_nil, Int.toNat_natCast]; omega) | assumption
 rintro _ whs14 ⟨A15, c16, L1_17, rfl, hs14, ho18⟩
 replace hs14 := hs9.callF hs14
 refine ⟨_, rfl, WL.r 4 hs14 [] rfl (WL.nil (WC.sr (WL.r 3 hs14 [] rfl (WL.cl Tryz.call95 rfl (k115_ _ _ _ _ _ _ (SlF.ofOwn ho18 (hs14.ow L1_17)) ?_ ?_ ?_) ?_))))⟩
 iterate 2 first | omega | assumption | (simp only [List.length_append, List.length_cons, List.length_nil, Int.toNat_natCast]; omega)
 · first | omega | (simp only [List.length_append, List.length_cons, List.length_nil, Int.toNat_natCast]; omega) | assumption
 rintro _ whs19 ⟨A20, c21, L1_22, rfl, hs19, ho23⟩
 replace hs19 := hs14.callF hs19
 refine ⟨_, rfl, WL.r 4 hs19 [] rfl (WL.nil (WC.sr (WL.buildF (F := encB) hs19 ([]) Tryz.runUnderlying43 Tryz.sizeOf5 Tryz.zeroValue5 rfl rfl rfl rfl rfl rfl rfl rfl rfl rfl rfl rfl (fun A27 c28 L24 whs25 hs25 ho26 => WL.r 1 hs25 [] rfl ?_))))⟩
 refine WL.appendG hs25 ho26 (SlF.src (SlF.ofOwn ho23 (hs25.ow L1_22)) Tryz.underlying43) Tryz.underlying43 inf5 rfl rfl rfl rfl rfl rfl rfl rfl rfl rfl ?_ (fun A32 c33 L29 whs30 hs30 ho31 => ?_)
 · first | omega | (simp only [List.length_append, List.length_cons, List.length_nil, Int.toNat_natCast]; omega)
 refine WL.r 1 hs30 [] rfl (WL.appendG hs30 ho31 (SlF.src (SlF.st0 f_data hs30) Tryz.underlying43) Tryz.underlying43 inf5 rfl rfl rfl rfl rfl rfl rfl rfl rfl rfl ?_ (fun A37 c38 L34 whs35 hs35 ho36 => ?_))
 · first | omega | (simp only [List.length_append, List.length_cons, List.length_nil, Int.toNat_natCast]; omega)
 refine WL.cl Tryz.call96 rfl (k111_ _ _ _ _ _ (SlF.ofOwn ho36 (hs35.ow L34)) ?_) ?_
 · first | assumption | rfl | omega | (simp only [List.length_append, List.length_cons, List.length_nil, Int.toNat_natCast]; omega)
 rintro _ whs39 ⟨rfl, hs39⟩
 replace hs39 := hs35.call0 hs39
 refine ⟨_, rfl, WL.r 1 hs39 [] rfl (WL.nil (WC.sr (WL.r 2 hs39 [] rfl (WL.cl Tryz.call95 rfl (k115_ _ _ _ _ _ _ (SlF.ofOwn ho23 (hs39.ow L1_22)) ?_ ?_ ?_) ?_))))⟩
 iterate 2 first | omega | assumption | (simp only [List.length_append, List.length_cons, List.length_nil, Int.toNat_natCast]; omega)
 · first | omega | (simp only [List.length_append, List.length_cons, List.length_nil, Int.toNat_natCast]; omega) | assumption
 rintro _ whs40 ⟨A41, c42, L1_43, rfl, hs40, ho44⟩
 replace hs40 := hs39.callF hs40
 refine ⟨_, rfl, WL.r 4 hs40 [] rfl (WL.nil (WC.sr (WL.r 2 hs40 [] rfl (WL.appendG hs40 ho44 (SlF.src (SlF.st0 f_data hs40) Tryz.underlying43) Tryz.underlying43 inf5 rfl rfl rfl rfl rfl rfl rfl rfl rfl rfl ?_ (fun A48 c49 L45 whs46 hs46 ho47 => ?_)))))⟩
 · first | omega | (simp only [List.length_append, List.length_cons, List.length_nil, Int.toNat_natCast]; omega)
 refine WL.r 2 hs46 [] rfl (WL.nil (WC.ret (retV2 rfl (resV.tmp rfl) (resV.tmp rfl) ?_)))
 rw [hk]
 have hx_ := OwnF.eqOf (xs := snapOut gen seq data) ho47 (by unfold snapOut; rw [hk, if_pos rfl]; unfold snapL snapHd snapP4; rw [hl]; first | done | rfl | simp)
 rw [← hx_]
 first | exact ⟨_, _, _, rfl, (St.keep1 hs46), ho47⟩ | exact ⟨A48, c49, _, by rw [OwnF.len_ ho47], (St.keep1 hs46), by rw [OwnF.len_ ho47]; exact ho47⟩
theorem built_75_0_1_2_3 (x0 : Int) (x1 : ByteArray) (x2 : ByteArray) (x3 : Option Addr) (x4 : Nat) (x5 : Nat) : Tryz.prog.built 75 [(0, .int .i64 x0), (1, .string x1), (2, .string x2), (3, .slice x3 x4 x5)] = some (List.toArray [.int .i64 x0, .string x1, .string x2, .slice x3 x4 x5]) := by kernel_rfl
theorem k120_ (b_s : Nat) (s : starterR) (L_s : Hp) (kind : Int) (name : ByteArray) (to : ByteArray) (A_data : Option Addr) (n_data c_data : Nat) (data : List UInt8) (w : World) (hb_s : w.heap[b_s]? = some (Obj.cells (List.toArray [i64 s.depot.Disk.Room, i64 s.depot.Disk.Fuse, i64 s.depot.Disk.Next, .slice s.depot.Disk.Files.A s.depot.Disk.Files.n s.depot.Disk.Files.c, .slice s.depot.Disk.Kept.A s.depot.Disk.Kept.n s.depot.Disk.Kept.c, .slice s.depot.Disk.Turns.A s.depot.Disk.Turns.n s.depot.Disk.Turns.c, i64 s.depot.Gen, i64 s.depot.Seq, i64 s.depot.Size, .bool s.depot.Stuck, i64 s.code]) 109 (0, 0))) (o_s : ownstarterR s L_s) (h_s : Hh w L_s) (f_data : SlF encB w A_data n_data data) (hcd : n_data ≤ c_data) (hd_ : (b_s :: L_s.map (·.1)).Nodup) (s_data : 0 < n_data → (adr A_data).block ∉ (b_s :: L_s.map (·.1))) (hb : totDisk s.dat.depot.Disk ≤ 1048576) (hz1 : name.size ≤ 549755813888) (hz2 : to.size ≤ 549755813888) (hz3 : n_data ≤ 549755813888) :
    Calls Tryz.prog 133 #[.pointer (some ⟨b_s, 0, none⟩), i64 kind, .string name, .string to, .slice A_data n_data c_data] w fun e w' => ∃ r L1, e = .returned (.tuple #[]) ∧ St w (b_s :: L_s.map (·.1)) ([(b_s, Obj.cells (List.toArray [i64 r.depot.Disk.Room, i64 r.depot.Disk.Fuse, i64 r.depot.Disk.Next, .slice r.depot.Disk.Files.A r.depot.Disk.Files.n r.depot.Disk.Files.c, .slice r.depot.Disk.Kept.A r.depot.Disk.Kept.n r.depot.Disk.Kept.c, .slice r.depot.Disk.Turns.A r.depot.Disk.Turns.n r.depot.Disk.Turns.c, i64 r.depot.Gen, i64 r.depot.Seq, i64 r.depot.Size, .bool r.depot.Stuck, i64 r.code]) 109 (0, 0))] ++ L1) w' ∧ ownstarterR r L1 ∧ r.dat = setS s.dat (stp (sd s.dat) (⟨kind, name, to, data⟩ : DiskOpD)) := by
 have nl9 := f_data.len
 have hsm := start_sm hb
 refine enter 36 Tryz.func133 rfl Tryz.ntmps133 rfl rfl ?_
 have hs1 := St.takeP w b_s _ L_s hb_s h_s hd_
 refine WC.r1 hs1 [0] rfl (WC.cq rfl (fun h2 qh2 => ?_) (fun h2 qh2 => ?_))
 ·have hc : s.code = 0 := by have h9 := h2; simpa using h9
  refine WC.region (WL.r 11 hs1 [0] rfl ?_)
  refine WL.val rfl rfl rfl (Run.build rfl rfl rfl rfl (built_75_0_1_2_3 _ _ _ _ _ _)) ?_
  refine WL.cl Tryz.call43 rfl (k104_ s.depot.Disk ⟨_, _, _, ⟨_, _, _, _⟩⟩ _ (ownstarterR.ok (B := 549755813888) o_s (hs1.ow L_s) (by assumption)).depot.Disk ⟨(by first | assumption | omega), (by first | assumption | omega), (SlF.st f_data hs1 s_data), (by first | assumption | omega | simp), (by first | assumption | omega | (simp; omega) | simp)⟩ ?_) ?_
  · first | assumption | rfl | omega | exact hb
  rintro _ whs3 ⟨r4, L1_5, rfl, hs3, ho6, hd7⟩
  replace hs3 := hs1.callF hs3
  refine ⟨_, rfl, ?_⟩
  replace hs3 := St.back [_] hs3
  have hdo := hd7
  refine WL.r 6 hs3 [] rfl (WL.st tbk hs3 0 rfl rfl (fun _ hs8 => WL.r 2 hs8 [] rfl (WL.st tbk hs8 0 rfl rfl (fun _ hs9 => WL.nil (retK0 rfl ?_)))))
  obtain ⟨L10, L11, L12, hs16, ho13, ho14, ho15⟩ := ownDiskR.op hs9 ho6
  have hs17 := (hs16.fb b_s)
  obtain ⟨L19, hs18, ho20⟩ := ownstarterR.fl hs17 ho13 ho14 ho15
  have hs21 := (hs18.fb b_s)
  refine ownstarterR.retp rfl ((hs21.fr L19).fb b_s) ho20 ?_
  · exact starterD.ext' (DepotD.ext' (by show _ = stepD _ _ _; unfold stepD; rw [if_pos (show (sd s.dat).2 = 0 from hc)]; exact hdo) rfl rfl rfl rfl) (by show _ = stepC _ _ _; unfold stepC; rw [if_pos (show (sd s.dat).2 = 0 from hc)]; rfl)
 have hc : ¬ s.code = 0 := by have h9 := h2; simpa using h9
 refine WC.skip (retK0 rfl (⟨s, _, rfl, St.keepP (L1 := L_s) ((hs1.fr L_s).fb b_s), o_s, ?_⟩))
 · rw [stp_ne (s := sd s.dat) hc]; rfl
theorem k121_ (b_s : Nat) (s : starterR) (L_s : Hp) (name : ByteArray) (w : World) (hb_s : w.heap[b_s]? = some (Obj.cells (List.toArray [i64 s.depot.Disk.Room, i64 s.depot.Disk.Fuse, i64 s.depot.Disk.Next, .slice s.depot.Disk.Files.A s.depot.Disk.Files.n s.depot.Disk.Files.c, .slice s.depot.Disk.Kept.A s.depot.Disk.Kept.n s.depot.Disk.Kept.c, .slice s.depot.Disk.Turns.A s.depot.Disk.Turns.n s.depot.Disk.Turns.c, i64 s.depot.Gen, i64 s.depot.Seq, i64 s.depot.Size, .bool s.depot.Stuck, i64 s.code]) 109 (0, 0))) (o_s : ownstarterR s L_s) (h_s : Hh w L_s) (hd_ : (b_s :: L_s.map (·.1)).Nodup) (hb : totDisk s.dat.depot.Disk ≤ 1048576) (hk : diskOk s.dat.depot.Disk = true) (hnm : name.size ≤ 1048576) :
    Calls Tryz.prog 131 #[.pointer (some ⟨b_s, 0, none⟩), .string name] w fun e w' => ∃ r L1, e = .returned (.tuple #[]) ∧ St w (b_s :: L_s.map (·.1)) ([(b_s, Obj.cells (List.toArray [i64 r.depot.Disk.Room, i64 r.depot.Disk.Fuse, i64 r.depot.Disk.Next, .slice r.depot.Disk.Files.A r.depot.Disk.Files.n r.depot.Disk.Files.c, .slice r.depot.Disk.Kept.A r.depot.Disk.Kept.n r.depot.Disk.Kept.c, .slice r.depot.Disk.Turns.A r.depot.Disk.Turns.n r.depot.Disk.Turns.c, i64 r.depot.Gen, i64 r.depot.Seq, i64 r.depot.Size, .bool r.depot.Stuck, i64 r.code]) 109 (0, 0))] ++ L1) w' ∧ ownstarterR r L1 ∧ r.dat = setS s.dat (gone (sd s.dat) name) := by
 have hsm := start_sm hb
 have hD : DOk s.depot.Disk.dat := diskOk_P hk
 have hdl : (dirD s.depot.Disk.dat).length ≤ 40 := Nat.le_trans turnsL_len (by have h9 := hD.small; omega)
 refine enter 16 Tryz.func131 rfl Tryz.ntmps131 rfl rfl ?_
 have hs1 := St.takeP w b_s _ L_s hb_s h_s hd_
 refine WC.sr (WL.r 5 hs1 [0] rfl (WL.cl Tryz.call134 rfl (k77_ s.depot.Disk _ (ownstarterR.ok (B := 549755813888) o_s (hs1.ow L_s) (by assumption)).depot.Disk ?_) ?_))
 · first | assumption | rfl | omega | exact hb | exact Nat.zero_le _ | decide
 rintro _ whs2 ⟨A3, c4, L1_5, rfl, hs2, ho6⟩
 replace hs2 := hs1.callF hs2
 refine ⟨_, rfl, ?_⟩
 replace hs2 := St.back [_] hs2
 refine WL.r 1 hs2 [] rfl (WL.cl Tryz.call150 rfl (k59_ _ _ _ _ _ _ (SlF.ofOwn ho6 (hs2.ow L1_5)) ?_) ?_)
 · first | assumption | rfl | omega | exact hb | exact Nat.zero_le _ | decide
 rintro _ whs7 ⟨rfl, hs7⟩
 replace hs7 := hs2.call0 hs7
 refine ⟨_, rfl, WL.r 1 hs7 [] rfl (WL.nil (WC.cq rfl (fun h8 qh8 => ?_) (fun h8 qh8 => ?_)))⟩
 ·have hh : hasN (dirD s.depot.Disk.dat) name = true := has_idx (by have h9 := h8; simpa using h9)
  have hgo : gone (sd s.dat) name = stp (sd s.dat) (opR name) := if_pos hh
  refine WC.region (WL.r 2 hs7 [] rfl ?_)
  have hF9 := ((hs7.fr L_s).fb b_s)
  refine WL.cl Tryz.call133 rfl (k120_ _ s _ _ _ _ _ _ _ _ _ (St.headP hF9) o_s (St.ownP hF9) (SlF.nil _ _) (by first | assumption | omega | simp) (St.nodupP hF9) (fun h_ => absurd h_ (by omega)) ?_ ?_ ?_ ?_) ?_
  iterate 4 first | assumption | rfl | omega | exact hb | exact Nat.zero_le _ | decide
  rintro _ whs10 ⟨r11, L12, rfl, hs10, ho13, hd14⟩
  replace hs10 := St.lendP hF9 hs10
  refine ⟨_, rfl, WL.nil (retK0 rfl (⟨r11, _, rfl, St.keepP (L1 := L12) ((hs10.fr L12).fb b_s), ho13, ?_⟩))⟩
  · rw [hgo]; exact hd14
 have hh : hasN (dirD s.depot.Disk.dat) name = false := has_no (by have h9 := h8; simp at h9; omega)
 have hgo : gone (sd s.dat) name = sd s.dat := if_neg (by show ¬ hasN (dirD s.depot.Disk.dat) name = true; rw [hh]; decide)
 refine WC.skip (retK0 rfl (⟨s, _, rfl, St.keepP (L1 := L_s) ((hs7.fr L_s).fb b_s), o_s, ?_⟩))
 · rw [hgo]; rfl
theorem k122_ (b_s : Nat) (s : starterR) (L_s : Hp) (w : World) (hb_s : w.heap[b_s]? = some (Obj.cells (List.toArray [i64 s.depot.Disk.Room, i64 s.depot.Disk.Fuse, i64 s.depot.Disk.Next, .slice s.depot.Disk.Files.A s.depot.Disk.Files.n s.depot.Disk.Files.c, .slice s.depot.Disk.Kept.A s.depot.Disk.Kept.n s.depot.Disk.Kept.c, .slice s.depot.Disk.Turns.A s.depot.Disk.Turns.n s.depot.Disk.Turns.c, i64 s.depot.Gen, i64 s.depot.Seq, i64 s.depot.Size, .bool s.depot.Stuck, i64 s.code]) 109 (0, 0))) (o_s : ownstarterR s L_s) (h_s : Hh w L_s) (hd_ : (b_s :: L_s.map (·.1)).Nodup) (hb : totDisk s.dat.depot.Disk ≤ 1048576) :
    Calls Tryz.prog 130 #[.pointer (some ⟨b_s, 0, none⟩)] w fun e w' => ∃ r L1, e = .returned (.tuple #[]) ∧ St w (b_s :: L_s.map (·.1)) ([(b_s, Obj.cells (List.toArray [i64 r.depot.Disk.Room, i64 r.depot.Disk.Fuse, i64 r.depot.Disk.Next, .slice r.depot.Disk.Files.A r.depot.Disk.Files.n r.depot.Disk.Files.c, .slice r.depot.Disk.Kept.A r.depot.Disk.Kept.n r.depot.Disk.Kept.c, .slice r.depot.Disk.Turns.A r.depot.Disk.Turns.n r.depot.Disk.Turns.c, i64 r.depot.Gen, i64 r.depot.Seq, i64 r.depot.Size, .bool r.depot.Stuck, i64 r.code]) 109 (0, 0))] ++ L1) w' ∧ ownstarterR r L1 ∧ r.dat = setS s.dat (stp (sd s.dat) opY) := by
 refine enter 4 Tryz.func130 rfl Tryz.ntmps130 rfl rfl ?_
 have hs1 := St.takeP w b_s _ L_s hb_s h_s hd_
 refine WC.region (WL.r 1 hs1 [] rfl ?_)
 have hF2 := ((hs1.fr L_s).fb b_s)
 refine WL.cl Tryz.call133 rfl (k120_ _ s _ _ _ _ _ _ _ _ _ (St.headP hF2) o_s (St.ownP hF2) (SlF.nil _ _) (by first | assumption | omega | simp) (St.nodupP hF2) (fun h_ => absurd h_ (by omega)) ?_ ?_ ?_ ?_) ?_
 iterate 4 first | assumption | rfl | omega | exact hb | exact Nat.zero_le _ | decide
 rintro _ whs3 ⟨r4, L5, rfl, hs3, ho6, hd7⟩
 replace hs3 := St.lendP hF2 hs3
 refine ⟨_, rfl, WL.nil (retK0 rfl (⟨r4, _, rfl, St.keepP (L1 := L5) ((hs3.fr L5).fb b_s), ho6, ?_⟩))⟩
 · exact hd7
theorem k123_ (b_s : Nat) (s : starterR) (L_s : Hp) (A_data : Option Addr) (n_data c_data : Nat) (data : List UInt8) (w : World) (hb_s : w.heap[b_s]? = some (Obj.cells (List.toArray [i64 s.depot.Disk.Room, i64 s.depot.Disk.Fuse, i64 s.depot.Disk.Next, .slice s.depot.Disk.Files.A s.depot.Disk.Files.n s.depot.Disk.Files.c, .slice s.depot.Disk.Kept.A s.depot.Disk.Kept.n s.depot.Disk.Kept.c, .slice s.depot.Disk.Turns.A s.depot.Disk.Turns.n s.depot.Disk.Turns.c, i64 s.depot.Gen, i64 s.depot.Seq, i64 s.depot.Size, .bool s.depot.Stuck, i64 s.code]) 109 (0, 0))) (o_s : ownstarterR s L_s) (h_s : Hh w L_s) (f_data : SlF encB w A_data n_data data) (hcd : n_data ≤ c_data) (hd_ : (b_s :: L_s.map (·.1)).Nodup) (s_data : 0 < n_data → (adr A_data).block ∉ (b_s :: L_s.map (·.1))) (hb : totDisk s.dat.depot.Disk ≤ 1048576) (hk : diskOk s.dat.depot.Disk = true) (hn : n_data ≤ 400000) :
    Calls Tryz.prog 132 #[.pointer (some ⟨b_s, 0, none⟩), .slice A_data n_data c_data] w fun e w' => ∃ r L1, e = .returned (.tuple #[]) ∧ St w (b_s :: L_s.map (·.1)) ([(b_s, Obj.cells (List.toArray [i64 r.depot.Disk.Room, i64 r.depot.Disk.Fuse, i64 r.depot.Disk.Next, .slice r.depot.Disk.Files.A r.depot.Disk.Files.n r.depot.Disk.Files.c, .slice r.depot.Disk.Kept.A r.depot.Disk.Kept.n r.depot.Disk.Kept.c, .slice r.depot.Disk.Turns.A r.depot.Disk.Turns.n r.depot.Disk.Turns.c, i64 r.depot.Gen, i64 r.depot.Seq, i64 r.depot.Size, .bool r.depot.Stuck, i64 r.code]) 109 (0, 0))] ++ L1) w' ∧ ownstarterR r L1 ∧ r.dat = setS s.dat (stp (fillS (sd s.dat) data) (syncOp tempP)) := by
 have hsm := start_sm hb
 have hl9 := f_data.len
 have hdl : data.length ≤ 400000 := by omega
 refine enter 31 Tryz.func132 rfl Tryz.ntmps132 rfl rfl ?_
 have hs1 := St.takeP w b_s _ L_s hb_s h_s hd_
 refine WC.sr (WL.r 1 hs1 [] rfl ?_)
 have hF2 := ((hs1.fr L_s).fb b_s)
 refine WL.cl Tryz.call133 rfl (k120_ _ s _ _ _ _ _ _ _ _ _ (St.headP hF2) o_s (St.ownP hF2) (SlF.nil _ _) (by first | assumption | omega | simp) (St.nodupP hF2) (fun h_ => absurd h_ (by omega)) ?_ ?_ ?_ ?_) ?_
 iterate 4 first | assumption | rfl | omega | decide | exact hb
 rintro _ whs3 ⟨r4, L5, rfl, hs3, ho6, hd7⟩
 replace hs3 := St.lendP hF2 hs3
 refine ⟨_, rfl, ?_⟩
 have hS1 : starterR.dat r4 = setS s.dat (stp (sd s.dat) (opC tempP)) := hd7.trans (congrArg (a₂ := setS s.dat (sd s.dat)) (fun q => setS q (stp (sd q) (opC tempP))) (by exact rfl))
 have hk1 : diskOk (stp (sd s.dat) (opC tempP)).1 = true := stp_ok hk (opC_ok temp_ok)
 have hb1 : totDisk (starterR.dat r4).depot.Disk ≤ 1048576 := by rw [hS1]; exact ok_tot hk1
 have hq1 : diskOk (starterR.dat r4).depot.Disk = true := by rw [hS1]; exact hk1
 refine WL.nil (WC.sr (WL.r 2 hs3 [] rfl ?_))
 have hF8 := ((hs3.fr L5).fb b_s)
 refine WL.cl Tryz.call133 rfl (k120_ _ r4 _ _ _ _ _ _ _ _ _ (St.headP hF8) ho6 (St.ownP hF8) (SlF.st f_data hs3 s_data) (by first | assumption | omega | simp) (St.nodupP hF8) (St.sepTP hF8 f_data s_data) ?_ ?_ ?_ ?_) ?_
 iterate 4 first | assumption | rfl | omega | decide | exact hb1 | exact hq1
 rintro _ whs9 ⟨r10, L11, rfl, hs9, ho12, hd13⟩
 replace hs9 := St.lendP hF8 hs9
 refine ⟨_, rfl, ?_⟩
 have hS2 : starterR.dat r10 = setS s.dat (stp (stp (sd s.dat) (opC tempP)) (opA tempP data)) := hd13.trans (congrArg (a₂ := setS s.dat (stp (sd s.dat) (opC tempP))) (fun q => setS q (stp (sd q) (opA tempP data))) (by exact hS1))
 have hk2 : diskOk (stp (stp (sd s.dat) (opC tempP)) (opA tempP data)).1 = true := stp_ok hk1 (opA_ok temp_ok hdl)
 have hb2 : totDisk (starterR.dat r10).depot.Disk ≤ 1048576 := by rw [hS2]; exact ok_tot hk2
 have hq2 : diskOk (starterR.dat r10).depot.Disk = true := by rw [hS2]; exact hk2
 refine WL.nil (WC.seq (fun K14 hK14 => WC.r1 hs9 [0] rfl ?_))
 refine WC.cq rfl (fun h15 qh15 => ?_) (fun h15 qh15 => ?_)
 ·have h5 : (fill1 (sd s.dat) data).2 = 5 := (congrArg starterD.code hS2).symm.trans (of_decide_eq_true h15)
  refine WC.sr (WL.r 3 hs9 [] rfl (WL.st tbk hs9 0 rfl rfl (fun _ hs16 => WL.nil (WC.sr (WL.r 1 hs16 [] rfl ?_)))))
  obtain ⟨L17, L18, L19, hs23, ho20, ho21, ho22⟩ := ownstarterR.op hs16 ho12
  have hs24 := (hs23.fb b_s)
  obtain ⟨L26, hs25, ho27⟩ := ownstarterR.fl hs24 ho20 ho21 ho22
  have hs28 := (hs25.fb b_s)
  have hF29 := ((hs28.fr L26).fb b_s)
  refine WL.cl Tryz.call133 rfl (k120_ _ ⟨⟨⟨r10.depot.Disk.Room, r10.depot.Disk.Fuse, r10.depot.Disk.Next, SlD.ofN ho20, SlD.of ho21, SlD.of ho22⟩, r10.depot.Gen, r10.depot.Seq, r10.depot.Size, r10.depot.Stuck⟩, (0)⟩ _ _ _ _ _ _ _ _ _ (St.headP hF29) (by exact ho27) (St.ownP hF29) (SlF.nil _ _) (by first | assumption | omega | simp) (St.nodupP hF29) (fun h_ => absurd h_ (by omega)) ?_ ?_ ?_ ?_) ?_
  iterate 4 first | assumption | rfl | omega | decide | exact hb2 | exact hq2
  rintro _ whs30 ⟨r31, L32, rfl, hs30, ho33, hd34⟩
  replace hs30 := St.lendP hF29 hs30
  refine ⟨_, rfl, ?_⟩
  have hS3 : starterR.dat r31 = setS s.dat (stp (((stp (stp (sd s.dat) (opC tempP)) (opA tempP data)).1, 0) : SD) (opR tempP)) := hd34.trans (congrArg (a₂ := setS s.dat (((stp (stp (sd s.dat) (opC tempP)) (opA tempP data)).1, 0) : SD)) (fun q => setS q (stp (sd q) (opR tempP))) (by exact (starterD.ext' (by have h8 := congrArg starterD.depot hS2; exact h8) rfl)))
  have hk3 : diskOk (stp (((stp (stp (sd s.dat) (opC tempP)) (opA tempP data)).1, 0) : SD) (opR tempP)).1 = true := stp_ok hk2 (opR_ok temp_ok)
  have hb3 : totDisk (starterR.dat r31).depot.Disk ≤ 1048576 := by rw [hS3]; exact ok_tot hk3
  have hq3 : diskOk (starterR.dat r31).depot.Disk = true := by rw [hS3]; exact hk3
  refine WL.nil (WC.sr (WL.r 1 hs30 [] rfl ?_))
  have hF35 := ((hs30.fr L32).fb b_s)
  refine WL.cl Tryz.call130 rfl (k122_ _ r31 _ _ (St.headP hF35) ho33 (St.ownP hF35) (St.nodupP hF35) ?_) ?_
  · first | assumption | rfl | omega | decide | exact hb3 | exact hq3
  rintro _ whs36 ⟨r37, L38, rfl, hs36, ho39, hd40⟩
  replace hs36 := St.lendP hF35 hs36
  refine ⟨_, rfl, ?_⟩
  have hS4 : starterR.dat r37 = setS s.dat (stp (stp (((stp (stp (sd s.dat) (opC tempP)) (opA tempP data)).1, 0) : SD) (opR tempP)) opY) := hd40.trans (congrArg (a₂ := setS s.dat (stp (((stp (stp (sd s.dat) (opC tempP)) (opA tempP data)).1, 0) : SD) (opR tempP))) (fun q => setS q (stp (sd q) opY)) (by exact hS3))
  have hk4 : diskOk (stp (stp (((stp (stp (sd s.dat) (opC tempP)) (opA tempP data)).1, 0) : SD) (opR tempP)) opY).1 = true := stp_ok hk3 opY_ok
  have hb4 : totDisk (starterR.dat r37).depot.Disk ≤ 1048576 := by rw [hS4]; exact ok_tot hk4
  have hq4 : diskOk (starterR.dat r37).depot.Disk = true := by rw [hS4]; exact hk4
  refine WL.nil (WC.r1 hs36 [0] rfl (WC.cq rfl (fun h41 qh41 => ?_) (fun h41 qh41 => ?_)))
  ·have h0 : (stp (stp (((stp (stp (sd s.dat) (opC tempP)) (opA tempP data)).1, 0) : SD) (opR tempP)) opY).2 = 0 := (congrArg starterD.code hS4).symm.trans (of_decide_eq_true h41)
   have hX : (((stp (stp (((stp (stp (sd s.dat) (opC tempP)) (opA tempP data)).1, 0) : SD) (opR tempP)) opY).1, 5) : SD) = fillS (sd s.dat) data := by
     unfold fillS
     rw [if_pos h5]
     show _ = ((stp (stp (((stp (stp (sd s.dat) (opC tempP)) (opA tempP data)).1, 0) : SD) (opR tempP)) opY).1, if (stp (stp (((stp (stp (sd s.dat) (opC tempP)) (opA tempP data)).1, 0) : SD) (opR tempP)) opY).2 = 0 then 5 else (stp (stp (((stp (stp (sd s.dat) (opC tempP)) (opA tempP data)).1, 0) : SD) (opR tempP)) opY).2)
     rw [if_pos h0]
   refine WC.region (WL.r 3 hs36 [] rfl (WL.st tbk hs36 0 rfl rfl (fun _ hs42 => WL.nil (hK14 _ _ (WC.region (WL.r 1 hs42 [] rfl ?_))))))
   obtain ⟨L43, L44, L45, hs49, ho46, ho47, ho48⟩ := ownstarterR.op hs42 ho39
   have hs50 := (hs49.fb b_s)
   obtain ⟨L52, hs51, ho53⟩ := ownstarterR.fl hs50 ho46 ho47 ho48
   have hs54 := (hs51.fb b_s)
   have hF55 := ((hs54.fr L52).fb b_s)
   refine WL.cl Tryz.call133 rfl (k120_ _ ⟨⟨⟨r37.depot.Disk.Room, r37.depot.Disk.Fuse, r37.depot.Disk.Next, SlD.ofN ho46, SlD.of ho47, SlD.of ho48⟩, r37.depot.Gen, r37.depot.Seq, r37.depot.Size, r37.depot.Stuck⟩, (5)⟩ _ _ _ _ _ _ _ _ _ (St.headP hF55) (by exact ho53) (St.ownP hF55) (SlF.nil _ _) (by first | assumption | omega | simp) (St.nodupP hF55) (fun h_ => absurd h_ (by omega)) ?_ ?_ ?_ ?_) ?_
   iterate 4 first | assumption | rfl | omega | decide | exact hb4 | exact hq4
   rintro _ whs56 ⟨r57, L58, rfl, hs56, ho59, hd60⟩
   replace hs56 := St.lendP hF55 hs56
   refine ⟨_, rfl, ?_⟩
   have hS5 : starterR.dat r57 = setS s.dat (stp (((stp (stp (((stp (stp (sd s.dat) (opC tempP)) (opA tempP data)).1, 0) : SD) (opR tempP)) opY).1, 5) : SD) (syncOp tempP)) := hd60.trans (congrArg (a₂ := setS s.dat (((stp (stp (((stp (stp (sd s.dat) (opC tempP)) (opA tempP data)).1, 0) : SD) (opR tempP)) opY).1, 5) : SD)) (fun q => setS q (stp (sd q) (syncOp tempP))) (by exact (starterD.ext' (by have h8 := congrArg starterD.depot hS4; exact h8) rfl)))
   have hk5 : diskOk (stp (((stp (stp (((stp (stp (sd s.dat) (opC tempP)) (opA tempP data)).1, 0) : SD) (opR tempP)) opY).1, 5) : SD) (syncOp tempP)).1 = true := stp_ok hk4 (opS_ok temp_ok)
   have hb5 : totDisk (starterR.dat r57).depot.Disk ≤ 1048576 := by rw [hS5]; exact ok_tot hk5
   have hq5 : diskOk (starterR.dat r57).depot.Disk = true := by rw [hS5]; exact hk5
   refine WL.nil (retK0 rfl (⟨r57, _, rfl, St.keepP (L1 := L58) ((hs56.fr L58).fb b_s), ho59, ?_⟩))
   · exact hS5.trans (congrArg (fun q => setS s.dat (stp q (syncOp tempP))) hX)
  have h0 : ¬ (stp (stp (((stp (stp (sd s.dat) (opC tempP)) (opA tempP data)).1, 0) : SD) (opR tempP)) opY).2 = 0 := fun h8 => (of_decide_eq_false h41) ((congrArg starterD.code hS4).trans h8)
  have hX : (stp (stp (((stp (stp (sd s.dat) (opC tempP)) (opA tempP data)).1, 0) : SD) (opR tempP)) opY) = fillS (sd s.dat) data := by
    unfold fillS
    rw [if_pos h5]
    show _ = ((stp (stp (((stp (stp (sd s.dat) (opC tempP)) (opA tempP data)).1, 0) : SD) (opR tempP)) opY).1, if (stp (stp (((stp (stp (sd s.dat) (opC tempP)) (opA tempP data)).1, 0) : SD) (opR tempP)) opY).2 = 0 then 5 else (stp (stp (((stp (stp (sd s.dat) (opC tempP)) (opA tempP data)).1, 0) : SD) (opR tempP)) opY).2)
    rw [if_neg h0]
  refine WC.skip (hK14 _ _ (WC.region (WL.r 1 hs36 [] rfl ?_)))
  have hF61 := ((hs36.fr L38).fb b_s)
  refine WL.cl Tryz.call133 rfl (k120_ _ r37 _ _ _ _ _ _ _ _ _ (St.headP hF61) ho39 (St.ownP hF61) (SlF.nil _ _) (by first | assumption | omega | simp) (St.nodupP hF61) (fun h_ => absurd h_ (by omega)) ?_ ?_ ?_ ?_) ?_
  iterate 4 first | assumption | rfl | omega | decide | exact hb4 | exact hq4
  rintro _ whs62 ⟨r63, L64, rfl, hs62, ho65, hd66⟩
  replace hs62 := St.lendP hF61 hs62
  refine ⟨_, rfl, ?_⟩
  have hS6 : starterR.dat r63 = setS s.dat (stp (stp (stp (((stp (stp (sd s.dat) (opC tempP)) (opA tempP data)).1, 0) : SD) (opR tempP)) opY) (syncOp tempP)) := hd66.trans (congrArg (a₂ := setS s.dat (stp (stp (((stp (stp (sd s.dat) (opC tempP)) (opA tempP data)).1, 0) : SD) (opR tempP)) opY)) (fun q => setS q (stp (sd q) (syncOp tempP))) (by exact hS4))
  have hk6 : diskOk (stp (stp (stp (((stp (stp (sd s.dat) (opC tempP)) (opA tempP data)).1, 0) : SD) (opR tempP)) opY) (syncOp tempP)).1 = true := stp_ok hk4 (opS_ok temp_ok)
  have hb6 : totDisk (starterR.dat r63).depot.Disk ≤ 1048576 := by rw [hS6]; exact ok_tot hk6
  have hq6 : diskOk (starterR.dat r63).depot.Disk = true := by rw [hS6]; exact hk6
  refine WL.nil (retK0 rfl (⟨r63, _, rfl, St.keepP (L1 := L64) ((hs62.fr L64).fb b_s), ho65, ?_⟩))
  · exact hS6.trans (congrArg (fun q => setS s.dat (stp q (syncOp tempP))) hX)
 have h5 : ¬ (fill1 (sd s.dat) data).2 = 5 := fun h8 => (of_decide_eq_false h15) ((congrArg starterD.code hS2).trans h8)
 have hX : (stp (stp (sd s.dat) (opC tempP)) (opA tempP data)) = fillS (sd s.dat) data := (if_neg h5).symm
 refine WC.skip (hK14 _ _ (WC.region (WL.r 1 hs9 [] rfl ?_)))
 have hF67 := ((hs9.fr L11).fb b_s)
 refine WL.cl Tryz.call133 rfl (k120_ _ r10 _ _ _ _ _ _ _ _ _ (St.headP hF67) ho12 (St.ownP hF67) (SlF.nil _ _) (by first | assumption | omega | simp) (St.nodupP hF67) (fun h_ => absurd h_ (by omega)) ?_ ?_ ?_ ?_) ?_
 iterate 4 first | assumption | rfl | omega | decide | exact hb2 | exact hq2
 rintro _ whs68 ⟨r69, L70, rfl, hs68, ho71, hd72⟩
 replace hs68 := St.lendP hF67 hs68
 refine ⟨_, rfl, ?_⟩
 have hS7 : starterR.dat r69 = setS s.dat (stp (stp (stp (sd s.dat) (opC tempP)) (opA tempP data)) (syncOp tempP)) := hd72.trans (congrArg (a₂ := setS s.dat (stp (stp (sd s.dat) (opC tempP)) (opA tempP data))) (fun q => setS q (stp (sd q) (syncOp tempP))) (by exact hS2))
 have hk7 : diskOk (stp (stp (stp (sd s.dat) (opC tempP)) (opA tempP data)) (syncOp tempP)).1 = true := stp_ok hk2 (opS_ok temp_ok)
 have hb7 : totDisk (starterR.dat r69).depot.Disk ≤ 1048576 := by rw [hS7]; exact ok_tot hk7
 have hq7 : diskOk (starterR.dat r69).depot.Disk = true := by rw [hS7]; exact hk7
 refine WL.nil (retK0 rfl (⟨r69, _, rfl, St.keepP (L1 := L70) ((hs68.fr L70).fb b_s), ho71, ?_⟩))
 · exact hS7.trans (congrArg (fun q => setS s.dat (stp q (syncOp tempP))) hX)
open Go.Shelf
open Go.RowKit in
open Go.RowKit in
open Go.RowKit in
open Go.RowKit in
open Go.RowKit in
open Go.RowKit in
open Go.Lib in
open Go.Lib in
open Go.Lib in
open Go.Lib in
open Go.RowKit Go.Sort Go.Lib in
open Go.RowKit Go.Sort Go.Lib in
open Go.RowKit Go.Sort Go.Lib in
open Go.RowKit Go.Sort Go.Lib in
open Go.RowKit Go.Sort Go.Lib in
open Go.RowKit Go.Sort Go.Lib in
open Go.RowKit Go.Sort Go.Lib in
open Go.RowKit in
open Go.RowKit in
open Go.RowKit in
open Go.RowKit in
open Go.RowKit in
open Go.RowKit in
open Go.RowKit in
open Go.RowKit in
open Go.RowKit in
open Go.RowKit in
open Go.RowKit in
open Go.RowKit in
open Go.RowKit in
open Go.RowKit in
open Go.RowKit in
open Go.RowKit in
def Tryz.laysC172_ren : Go.Shelf.Ren := ⟨fun | 172 => 183 | 244 => 206 | 245 => 207 | 247 => 225 | 279 => 226 | 280 => 227 | 281 => 228 | 282 => 229 | 287 => 239 | 316 => 240 | 171 => 154 | 205 => 241 | 321 => 245 | 322 => 246 | 243 => 178 | 246 => 193 | 283 => 212 | 284 => 213 | 285 => 214 | 286 => 215 | 129 => 204 | 317 => 233 | 318 => 234 | 319 => 235 | 320 => 236 | 337 => 243 | 338 => 244 | n => n, fun | 9 => 9 | 3 => 3 | 75 => 199 | 76 => 200 | 4 => 4 | 5 => 5 | 167 => 233 | 37 => 43 | 0 => 0 | 85 => 234 | 2 => 2 | 168 => 236 | 53 => 219 | 175 => 247 | 46 => 176 | 210 => 251 | 127 => 255 | 145 => 258 | 143 => 256 | 21 => 21 | 171 => 222 | 173 => 224 | 212 => 240 | 51 => 194 | 20 => 20 | 213 => 241 | 232 => 259 | 233 => 260 | 80 => 261 | n => n, fun | 15 => 2 | 16 => 3 | 17 => 1 | 18 => 4 | 19 => 5 | n => n⟩
theorem Tryz.laysC172 : Go.Proofs.LaysC.n172 Tryz.prog Tryz.laysC172_ren := {
  mixed := by kernel_rfl
  f129 := Tryz.func204.trans (congrArg some (by kernel_rfl))
  f171 := Tryz.func154.trans (congrArg some (by kernel_rfl))
  f172 := Tryz.func183.trans (congrArg some (by kernel_rfl))
  f205 := Tryz.func241.trans (congrArg some (by kernel_rfl))
  f243 := Tryz.func178.trans (congrArg some (by kernel_rfl))
  f244 := Tryz.func206.trans (congrArg some (by kernel_rfl))
  f245 := Tryz.func207.trans (congrArg some (by kernel_rfl))
  f246 := Tryz.func193.trans (congrArg some (by kernel_rfl))
  f247 := Tryz.func225.trans (congrArg some (by kernel_rfl))
  f279 := Tryz.func226.trans (congrArg some (by kernel_rfl))
  f280 := Tryz.func227.trans (congrArg some (by kernel_rfl))
  f281 := Tryz.func228.trans (congrArg some (by kernel_rfl))
  f282 := Tryz.func229.trans (congrArg some (by kernel_rfl))
  f283 := Tryz.func212.trans (congrArg some (by kernel_rfl))
  f284 := Tryz.func213.trans (congrArg some (by kernel_rfl))
  f285 := Tryz.func214.trans (congrArg some (by kernel_rfl))
  f286 := Tryz.func215.trans (congrArg some (by kernel_rfl))
  f287 := Tryz.func239.trans (congrArg some (by kernel_rfl))
  f316 := Tryz.func240.trans (congrArg some (by kernel_rfl))
  f317 := Tryz.func233.trans (congrArg some (by kernel_rfl))
  f318 := Tryz.func234.trans (congrArg some (by kernel_rfl))
  f319 := Tryz.func235.trans (congrArg some (by kernel_rfl))
  f320 := Tryz.func236.trans (congrArg some (by kernel_rfl))
  f321 := Tryz.func245.trans (congrArg some (by kernel_rfl))
  f322 := Tryz.func246.trans (congrArg some (by kernel_rfl))
  f337 := Tryz.func243.trans (congrArg some (by kernel_rfl))
  f338 := Tryz.func244.trans (congrArg some (by kernel_rfl))
  t0 := Tryz.underlying0
  a0 := Tryz.isAgg0
  z0 := Tryz.sizeOf0
  v0 := Tryz.zeroValue0
  t2 := Tryz.underlying2
  a2 := Tryz.isAgg2
  z2 := Tryz.sizeOf2
  v2 := Tryz.zeroValue2
  t3 := Tryz.underlying3
  a3 := Tryz.isAgg3
  z3 := Tryz.sizeOf3
  v3 := Tryz.zeroValue3
  t4 := Tryz.underlying4
  a4 := Tryz.isAgg4
  z4 := Tryz.sizeOf4
  v4 := Tryz.zeroValue4
  t5 := Tryz.underlying5
  a5 := Tryz.isAgg5
  z5 := Tryz.sizeOf5
  v5 := Tryz.zeroValue5
  t9 := Tryz.underlying9
  a9 := Tryz.isAgg9
  z9 := Tryz.sizeOf9
  v9 := Tryz.zeroValue9
  t20 := Tryz.underlying20
  a20 := Tryz.isAgg20
  z20 := Tryz.sizeOf20
  v20 := Tryz.zeroValue20
  t21 := Tryz.underlying21
  a21 := Tryz.isAgg21
  z21 := Tryz.sizeOf21
  v21 := Tryz.zeroValue21
  t37 := Tryz.underlying43
  a37 := Tryz.isAgg43
  z37 := Tryz.sizeOf43
  v37 := Tryz.zeroValue43
  t46 := Tryz.underlying176
  a46 := Tryz.isAgg176
  z46 := Tryz.sizeOf176
  v46 := Tryz.zeroValue176
  t51 := Tryz.underlying194
  a51 := Tryz.isAgg194
  z51 := Tryz.sizeOf194
  v51 := Tryz.zeroValue194
  t53 := Tryz.underlying219
  a53 := Tryz.isAgg219
  z53 := Tryz.sizeOf219
  v53 := Tryz.zeroValue219
  t75 := Tryz.underlying199
  a75 := Tryz.isAgg199
  z75 := Tryz.sizeOf199
  v75 := Tryz.zeroValue199
  t76 := Tryz.underlying200
  a76 := Tryz.isAgg200
  z76 := Tryz.sizeOf200
  v76 := Tryz.zeroValue200
  t85 := Tryz.underlying234
  a85 := Tryz.isAgg234
  z85 := Tryz.sizeOf234
  v85 := Tryz.zeroValue234
  t127 := Tryz.underlying255
  a127 := Tryz.isAgg255
  z127 := Tryz.sizeOf255
  v127 := Tryz.zeroValue255
  t143 := Tryz.underlying256
  a143 := Tryz.isAgg256
  z143 := Tryz.sizeOf256
  v143 := Tryz.zeroValue256
  t145 := Tryz.underlying258
  a145 := Tryz.isAgg258
  z145 := Tryz.sizeOf258
  v145 := Tryz.zeroValue258
  t167 := Tryz.underlying233
  a167 := Tryz.isAgg233
  z167 := Tryz.sizeOf233
  v167 := Tryz.zeroValue233
  t168 := Tryz.underlying236
  a168 := Tryz.isAgg236
  z168 := Tryz.sizeOf236
  v168 := Tryz.zeroValue236
  t171 := Tryz.underlying222
  a171 := Tryz.isAgg222
  z171 := Tryz.sizeOf222
  v171 := Tryz.zeroValue222
  t173 := Tryz.underlying224
  a173 := Tryz.isAgg224
  z173 := Tryz.sizeOf224
  v173 := Tryz.zeroValue224
  t175 := Tryz.underlying247
  a175 := Tryz.isAgg247
  z175 := Tryz.sizeOf247
  v175 := Tryz.zeroValue247
  t210 := Tryz.underlying251
  a210 := Tryz.isAgg251
  z210 := Tryz.sizeOf251
  v210 := Tryz.zeroValue251
  t212 := Tryz.underlying240
  a212 := Tryz.isAgg240
  z212 := Tryz.sizeOf240
  v212 := Tryz.zeroValue240
  t213 := Tryz.underlying241
  a213 := Tryz.isAgg241
  z213 := Tryz.sizeOf241
  t232 := Tryz.underlying259
  a232 := Tryz.isAgg259
  z232 := Tryz.sizeOf259
  v232 := Tryz.zeroValue259
  t233 := Tryz.underlying260
  a233 := Tryz.isAgg260
  z233 := Tryz.sizeOf260
  v233 := Tryz.zeroValue260
  g15 := by kernel_rfl
  g16 := by kernel_rfl
  g17 := by kernel_rfl
  g18 := by kernel_rfl
  g19 := by kernel_rfl
  t80 := Tryz.underlying261
  a80 := Tryz.isAgg261
  z80 := Tryz.sizeOf261
  v80 := Tryz.zeroValue261
  i0 := by kernel_rfl
  i2 := by kernel_rfl
  i3 := by kernel_rfl
  i4 := by kernel_rfl
  i5 := by kernel_rfl
  i9 := by kernel_rfl
  i20 := by kernel_rfl
  i21 := by kernel_rfl
  i37 := by kernel_rfl
  i46 := by kernel_rfl
  i51 := by kernel_rfl
  i53 := by kernel_rfl
  i75 := by kernel_rfl
  i76 := by kernel_rfl
  i80 := by kernel_rfl
  i85 := by kernel_rfl
  i127 := by kernel_rfl
  i143 := by kernel_rfl
  i145 := by kernel_rfl
  i167 := by kernel_rfl
  i168 := by kernel_rfl
  i171 := by kernel_rfl
  i173 := by kernel_rfl
  i175 := by kernel_rfl
  i210 := by kernel_rfl
  i212 := by kernel_rfl
  i232 := by kernel_rfl
  i233 := by kernel_rfl
  m15 := by kernel_rfl
  m16 := by kernel_rfl
  m17 := by kernel_rfl
  m18 := by kernel_rfl
  m19 := by kernel_rfl
  c0 := by kernel_rfl
  c2 := by kernel_rfl
  c3 := by kernel_rfl
  c4 := by kernel_rfl
  c5 := by kernel_rfl
  c9 := by kernel_rfl
  c20 := by kernel_rfl
  c21 := by kernel_rfl
  c37 := by kernel_rfl
  c46 := by kernel_rfl
  c51 := by kernel_rfl
  c53 := by kernel_rfl
  c75 := by kernel_rfl
  c76 := by kernel_rfl
  c80 := by kernel_rfl
  c85 := by kernel_rfl
  c127 := by kernel_rfl
  c143 := by kernel_rfl
  c145 := by kernel_rfl
  c167 := by kernel_rfl
  c168 := by kernel_rfl
  c171 := by kernel_rfl
  c173 := by kernel_rfl
  c175 := by kernel_rfl
  c210 := by kernel_rfl
  c212 := by kernel_rfl
  c213 := by kernel_rfl
  c232 := by kernel_rfl
  c233 := by kernel_rfl }
open Go.RowKit in
theorem Tryz.strconv_Atoi_ok (s : ByteArray) (hmax : s.size ≤ 9223372036854775806) (v : Int) (h : Lib.atoiAll s.data.toList = .ok v) (w : World) :
    Calls Tryz.prog 183 #[.string s] w fun e w' => e = .returned (.tuple #[.int .i64 v, .nilIface]) ∧ (w' = w ∨ ∃ t, w' = Lib.bytesWorld w 5 t) := Any.strconv_Atoi_ok Tryz.laysC172 s hmax v h w
open Go.RowKit in
theorem Tryz.strconv_Atoi_syntax (s : ByteArray) (hlim : s.size ≤ 281474976710656) (h : Lib.atoiAll s.data.toList = Lib.NumEnd.syntax) (ev : Value) (w : World) (hv : w.cell? ⟨2, 0, none⟩ = some ev) (hev : ev = .nilIface ∨ ∃ te pe, ev = .iface te pe) :
    Calls Tryz.prog 183 #[.string s] w fun e w' => ∃ N, e = .returned (.tuple #[.int .i64 (0), .iface 236 (.pointer (some ⟨N, 0, none⟩))]) ∧ w.heap.size ≤ N ∧ w'.heap[N]? = some (.cells #[.string ⟨#[65, 116, 111, 105]⟩, .string s, ev] 251 (0, 0)) ∧ Below w.heap.size w w' := Any.strconv_Atoi_syntax Tryz.laysC172 s hlim h ev w hv hev
open Go.RowKit in
open Go.RowKit in
open Go.RowKit in
open Go.RowKit in
open Go.RowKit in
open Go.RowKit in
open Go.RowKit Go.Lib in
open Go.RowKit Go.Lib in
open Go.RowKit Go.Lib in
open Go.RowKit Go.Lib in
open Go.RowKit Go.Lib in
open Go.RowKit Go.Lib in
open Go.RowKit Go.Lib in
def Tryz.lays145_ren : Go.Shelf.Ren := ⟨fun | 145 => 166 | 220 => 182 | 219 => 205 | 217 => 211 | 225 => 222 | 224 => 223 | 267 => 224 | 266 => 232 | 314 => 238 | n => n, fun | 9 => 9 | 4 => 4 | 59 => 185 | 3 => 3 | 5 => 5 | 46 => 176 | 146 => 245 | 51 => 194 | n => n, fun | 1 => 0 | n => n⟩
theorem Tryz.lays145 : Go.Proofs.Lays.n145 Tryz.prog Tryz.lays145_ren := {
  mixed := by kernel_rfl
  f145 := Tryz.func166.trans (congrArg some (by kernel_rfl))
  f217 := Tryz.func211.trans (congrArg some (by kernel_rfl))
  f219 := Tryz.func205.trans (congrArg some (by kernel_rfl))
  f220 := Tryz.func182.trans (congrArg some (by kernel_rfl))
  f224 := Tryz.func223.trans (congrArg some (by kernel_rfl))
  f225 := Tryz.func222.trans (congrArg some (by kernel_rfl))
  f266 := Tryz.func232.trans (congrArg some (by kernel_rfl))
  f267 := Tryz.func224.trans (congrArg some (by kernel_rfl))
  f314 := Tryz.func238.trans (congrArg some (by kernel_rfl))
  t3 := Tryz.underlying3
  a3 := Tryz.isAgg3
  z3 := Tryz.sizeOf3
  v3 := Tryz.zeroValue3
  t4 := Tryz.underlying4
  a4 := Tryz.isAgg4
  z4 := Tryz.sizeOf4
  v4 := Tryz.zeroValue4
  t5 := Tryz.underlying5
  a5 := Tryz.isAgg5
  z5 := Tryz.sizeOf5
  v5 := Tryz.zeroValue5
  t9 := Tryz.underlying9
  a9 := Tryz.isAgg9
  z9 := Tryz.sizeOf9
  v9 := Tryz.zeroValue9
  t46 := Tryz.underlying176
  a46 := Tryz.isAgg176
  z46 := Tryz.sizeOf176
  v46 := Tryz.zeroValue176
  t51 := Tryz.underlying194
  a51 := Tryz.isAgg194
  z51 := Tryz.sizeOf194
  v51 := Tryz.zeroValue194
  t59 := Tryz.underlying185
  a59 := Tryz.isAgg185
  z59 := Tryz.sizeOf185
  v59 := Tryz.zeroValue185
  t146 := Tryz.underlying245
  a146 := Tryz.isAgg245
  z146 := Tryz.sizeOf245
  v146 := Tryz.zeroValue245
  g1 := by kernel_rfl }
open Go.RowKit Go.Lib in
theorem Tryz.strings_Cut (s sep : ByteArray) (m : Int) (w : World) (hs : s.size < 4294967281) (hm : w.cell? ⟨0, 0, none⟩ = some (.int .i64 m)) :
    Calls Tryz.prog 166 #[.string s, .string sep] w fun e w' => e = .returned (.tuple #[.string ⟨(Lib.cut s.data.toList sep.data.toList).1.toArray⟩, .string ⟨(Lib.cut s.data.toList sep.data.toList).2.1.toArray⟩, .bool (Lib.cut s.data.toList sep.data.toList).2.2]) ∧ ∃ n, w' = w.drewN n := Any.strings_Cut Tryz.lays145 s sep m w hs hm
open Go.RowKit Go.Lib in
open Go.RowKit Go.Lib in
open Go.RowKit Go.Lib in
open Go.Sort Go.RowKit in
open Go.RowKit Go.Lib in
open Go.RowKit Go.Lib in
open Go.RowKit Go.Lib in
open Go.RowKit Go.Lib in
open Go.RowKit Go.Sort in
open Go Go.RowKit
set_option autoImplicit false
set_option relaxedAutoImplicit false
section
variable {P : Program} {o : Oper} {f : Fr} {w : World} {t t' : TypeId} {x y : Operand}
def errOf (T : TypeId) (N : Nat) (b : Bool) : Value := if b then .nilIface else .iface T (.pointer (some ⟨N, 0, none⟩))
theorem equalIn_ifn {d : Nat} {w : World} {ms} (hu : P.underlying t = some (.interface ms)) : (Op.equalIn (d + 1) t .nilIface .nilIface).run P w = .ok true w := by
 simp [Op.equalIn, run_underlying hu]
theorem equalIn_ifi {d : Nat} {w : World} {ms} {T : TypeId} {v : Value} (hu : P.underlying t = some (.interface ms)) : (Op.equalIn (d + 1) t (.iface T v) .nilIface).run P w = .ok false w := by
 simp [Op.equalIn, run_underlying hu]
theorem Run.neqI {ms} {T N : Nat} {b : Bool} (hu : P.underlying t = some (.interface ms)) (ho : o.op = .binOp .neq t x (.const .nilIface) t') (hx : ev f x = some (errOf T N b)) : Run P o f w (.value (.bool (!b))) w := fun ρ hρ => by
 have h3 : ρ (.const .nilIface) = .nilIface := hρ _ _ rfl
 cases b with
 | true =>
  have h1 : (binOp .neq t .nilIface .nilIface).run P w = .ok (.bool false) w := by
   simp only [binOp]
   simp [Op.equal, Op.maxDepth, equalIn_ifn hu]
  have h2 : ρ x = .nilIface := hρ _ _ hx
  simp [execOp, ho, h2, h3, eqGuard, h1]
 | false =>
  have h1 : (binOp .neq t (.iface T (.pointer (some ⟨N, 0, none⟩))) .nilIface).run P w = .ok (.bool true) w := by
   simp only [binOp]
   simp [Op.equal, Op.maxDepth, equalIn_ifi hu]
  have h2 : ρ x = .iface T (.pointer (some ⟨N, 0, none⟩)) := hρ _ _ hx
  simp [execOp, ho, h2, h3, eqGuard, h1]
theorem Run.sliceStrL {k : IntKind} {a : Int} (lo : Nat) {s : ByteArray} (hu : ∀ w, (underlying t).run P w = .ok .string w) (ho : o.op = .slice t x (some y) none none) (hx : ev f x = some (.string s)) (hy : ev f y = some (.int k a))
  (ha : a = (lo : Int)) (h : lo ≤ s.size) : Run P o f w (.value (.string (s.extract lo s.size))) w := fun ρ hρ => by
 subst ha
 simp [execOp, ho, hρ _ _ hx, hρ _ _ hy, Instr.sliceAt, Instr.slice, Instr.sliceBounds, Instr.sliceBound, asIntOf, hu, h]
end
theorem St.apart {w w' : World} {L : Hp} (hs : St w [] L w') {g : Nat} (hg : g < w.heap.size) : g ∉ L.map (·.1) := by
 intro hm
 obtain ⟨p, hp, rfl⟩ := List.mem_map.1 hm
 rcases (hs.own p hp).2 with h | h
 ·omega
 ·exact absurd h List.not_mem_nil
def LibOk (w : World) : Prop := TabOk w ∧ (∃ m, w.cell? ⟨0, 0, none⟩ = some (.int .i64 m)) ∧ ∃ ev, w.cell? ⟨2, 0, none⟩ = some ev ∧ (ev = .nilIface ∨ ∃ te pe, ev = .iface te pe)
def far (D : List Nat) : Prop := ∀ k, k ∈ D → 3 ≤ k
theorem lib_size {w : World} (h : LibOk w) : 3 ≤ w.heap.size := by
  obtain ⟨_, _, ev, h, _⟩ := h
  have := cell?_lt h
  exact this
theorem tab_lent {w w' : World} {D : List Nat} {L : Hp} (h : TabOk w) (hs : St w D L w') (hd : far D) : TabOk w' := by
  have hgn : Tryz.prog.globalNamed "internal/strconv.uint64pow10" = some 1 := by kernel_rfl
  unfold TabOk Go.Lib.TabIs World.var? at h ⊢
  rw [hgn] at h ⊢
  simp only [Option.bind_some] at h ⊢
  have hlt : 1 < w.heap.size := by
    rcases Nat.lt_or_ge 1 w.heap.size with h' | h'
    · exact h'
    · rw [Array.getElem?_eq_none h'] at h; cases h
  rw [hs.keep 1 hlt (fun hm => absurd (hd 1 hm) (by decide))]
  exact h
theorem cell_lent {w w' : World} {D : List Nat} {L : Hp} {b : Nat} {v : Value} (hb : b < 3) (h : w.cell? ⟨b, 0, none⟩ = some v) (hs : St w D L w') (hd : far D) : w'.cell? ⟨b, 0, none⟩ = some v := by
  have hlt : b < w.heap.size := cell?_lt h
  have e : w'.heap[b]? = w.heap[b]? := hs.keep b hlt (fun hm => absurd (hd b hm) (by omega))
  unfold World.cell? at h ⊢
  simp only [e]
  exact h
theorem lib_lent {w w' : World} {D : List Nat} {L : Hp} (h : LibOk w) (hs : St w D L w') (hd : far D) : LibOk w' := by
  obtain ⟨h1, ⟨m, h2⟩, ev, h3, h4⟩ := h
  exact ⟨tab_lent h1 hs hd, ⟨m, cell_lent (by decide) h2 hs hd⟩, ev, cell_lent (by decide) h3 hs hd, h4⟩
theorem far_nil : far [] := fun _ h => absurd h List.not_mem_nil
theorem lib_st {w w' : World} {L : Hp} (h : LibOk w) (hs : St w [] L w') : LibOk w' := lib_lent h hs far_nil
theorem lib_tab {w w' : World} {L : Hp} (h : LibOk w) (hs : St w [] L w') : TabOk w' := (lib_st h hs).1
theorem far_of {w w' : World} {L : Hp} (h : LibOk w) (hs : St w [] L w') {D : List Nat} (hd : ∀ k, k ∈ D → k ∈ L.map (·.1)) : far D := by
  intro k hk
  obtain ⟨p, hp, rfl⟩ := List.mem_map.1 (hd k hk)
  have := lib_size h
  rcases (hs.own p hp).2 with h | h
  · omega
  · exact absurd h List.not_mem_nil
def cutHd (s : ByteArray) : ByteArray := ⟨(Go.Lib.cut s.data.toList [46]).1.toArray⟩
def cutIs (s : ByteArray) : Bool := (Go.Lib.cut s.data.toList [46]).2.2
theorem k124_ (s : ByteArray) (w : World) (hl9 : LibOk w) (hz : s.size ≤ 16) : Calls Tryz.prog 166 #[.string s, .string ⟨#[46]⟩] w fun e w' => e = .returned (.tuple #[.string (cutHd s), .string (cutT s), .bool (cutIs s)]) ∧ St w [] [] w' := by
  obtain ⟨_, ⟨m, hm⟩, _⟩ := hl9
  refine (Tryz.strings_Cut s ⟨#[46]⟩ m w (by omega) hm).mono ?_
  rintro e w' ⟨rfl, n, rfl⟩
  exact ⟨rfl, rfl, rfl, rfl, Nat.le_refl _, fun _ _ _ => rfl, (fun _ h => by cases h), List.nodup_nil⟩
def atoOk (s : ByteArray) : Bool := match Go.Lib.atoiAll s.data.toList with | .ok _ => true | _ => false
def atoV (s : ByteArray) : Int := match Go.Lib.atoiAll s.data.toList with | .ok v => v | _ => 0
theorem cut_size (s : ByteArray) : (cutT s).size ≤ s.size := by
  unfold cutT Go.Lib.cut
  rw [Go.Lib.size_eq, Go.Lib.size_eq]
  split
  · simp
  · simp
theorem k125_ (s : ByteArray) (w : World) (hl9 : LibOk w) (hz : s.size ≤ 16) : Calls Tryz.prog 183 #[.string s] w fun e w' => ∃ N, e = .returned (.tuple #[.int .i64 (atoV s), errOf 236 N (atoOk s)]) ∧ St w [] [] w' := by
  obtain ⟨_, _, ev, h1, h2⟩ := hl9
  have hsh : s.data.toList.length ≤ 18 := by rw [← Go.Lib.size_eq]; omega
  cases h : Go.Lib.atoiAll s.data.toList with
  | ok v =>
    refine (Tryz.strconv_Atoi_ok s (by omega) v h w).mono ?_
    rintro e w' ⟨rfl, hw⟩
    refine ⟨0, ?_, ?_⟩
    · unfold atoV atoOk; rw [h]; rfl
    · rcases hw with rfl | ⟨t, rfl⟩
      · exact St.init _
      · exact St.ofBelow (Go.Lib.bytesWorld_below w _ t)
  | range =>
    rw [Go.Lib.atoiAll_short _ hsh] at h
    revert h
    cases Go.Lib.atoi s.data.toList <;> (intro h; cases h)
  | _ =>
    refine (Tryz.strconv_Atoi_syntax s (by omega) h ev w h1 h2).mono ?_
    rintro e w' ⟨N, rfl, _, _, hb⟩
    refine ⟨N, ?_, St.ofBelow hb⟩
    unfold atoV atoOk; rw [h]; rfl
theorem ato_yes {s : ByteArray} (h : (!atoOk s || !decide (numBA (atoV s) = s)) = false) : textOk s = true ∧ textV s = atoV s := by
  rw [Bool.or_eq_false_iff, Bool.not_eq_false', Bool.not_eq_false', decide_eq_true_eq] at h
  obtain ⟨h1, h2⟩ := h
  cases h3 : Go.Lib.atoiAll s.data.toList with
  | ok v =>
    have e : atoV s = v := by unfold atoV; rw [h3]
    rw [e] at h2 ⊢
    exact atoi_text h3 h2
  | _ => unfold atoOk at h1; rw [h3] at h1; cases h1
theorem ato_no {s : ByteArray} (h : (!atoOk s || !decide (numBA (atoV s) = s)) = true) : textOk s = false := by
  refine atoi_text_n fun v h1 h2 => ?_
  have e : atoV s = v := by unfold atoV; rw [h1]
  have e2 : atoOk s = true := by unfold atoOk; rw [h1]
  rw [e, e2, decide_eq_true h2] at h
  cases h
theorem k126_ (s : ByteArray) (w : World) (hl9 : LibOk w) (hz : s.size ≤ 16) :
    Calls Tryz.prog 167 #[.string s] w fun e w' => e = .returned (.tuple #[.int .i64 (textV s), .bool (textOk s)]) ∧ St w [] [] w' := by
 refine enter 20 Tryz.func167 rfl Tryz.ntmps167 rfl rfl ?_
 have hs1 := St.init w
 refine WC.r1 hs1 [] rfl (WC.sr (WL.r 1 hs1 [] rfl (WL.cl Tryz.call183 rfl (k125_ _ _ ?_ ?_) ?_)))
 iterate 2 first | assumption | omega | exact lib_st hl9 (by assumption) | exact lib_tab hl9 (by assumption)
 rintro _ whs2 ⟨N3, rfl, hs2⟩
 replace hs2 := hs1.callF hs2
 refine ⟨_, rfl, ?_⟩
 rw [List.nil_append] at hs2
 refine WL.r 5 hs2 [] rfl (WL.nil (WC.seq (fun K4 hK4 => WC.sr (WL.r 1 hs2 [] rfl (WL.val rfl rfl rfl (Run.neqI Tryz.underlying199 rfl rfl) (WL.r 1 hs2 [] rfl ?_))))))
 apply WL.gO 4 Acts.nil hs2 rfl
 ·intro g5 J6
  have qg5 := g5
  try simp only [bf, within_iff, within_not] at qg5
  refine WL.runA tbk 1 (Acts.nil.cons (j := 2) rfl g5) hs2 [] rfl trivial (WL.call (wantF rfl g5) rfl rfl (Run.call Tryz.call91 rfl rfl rfl) (k11_ _ _ ?_) ?_)
  · first | assumption | rfl | omega | exact lib_st hl9 (by assumption) | exact lib_tab hl9 (by assumption)
  rintro _ whs7 ⟨rfl, hs7⟩
  replace hs7 := hs2.call0 hs7
  refine ⟨_, rfl, WL.runA tbk 2 (Acts.nil.cons (j := 2) rfl g5) hs7 [] rfl trivial (WL.eO 4 Acts.nil J6 hs7 g5 rfl rfl)⟩
 intro _ hs8
 refine WL.nil (WC.cq rfl (fun h9 qh9 => ?_) (fun h9 qh9 => ?_))
 ·have hk := ato_no (s := s) h9
  refine WC.r1 hs8 [] rfl (WC.ret (tkR ?_))
  clear hK4
  refine retV2 rfl (resV.tmp rfl) (resV.tmp rfl) (⟨congrArg Ending.returned ?_, hs8.nil⟩)
  rw [hk, textV_n hk]
 obtain ⟨hk, hv⟩ := ato_yes (s := s) h9
 refine WC.skip (hK4 _ _ (WC.r1 hs8 [] rfl (WC.ret (retV2 rfl (resV.tmp rfl) (resV.tmp rfl) (⟨congrArg Ending.returned ?_, hs8.nil⟩)))))
 rw [hk, hv]
theorem k127_ (name : ByteArray) (w : World) (hl9 : LibOk w) (hz : name.size ≤ 16) :
    Calls Tryz.prog 114 #[.string name] w fun e w' => e = .returned (.tuple #[.int .i64 (genV name), .bool (genOk name)]) ∧ St w [] [] w' := by
 have hcz := cut_size name
 refine enter 40 Tryz.func114 rfl Tryz.ntmps114 rfl rfl ?_
 have hs1 := St.init w
 refine WC.r1 hs1 [] rfl (WC.sr (WL.r 1 hs1 [] rfl (WL.cl Tryz.call166 rfl (k124_ _ _ ?_ ?_) ?_)))
 iterate 2 first | assumption | omega | exact lib_st hl9 (by assumption) | exact lib_tab hl9 (by assumption)
 rintro _ whs2 ⟨rfl, hs2⟩
 replace hs2 := hs1.call0 hs2
 refine ⟨_, rfl, WL.r 7 hs2 [] rfl (WL.nil (WC.sr (WL.r 1 hs2 [] rfl (WL.cl Tryz.call167 rfl (k126_ _ _ ?_ ?_) ?_))))⟩
 iterate 2 first | assumption | rfl | omega | exact lib_st hl9 (by assumption) | exact lib_tab hl9 (by assumption)
 rintro _ whs3 ⟨rfl, hs3⟩
 replace hs3 := hs2.call0 hs3
 refine ⟨_, rfl, WL.r 5 hs3 [] rfl (WL.nil (WC.seq (fun K4 hK4 => WC.sr (WL.r 3 hs3 [] rfl ?_))))⟩
 apply WL.gO 3 Acts.nil hs3 rfl
 ·intro g5 J6
  have qg5 := g5
  try simp only [bf, within_iff, within_not] at qg5
  refine WL.runA tbk 1 (Acts.nil.cons (j := 2) rfl g5) hs3 [] rfl trivial (WL.call (wantF rfl g5) rfl rfl (Run.call Tryz.call60 rfl rfl rfl) (k14_ _ _) ?_)
  rintro _ whs7 ⟨rfl, hs7⟩
  replace hs7 := hs3.call0 hs7
  refine ⟨_, rfl, WL.runA tbk 1 (Acts.nil.cons (j := 2) rfl g5) hs7 [] rfl trivial (WL.eO 3 Acts.nil J6 hs7 g5 rfl rfl)⟩
 intro _ hs8
 refine WL.r 1 hs8 [] rfl ?_
 apply WL.gO 10 Acts.nil hs8 rfl
 ·intro g9 J10
  have qg9 := g9
  try simp only [bf, within_iff, within_not] at qg9
  refine WL.runA tbk 2 (Acts.nil.cons (j := 7) rfl g9) hs8 [] rfl trivial (WL.call (wantF rfl g9) rfl rfl (Run.call Tryz.call115 rfl rfl rfl) (k16_ _ _ ?_) ?_)
  · first | assumption | rfl | omega | exact lib_st hl9 (by assumption) | exact lib_tab hl9 (by assumption)
  rintro _ whs11 ⟨rfl, hs11⟩
  replace hs11 := hs8.call0 hs11
  refine ⟨_, rfl, WL.runA tbk 2 (Acts.nil.cons (j := 7) rfl g9) hs11 [] rfl trivial ?_⟩
  apply WL.gA 4 (Acts.nil.cons (j := 7) rfl g9) hs11 rfl
  ·intro g12 J13
   have qg12 := g12
   try simp only [bf, within_iff, within_not] at qg12
   refine WL.runA tbk 2 (Acts.nil.cons (j := 12) rfl g12) hs11 [] rfl trivial (WL.call (wantT rfl g12) rfl rfl (Run.call Tryz.call44 rfl rfl rfl) (k15_ _ _ ?_) ?_)
   · first | assumption | rfl | omega | exact lib_st hl9 (by assumption) | exact lib_tab hl9 (by assumption)
   rintro _ whs14 ⟨rfl, hs14⟩
   replace hs14 := hs11.call0 hs14
   refine ⟨_, rfl, WL.runA tbk 1 (Acts.nil.cons (j := 12) rfl g12) hs14 [] rfl trivial (WL.eA 4 (Acts.nil.cons (j := 7) rfl g9) J13 hs14 g12 rfl rfl)⟩
  intro _ hs15
  exact WL.eO 6 Acts.nil J10 hs15 g9 rfl rfl
 intro _ hs16
 refine WL.nil (WC.cq rfl (fun h17 qh17 => ?_) (fun h17 qh17 => ?_))
 ·have hk : genOk name = false := by unfold genOk genB; have h9 := h17; revert h9; unfold snapName logName; cases textOk (cutT name) <;> cases isGenB (textV (cutT name)) <;> cases decide (name = genName snapP (textV (cutT name))) <;> cases decide (name = genName logP (textV (cutT name))) <;> decide
  refine WC.r1 hs16 [] rfl (WC.ret (tkR ?_))
  clear hK4
  refine retV2 rfl (resV.tmp rfl) (resV.tmp rfl) (⟨congrArg Ending.returned ?_, hs16.nil⟩)
  rw [hk]; unfold genV; rw [hk]; rfl
 have hk : genOk name = true := by unfold genOk genB; have h9 := h17; revert h9; unfold snapName logName; cases textOk (cutT name) <;> cases isGenB (textV (cutT name)) <;> cases decide (name = genName snapP (textV (cutT name))) <;> cases decide (name = genName logP (textV (cutT name))) <;> decide
 refine WC.skip (hK4 _ _ (WC.r1 hs16 [] rfl (WC.ret (retV2 rfl (resV.tmp rfl) (resV.tmp rfl) (⟨congrArg Ending.returned ?_, hs16.nil⟩)))))
 rw [hk]; unfold genV; rw [hk]; rfl
theorem k128_ (s : ByteArray) (w : World) (hz : s.size ≤ 16) :
    Calls Tryz.prog 124 #[.string s] w fun e w' => e = .returned (.tuple #[.int .i64 (textV s), .bool (textOk s)]) ∧ St w [] [] w' := by
 refine enter 43 Tryz.func124 rfl Tryz.ntmps124 rfl rfl ?_
 have hs1 := St.init w
 refine WC.r1 hs1 [] rfl (WC.seq (fun K2 hK2 => WC.sr (WL.r 4 hs1 [] rfl (WL.pO tbk 3 Acts.nil hs1 [] rfl rfl rfl rfl (fun g_ => trivial) (WL.nil ?_)))))
 refine WC.cq rfl (fun h3 qh3 => ?_) (fun h3 qh3 => ?_)
 ·have hk : textOk s = false := by unfold textOk; have h9 := h3; rw [(within_not (n := (s.size : Int)) (lo := 1) (hi := 10)).2 (by simp at h9; omega)]; rfl
  refine WC.r1 hs1 [] rfl (WC.ret (tkR ?_))
  clear hK2
  refine retV2 rfl (resV.tmp rfl) (resV.tmp rfl) (⟨congrArg Ending.returned ?_, hs1.nil⟩)
  rw [hk, textV_n hk]
 have hw : 1 ≤ s.size ∧ s.size ≤ 10 := by have h9 := h3; simp at h9; omega
 refine WC.skip (hK2 _ _ (WC.r1 hs1 [] rfl (WC.seq (fun K4 hK4 => WC.r1 hs1 [] rfl (WC.block ?_)))))
 refine WC.lS [0, 13] rfl hs1 (fun k_ f w' => ∃ (i : Nat), k_ = s.size - i ∧ (i ≤ s.size) ∧ ((s.data.toList.take i).all dgB = true) ∧ Sub [(5, .int .i64 i), (4, .int .i64 (decL (s.data.toList.take i) : Nat))] f) ((fun (i : Nat) => s.size - i) (0)) ?_ ?_
 ·refine ⟨0, rfl, ?_, ?_, ⟨rfl, ?_, trivial⟩⟩
  · exact Nat.zero_le _
  · rfl
  · rfl
 clear hs1
 rintro _ f w ⟨i, rfl, p0, p1, hG⟩ hF hs5
 refine WC.sub _ (hG.app hF) ?_
 clear hG hF
 have hdl : decL (s.data.toList.take i) < 10000000000 := decL_small p1 (by rw [List.length_take]; omega)
 refine WC.seq (fun K6 hK6 => WC.r1 hs5 [] rfl ?_)
 refine WC.cq rfl (fun h7 qh7 => ?_) (fun h7 qh7 => ?_)
 ·refine WC.skip (hK6 _ _ (WC.seq (fun K8 hK8 => WC.block (WC.seq (fun K9 hK9 => WC.sr (WL.r 2 hs5 [] rfl ?_))))))
  refine WL.val rfl rfl rfl (Run.idxStrN Tryz.runUnderlying9 rfl rfl rfl ?_ ?_) ?_
  · omega
  · omega
  refine WL.r 2 hs5 [] rfl ?_
  apply WL.gO 4 Acts.nil hs5 rfl
  ·intro g10 J11
   have qg10 := g10
   try simp only [bf, within_iff, within_not] at qg10
   refine WL.runA tbk 2 (Acts.nil.cons (j := 4) rfl g10) hs5 [] rfl trivial (WL.val (wantF rfl g10) rfl rfl (Run.idxStrN Tryz.runUnderlying9 rfl rfl rfl ?_ ?_) ?_)
   · omega
   · omega
   refine WL.runA tbk 1 (Acts.nil.cons (j := 4) rfl g10) hs5 [] rfl trivial (WL.eO 4 Acts.nil J11 hs5 g10 rfl rfl)
  intro _ hs12
  refine WL.nil (WC.cq rfl (fun h13 qh13 => ?_) (fun h13 qh13 => ?_))
  ·have hk : textOk s = false := by
     have hdg : dgB (sbyte s i) = false := dgB_no (by have h9 := h13; simpa using h9)
     unfold textOk; rw [all_no (by omega) hdg, Bool.and_false]; rfl
   refine WC.r1 hs12 [] rfl (WC.ret (tkR (ibR (tkR (tkR (ibR (tkR ?_)))))))
   clear hK9 hK8 hK4
   refine retV2 rfl (resV.tmp rfl) (resV.tmp rfl) (⟨congrArg Ending.returned ?_, hs12.nil⟩)
   rw [hk, textV_n hk]
  have hdg : dgB (sbyte s i) = true := dgB_yes (by have h9 := h13; simpa using h9)
  have hdi := dgB_iff.1 hdg
  have hwr : IntKind.u8.wrap (((sbyte s i).toNat : Int) - 48) = ((sbyte s i).toNat : Int) - 48 := by simp [IntKind.wrap, IntKind.bits, IntKind.signed]; omega
  refine WC.skip (hK9 _ _ (WC.region (WL.r 4 hs12 [] rfl ?_)))
  refine WL.val rfl rfl rfl (Run.idxStrN Tryz.runUnderlying9 rfl rfl rfl ?_ ?_) ?_
  · omega
  · omega
  refine WL.val rfl rfl rfl (Run.subW rfl rfl rfl) (WL.r 3 hs12 [] rfl (WL.nil (hK8 _ _ (WC.region (WL.r 3 hs12 [] rfl (WL.nil (tkN ?_)))))))
  refine ⟨sbF rfl, hs12, _, ?_, i + 1, rfl, ?_, ?_, ⟨rfl, ?_, trivial⟩⟩
  · omega
  · omega
  · rw [all_take (by omega), p1, hdg]; rfl
  · (rw [decL_take (by omega)]; refine congrArg some (congrArg (Value.int _) ?_); have h9 := (dgB_iff.1 hdg); omega)
 refine WC.exit (hK4 _ _ (WC.seq (fun K14 hK14 => WC.sr (WL.r 1 hs5 [] rfl (WL.cl Tryz.call148 rfl (k13_ _ _) ?_)))))
 rintro _ whs15 ⟨rfl, hs15⟩
 replace hs15 := hs5.call0 hs15
 refine ⟨_, rfl, WL.r 2 hs15 [] rfl (WL.nil (WC.cq rfl (fun h16 qh16 => ?_) (fun h16 qh16 => ?_)))⟩
 ·have hi : s.data.toList.take i = s.data.toList := List.take_of_length_le (by rw [← Go.Lib.size_eq]; omega)
  have hk : textOk s = false := by unfold textOk; have h9 := h16; rw [hi] at h9; rw [decide_eq_false (show ¬ numBA (decL s.data.toList : Nat) = s from by simpa using h9), Bool.and_false]
  refine WC.r1 hs15 [] rfl (WC.ret (tkR ?_))
  clear hK14
  refine retV2 rfl (resV.tmp rfl) (resV.tmp rfl) (⟨congrArg Ending.returned ?_, hs15.nil⟩)
  rw [hk, textV_n hk]
 have hi : s.data.toList.take i = s.data.toList := List.take_of_length_le (by rw [← Go.Lib.size_eq]; omega)
 have hk : textOk s = true := by unfold textOk; have h9 := h16; rw [hi] at h9 p1; rw [p1, (within_iff (n := (s.size : Int)) (lo := 1) (hi := 10)).2 (by omega), decide_eq_true (show numBA (decL s.data.toList : Nat) = s from by simpa using h9)]; rfl
 refine WC.skip (hK14 _ _ (WC.r1 hs15 [] rfl (WC.ret (retV2 rfl (resV.tmp rfl) (resV.tmp rfl) (⟨congrArg Ending.returned ?_, hs15.nil⟩)))))
 rw [hk, hi]; unfold textV; rw [hk]; rfl
theorem k129_ (name : ByteArray) (w : World) (hz : name.size ≤ 16) :
    Calls Tryz.prog 70 #[.string name] w fun e w' => e = .returned (.tuple #[.int .i64 (genV name), .bool (genOk name)]) ∧ St w [] [] w' := by
 refine enter 40 Tryz.func70 rfl Tryz.ntmps70 rfl rfl ?_
 have hs1 := St.init w
 refine WC.r1 hs1 [] rfl (WC.seq (fun K2 hK2 => WC.r1 hs1 [] rfl (WC.block ?_)))
 refine WC.lS [0] rfl hs1 (fun k_ f w' => ∃ (i : Nat), k_ = name.size - i ∧ (i ≤ name.size) ∧ (∀ j, j < i → sbyte name j = 46 → genB name (name.extract (j + 1) name.size) = false) ∧ Sub [(4, .int .i64 i)] f) ((fun (i : Nat) => name.size - i) (0)) ?_ ?_
 ·refine ⟨0, rfl, ?_, ?_, ⟨rfl, trivial⟩⟩
  · exact Nat.zero_le _
  · exact fun j hj => absurd hj (by omega)
 clear hs1
 rintro _ f w ⟨i, rfl, p0, p1, hG⟩ hF hs3
 refine WC.sub _ (hG.app hF) ?_
 clear hG hF
 refine WC.seq (fun K4 hK4 => WC.r1 hs3 [] rfl ?_)
 refine WC.cq rfl (fun h5 qh5 => ?_) (fun h5 qh5 => ?_)
 ·refine WC.skip (hK4 _ _ (WC.seq (fun K6 hK6 => WC.block (WC.sr (WL.r 2 hs3 [] rfl ?_)))))
  refine WL.val rfl rfl rfl (Run.idxStrN Tryz.runUnderlying9 rfl rfl rfl ?_ ?_) ?_
  · omega
  · omega
  refine WL.r 1 hs3 [] rfl (WL.nil (WC.cq rfl (fun h7 qh7 => ?_) (fun h7 qh7 => ?_)))
  ·refine WC.sr (WL.r 3 hs3 [] rfl (WL.val rfl rfl rfl (Run.sliceStrL (i + 1) Tryz.runUnderlying9 rfl rfl rfl rfl ?_) ?_))
   · omega
   refine WL.cl Tryz.call124 rfl (k128_ _ _ ?_) ?_
   · first | assumption | rfl | omega | (rw [Go.Lib.size_eq, extract_data, List.length_drop, ← Go.Lib.size_eq]; omega)
   rintro _ whs8 ⟨rfl, hs8⟩
   replace hs8 := hs3.call0 hs8
   refine ⟨_, rfl, WL.r 5 hs8 [] rfl (WL.nil (WC.sr (WL.r 3 hs8 [] rfl ?_)))⟩
   apply WL.gA 10 Acts.nil hs8 rfl
   ·intro g9 J10
    have qg9 := g9
    try simp only [bf, within_iff, within_not] at qg9
    refine WL.runA tbk 1 (Acts.nil.cons (j := 2) rfl g9) hs8 [] rfl trivial (WL.call (wantT rfl g9) rfl rfl (Run.call Tryz.call68 rfl rfl rfl) (k19_ _ _) ?_)
    rintro _ whs11 ⟨rfl, hs11⟩
    replace hs11 := hs8.call0 hs11
    refine ⟨_, rfl, WL.runA tbk 3 (Acts.nil.cons (j := 2) rfl g9) hs11 [] rfl trivial ?_⟩
    apply WL.gO 4 (Acts.nil.cons (j := 2) rfl g9) hs11 rfl
    ·intro g12 J13
     have qg12 := g12
     try simp only [bf, within_iff, within_not] at qg12
     refine WL.runA tbk 1 (Acts.nil.cons (j := 7) rfl g12) hs11 [] rfl trivial (WL.call (wantF rfl g12) rfl rfl (Run.call Tryz.call41 rfl rfl rfl) (k18_ _ _) ?_)
     rintro _ whs14 ⟨rfl, hs14⟩
     replace hs14 := hs11.call0 hs14
     refine ⟨_, rfl, WL.runA tbk 2 (Acts.nil.cons (j := 7) rfl g12) hs14 [] rfl trivial (WL.eO 4 (Acts.nil.cons (j := 2) rfl g9) J13 hs14 g12 rfl rfl)⟩
    intro _ hs15
    exact WL.eA 6 Acts.nil J10 hs15 g9 rfl rfl
   intro _ hs16
   refine WL.nil (WC.cq rfl (fun h17 qh17 => ?_) (fun h17 qh17 => ?_))
   ·have hg := gen_cond_yes (s := name) (t := (name.extract (i + 1) name.size)) (by omega) (by have h9 := h17; unfold snapName logName; simpa using h9)
    obtain ⟨_, hk, hv⟩ := genB_cut hg
    refine WC.r1 hs16 [] rfl (WC.ret (ibR (tkR (tkR (ibR (tkR ?_))))))
    clear hK6 hK2
    refine retV2 rfl (resV.tmp rfl) (resV.tmp rfl) (⟨congrArg Ending.returned ?_, hs16.nil⟩)
    rw [hk, hv]
   have hno : sbyte name i = 46 → genB name (name.extract (i + 1) name.size) = false := fun _ => gen_cond_no (by have h9 := h17; unfold snapName logName; simpa using h9)
   refine WC.skip (hK6 _ _ (WC.region (WL.r 3 hs16 [] rfl (WL.nil (tkN ?_)))))
   refine ⟨sbF rfl, hs16, _, ?_, i + 1, rfl, ?_, ?_, ⟨rfl, trivial⟩⟩
   · omega
   · omega
   · exact step_no p1 hno
  have hno : sbyte name i = 46 → genB name (name.extract (i + 1) name.size) = false := fun h8 => by have h9 := h7; rw [h8] at h9; simp at h9
  refine WC.skip (hK6 _ _ (WC.region (WL.r 3 hs3 [] rfl (WL.nil (tkN ?_)))))
  refine ⟨sbF rfl, hs3, _, ?_, i + 1, rfl, ?_, ?_, ⟨rfl, trivial⟩⟩
  · omega
  · omega
  · exact step_no p1 hno
 refine WC.exit (hK2 _ _ (WC.r1 hs3 [] rfl (WC.ret (retV2 rfl (resV.tmp rfl) (resV.tmp rfl) (⟨congrArg Ending.returned ?_, hs3.nil⟩)))))
 have hk : genOk name = false := gen_none (fun j hj => p1 j (by omega)); rw [hk]; unfold genV; rw [hk]; rfl
theorem k130_ (b_s : Nat) (s : starterR) (L_s : Hp) (g1 : Int) (A_data : Option Addr) (n_data c_data : Nat) (data : List UInt8) (w : World) (hb_s : w.heap[b_s]? = some (Obj.cells (List.toArray [i64 s.depot.Disk.Room, i64 s.depot.Disk.Fuse, i64 s.depot.Disk.Next, .slice s.depot.Disk.Files.A s.depot.Disk.Files.n s.depot.Disk.Files.c, .slice s.depot.Disk.Kept.A s.depot.Disk.Kept.n s.depot.Disk.Kept.c, .slice s.depot.Disk.Turns.A s.depot.Disk.Turns.n s.depot.Disk.Turns.c, i64 s.depot.Gen, i64 s.depot.Seq, i64 s.depot.Size, .bool s.depot.Stuck, i64 s.code]) 109 (0, 0))) (o_s : ownstarterR s L_s) (h_s : Hh w L_s) (f_data : SlF encB w A_data n_data data) (hcd : n_data ≤ c_data) (hd_ : (b_s :: L_s.map (·.1)).Nodup) (s_data : 0 < n_data → (adr A_data).block ∉ (b_s :: L_s.map (·.1))) (hb : totDisk s.dat.depot.Disk ≤ 1048576) (hk : diskOk s.dat.depot.Disk = true) (hl9 : LibOk w) (hfar : far (b_s :: L_s.map (·.1))) (hgn : isGenB g1 = true) (hn : n_data ≤ 400000) :
    Calls Tryz.prog 76 #[.pointer (some ⟨b_s, 0, none⟩), i64 g1, .slice A_data n_data c_data] w fun e w' => ∃ r L1, e = .returned (.tuple #[]) ∧ St w (b_s :: L_s.map (·.1)) ([(b_s, Obj.cells (List.toArray [i64 r.depot.Disk.Room, i64 r.depot.Disk.Fuse, i64 r.depot.Disk.Next, .slice r.depot.Disk.Files.A r.depot.Disk.Files.n r.depot.Disk.Files.c, .slice r.depot.Disk.Kept.A r.depot.Disk.Kept.n r.depot.Disk.Kept.c, .slice r.depot.Disk.Turns.A r.depot.Disk.Turns.n r.depot.Disk.Turns.c, i64 r.depot.Gen, i64 r.depot.Seq, i64 r.depot.Size, .bool r.depot.Stuck, i64 r.code]) 109 (0, 0))] ++ L1) w' ∧ ownstarterR r L1 ∧ r.dat = setS s.dat (tailS (fillS (stp (gone (gone (stp (sd s.dat) opY) tempP) (logName g1)) opY) data) g1) := by
 have hsm := start_sm hb
 have hln9 := f_data.len
 have hdl : data.length ≤ 400000 := by omega
 have hlz := logName_size g1
 have hsz := snapName_size g1
 refine enter 63 Tryz.func76 rfl Tryz.ntmps76 rfl rfl ?_
 have hs1 := St.takeP w b_s _ L_s hb_s h_s hd_
 refine WC.sr (WL.r 1 hs1 [] rfl ?_)
 have hF2 := ((hs1.fr L_s).fb b_s)
 refine WL.cl Tryz.call130 rfl (k122_ _ s _ _ (St.headP hF2) o_s (St.ownP hF2) (St.nodupP hF2) ?_) ?_
 · first | assumption | rfl | omega | decide | exact hb | exact hbr | exact hqr | exact (lib_lent hl9 (by assumption) hfar).1 | exact lib_lent hl9 (by assumption) hfar | exact Nat.le_trans hlz (by decide) | exact Nat.le_trans hsz (by decide) | exact Nat.le_trans hz9 (by decide) | exact hz9 | exact Nat.zero_le _
 rintro _ whs3 ⟨r4, L5, rfl, hs3, ho6, hd7⟩
 replace hs3 := St.lendP hF2 hs3
 refine ⟨_, rfl, ?_⟩
 have hS1 : starterR.dat r4 = setS s.dat (stp (sd s.dat) opY) := hd7.trans (congrArg (a₂ := setS s.dat (sd s.dat)) (fun q => setS q (stp (sd q) opY)) (by exact rfl))
 have hk1 : diskOk (stp (sd s.dat) opY).1 = true := stp_ok hk opY_ok
 have hb1 : totDisk (starterR.dat r4).depot.Disk ≤ 1048576 := by rw [hS1]; exact ok_tot hk1
 have hq1 : diskOk (starterR.dat r4).depot.Disk = true := by rw [hS1]; exact hk1
 refine WL.nil (WC.sr (WL.r 1 hs3 [] rfl ?_))
 have hF8 := ((hs3.fr L5).fb b_s)
 refine WL.cl Tryz.call131 rfl (k121_ _ r4 _ _ _ (St.headP hF8) ho6 (St.ownP hF8) (St.nodupP hF8) ?_ ?_ ?_) ?_
 iterate 3 first | assumption | rfl | omega | decide | exact hb1 | exact hq1 | exact hbr | exact hqr | exact (lib_lent hl9 (by assumption) hfar).1 | exact lib_lent hl9 (by assumption) hfar | exact Nat.le_trans hlz (by decide) | exact Nat.le_trans hsz (by decide) | exact Nat.le_trans hz9 (by decide) | exact hz9 | exact Nat.zero_le _
 rintro _ whs9 ⟨r10, L11, rfl, hs9, ho12, hd13⟩
 replace hs9 := St.lendP hF8 hs9
 refine ⟨_, rfl, ?_⟩
 have hS2 : starterR.dat r10 = setS s.dat (gone (stp (sd s.dat) opY) tempP) := hd13.trans (congrArg (a₂ := setS s.dat (stp (sd s.dat) opY)) (fun q => setS q (gone (sd q) tempP)) (by exact hS1))
 have hk2 : diskOk (gone (stp (sd s.dat) opY) tempP).1 = true := gone_ok hk1 temp_ok
 have hb2 : totDisk (starterR.dat r10).depot.Disk ≤ 1048576 := by rw [hS2]; exact ok_tot hk2
 have hq2 : diskOk (starterR.dat r10).depot.Disk = true := by rw [hS2]; exact hk2
 refine WL.nil (WC.sr (WL.r 2 hs9 [] rfl (WL.cl Tryz.call44 rfl (k15_ _ _ ?_) ?_)))
 · first | assumption | rfl | omega | decide | exact hb2 | exact hq2 | exact hbr | exact hqr | exact (lib_lent hl9 (by assumption) hfar).1 | exact lib_lent hl9 (by assumption) hfar | exact Nat.le_trans hlz (by decide) | exact Nat.le_trans hsz (by decide) | exact Nat.le_trans hz9 (by decide) | exact hz9 | exact Nat.zero_le _
 rintro _ whs14 ⟨rfl, hs14⟩
 replace hs14 := hs9.call0 hs14
 refine ⟨_, rfl, ?_⟩
 have hF15 := ((hs14.fr L11).fb b_s)
 refine WL.cl Tryz.call131 rfl (k121_ _ r10 _ _ _ (St.headP hF15) ho12 (St.ownP hF15) (St.nodupP hF15) ?_ ?_ ?_) ?_
 iterate 3 first | assumption | rfl | omega | decide | exact hb2 | exact hq2 | exact hbr | exact hqr | exact (lib_lent hl9 (by assumption) hfar).1 | exact lib_lent hl9 (by assumption) hfar | exact Nat.le_trans hlz (by decide) | exact Nat.le_trans hsz (by decide) | exact Nat.le_trans hz9 (by decide) | exact hz9 | exact Nat.zero_le _
 rintro _ whs16 ⟨r17, L18, rfl, hs16, ho19, hd20⟩
 replace hs16 := St.lendP hF15 hs16
 refine ⟨_, rfl, ?_⟩
 have hS3 : starterR.dat r17 = setS s.dat (gone (gone (stp (sd s.dat) opY) tempP) (logName g1)) := hd20.trans (congrArg (a₂ := setS s.dat (gone (stp (sd s.dat) opY) tempP)) (fun q => setS q (gone (sd q) (logName g1))) (by exact hS2))
 have hk3 : diskOk (gone (gone (stp (sd s.dat) opY) tempP) (logName g1)).1 = true := gone_ok hk2 (log_ok hgn)
 have hb3 : totDisk (starterR.dat r17).depot.Disk ≤ 1048576 := by rw [hS3]; exact ok_tot hk3
 have hq3 : diskOk (starterR.dat r17).depot.Disk = true := by rw [hS3]; exact hk3
 refine WL.nil (WC.sr (WL.r 1 hs16 [] rfl ?_))
 have hF21 := ((hs16.fr L18).fb b_s)
 refine WL.cl Tryz.call130 rfl (k122_ _ r17 _ _ (St.headP hF21) ho19 (St.ownP hF21) (St.nodupP hF21) ?_) ?_
 · first | assumption | rfl | omega | decide | exact hb3 | exact hq3 | exact hbr | exact hqr | exact (lib_lent hl9 (by assumption) hfar).1 | exact lib_lent hl9 (by assumption) hfar | exact Nat.le_trans hlz (by decide) | exact Nat.le_trans hsz (by decide) | exact Nat.le_trans hz9 (by decide) | exact hz9 | exact Nat.zero_le _
 rintro _ whs22 ⟨r23, L24, rfl, hs22, ho25, hd26⟩
 replace hs22 := St.lendP hF21 hs22
 refine ⟨_, rfl, ?_⟩
 have hS4 : starterR.dat r23 = setS s.dat (stp (gone (gone (stp (sd s.dat) opY) tempP) (logName g1)) opY) := hd26.trans (congrArg (a₂ := setS s.dat (gone (gone (stp (sd s.dat) opY) tempP) (logName g1))) (fun q => setS q (stp (sd q) opY)) (by exact hS3))
 have hk4 : diskOk (stp (gone (gone (stp (sd s.dat) opY) tempP) (logName g1)) opY).1 = true := stp_ok hk3 opY_ok
 have hb4 : totDisk (starterR.dat r23).depot.Disk ≤ 1048576 := by rw [hS4]; exact ok_tot hk4
 have hq4 : diskOk (starterR.dat r23).depot.Disk = true := by rw [hS4]; exact hk4
 refine WL.nil (WC.sr (WL.r 2 hs22 [] rfl ?_))
 have hF27 := ((hs22.fr L24).fb b_s)
 refine WL.cl Tryz.call132 rfl (k123_ _ r23 _ _ _ _ _ _ (St.headP hF27) ho25 (St.ownP hF27) (SlF.st f_data hs22 s_data) (by first | assumption | omega | simp) (St.nodupP hF27) (St.sepTP hF27 f_data s_data) ?_ ?_ ?_) ?_
 iterate 3 first | assumption | rfl | omega | decide | exact hb4 | exact hq4 | exact hbr | exact hqr | exact (lib_lent hl9 (by assumption) hfar).1 | exact lib_lent hl9 (by assumption) hfar | exact Nat.le_trans hlz (by decide) | exact Nat.le_trans hsz (by decide) | exact Nat.le_trans hz9 (by decide) | exact hz9 | exact Nat.zero_le _
 rintro _ whs28 ⟨r29, L30, rfl, hs28, ho31, hd32⟩
 replace hs28 := St.lendP hF27 hs28
 refine ⟨_, rfl, ?_⟩
 have hS5 : starterR.dat r29 = setS s.dat (stp (fillS (stp (gone (gone (stp (sd s.dat) opY) tempP) (logName g1)) opY) data) (syncOp tempP)) := hd32.trans (congrArg (a₂ := setS s.dat (stp (gone (gone (stp (sd s.dat) opY) tempP) (logName g1)) opY)) (fun q => setS q (stp (fillS (sd q) data) (syncOp tempP))) (by exact hS4))
 have hk5 : diskOk (stp (fillS (stp (gone (gone (stp (sd s.dat) opY) tempP) (logName g1)) opY) data) (syncOp tempP)).1 = true := stp_ok (fill_ok hk4 hdl) (opS_ok temp_ok)
 have hb5 : totDisk (starterR.dat r29).depot.Disk ≤ 1048576 := by rw [hS5]; exact ok_tot hk5
 have hq5 : diskOk (starterR.dat r29).depot.Disk = true := by rw [hS5]; exact hk5
 refine WL.nil (WC.sr (WL.r 2 hs28 [] rfl (WL.cl Tryz.call115 rfl (k16_ _ _ ?_) ?_)))
 · first | assumption | rfl | omega | decide | exact hb5 | exact hq5 | exact hbr | exact hqr | exact (lib_lent hl9 (by assumption) hfar).1 | exact lib_lent hl9 (by assumption) hfar | exact Nat.le_trans hlz (by decide) | exact Nat.le_trans hsz (by decide) | exact Nat.le_trans hz9 (by decide) | exact hz9 | exact Nat.zero_le _
 rintro _ whs33 ⟨rfl, hs33⟩
 replace hs33 := hs28.call0 hs33
 refine ⟨_, rfl, ?_⟩
 have hF34 := ((hs33.fr L30).fb b_s)
 refine WL.cl Tryz.call133 rfl (k120_ _ r29 _ _ _ _ _ _ _ _ _ (St.headP hF34) ho31 (St.ownP hF34) (SlF.nil _ _) (by first | assumption | omega | simp) (St.nodupP hF34) (fun h_ => absurd h_ (by omega)) ?_ ?_ ?_ ?_) ?_
 iterate 4 first | assumption | rfl | omega | decide | exact hb5 | exact hq5 | exact hbr | exact hqr | exact (lib_lent hl9 (by assumption) hfar).1 | exact lib_lent hl9 (by assumption) hfar | exact Nat.le_trans hlz (by decide) | exact Nat.le_trans hsz (by decide) | exact Nat.le_trans hz9 (by decide) | exact hz9 | exact Nat.zero_le _
 rintro _ whs35 ⟨r36, L37, rfl, hs35, ho38, hd39⟩
 replace hs35 := St.lendP hF34 hs35
 refine ⟨_, rfl, ?_⟩
 have hS6 : starterR.dat r36 = setS s.dat (stp (stp (fillS (stp (gone (gone (stp (sd s.dat) opY) tempP) (logName g1)) opY) data) (syncOp tempP)) (opM tempP (snapName g1))) := hd39.trans (congrArg (a₂ := setS s.dat (stp (fillS (stp (gone (gone (stp (sd s.dat) opY) tempP) (logName g1)) opY) data) (syncOp tempP))) (fun q => setS q (stp (sd q) (opM tempP (snapName g1)))) (by exact hS5))
 have hk6 : diskOk (stp (stp (fillS (stp (gone (gone (stp (sd s.dat) opY) tempP) (logName g1)) opY) data) (syncOp tempP)) (opM tempP (snapName g1))).1 = true := stp_ok hk5 (opM_ok temp_ok (snap_ok hgn))
 have hb6 : totDisk (starterR.dat r36).depot.Disk ≤ 1048576 := by rw [hS6]; exact ok_tot hk6
 have hq6 : diskOk (starterR.dat r36).depot.Disk = true := by rw [hS6]; exact hk6
 refine WL.nil (WC.sr (WL.r 2 hs35 [] rfl (WL.cl Tryz.call44 rfl (k15_ _ _ ?_) ?_)))
 · first | assumption | rfl | omega | decide | exact hb6 | exact hq6 | exact hbr | exact hqr | exact (lib_lent hl9 (by assumption) hfar).1 | exact lib_lent hl9 (by assumption) hfar | exact Nat.le_trans hlz (by decide) | exact Nat.le_trans hsz (by decide) | exact Nat.le_trans hz9 (by decide) | exact hz9 | exact Nat.zero_le _
 rintro _ whs40 ⟨rfl, hs40⟩
 replace hs40 := hs35.call0 hs40
 refine ⟨_, rfl, ?_⟩
 have hF41 := ((hs40.fr L37).fb b_s)
 refine WL.cl Tryz.call133 rfl (k120_ _ r36 _ _ _ _ _ _ _ _ _ (St.headP hF41) ho38 (St.ownP hF41) (SlF.nil _ _) (by first | assumption | omega | simp) (St.nodupP hF41) (fun h_ => absurd h_ (by omega)) ?_ ?_ ?_ ?_) ?_
 iterate 4 first | assumption | rfl | omega | decide | exact hb6 | exact hq6 | exact hbr | exact hqr | exact (lib_lent hl9 (by assumption) hfar).1 | exact lib_lent hl9 (by assumption) hfar | exact Nat.le_trans hlz (by decide) | exact Nat.le_trans hsz (by decide) | exact Nat.le_trans hz9 (by decide) | exact hz9 | exact Nat.zero_le _
 rintro _ whs42 ⟨r43, L44, rfl, hs42, ho45, hd46⟩
 replace hs42 := St.lendP hF41 hs42
 refine ⟨_, rfl, ?_⟩
 have hS7 : starterR.dat r43 = setS s.dat (stp (stp (stp (fillS (stp (gone (gone (stp (sd s.dat) opY) tempP) (logName g1)) opY) data) (syncOp tempP)) (opM tempP (snapName g1))) (opC (logName g1))) := hd46.trans (congrArg (a₂ := setS s.dat (stp (stp (fillS (stp (gone (gone (stp (sd s.dat) opY) tempP) (logName g1)) opY) data) (syncOp tempP)) (opM tempP (snapName g1)))) (fun q => setS q (stp (sd q) (opC (logName g1)))) (by exact hS6))
 have hk7 : diskOk (stp (stp (stp (fillS (stp (gone (gone (stp (sd s.dat) opY) tempP) (logName g1)) opY) data) (syncOp tempP)) (opM tempP (snapName g1))) (opC (logName g1))).1 = true := stp_ok hk6 (opC_ok (log_ok hgn))
 have hb7 : totDisk (starterR.dat r43).depot.Disk ≤ 1048576 := by rw [hS7]; exact ok_tot hk7
 have hq7 : diskOk (starterR.dat r43).depot.Disk = true := by rw [hS7]; exact hk7
 refine WL.nil (WC.sr (WL.r 1 hs42 [] rfl ?_))
 have hF47 := ((hs42.fr L44).fb b_s)
 refine WL.cl Tryz.call130 rfl (k122_ _ r43 _ _ (St.headP hF47) ho45 (St.ownP hF47) (St.nodupP hF47) ?_) ?_
 · first | assumption | rfl | omega | decide | exact hb7 | exact hq7 | exact hbr | exact hqr | exact (lib_lent hl9 (by assumption) hfar).1 | exact lib_lent hl9 (by assumption) hfar | exact Nat.le_trans hlz (by decide) | exact Nat.le_trans hsz (by decide) | exact Nat.le_trans hz9 (by decide) | exact hz9 | exact Nat.zero_le _
 rintro _ whs48 ⟨r49, L50, rfl, hs48, ho51, hd52⟩
 replace hs48 := St.lendP hF47 hs48
 refine ⟨_, rfl, ?_⟩
 have hS8 : starterR.dat r49 = setS s.dat (stp (stp (stp (stp (fillS (stp (gone (gone (stp (sd s.dat) opY) tempP) (logName g1)) opY) data) (syncOp tempP)) (opM tempP (snapName g1))) (opC (logName g1))) opY) := hd52.trans (congrArg (a₂ := setS s.dat (stp (stp (stp (fillS (stp (gone (gone (stp (sd s.dat) opY) tempP) (logName g1)) opY) data) (syncOp tempP)) (opM tempP (snapName g1))) (opC (logName g1)))) (fun q => setS q (stp (sd q) opY)) (by exact hS7))
 have hk8 : diskOk (stp (stp (stp (stp (fillS (stp (gone (gone (stp (sd s.dat) opY) tempP) (logName g1)) opY) data) (syncOp tempP)) (opM tempP (snapName g1))) (opC (logName g1))) opY).1 = true := stp_ok hk7 opY_ok
 have hb8 : totDisk (starterR.dat r49).depot.Disk ≤ 1048576 := by rw [hS8]; exact ok_tot hk8
 have hq8 : diskOk (starterR.dat r49).depot.Disk = true := by rw [hS8]; exact hk8
 have hT : starterR.dat r49 = setS s.dat (tail1 (fillS (stp (gone (gone (stp (sd s.dat) opY) tempP) (logName g1)) opY) data) g1) := hS8
 have hkT : diskOk (tail1 (fillS (stp (gone (gone (stp (sd s.dat) opY) tempP) (logName g1)) opY) data) g1).1 = true := hk8
 have hDT := diskOk_P hkT
 have eD : (dirD (DiskR.dat (starterR.depot r49).Disk)) = (dirD (tail1 (fillS (stp (gone (gone (stp (sd s.dat) opY) tempP) (logName g1)) opY) data) g1).1) := congrArg (fun q : starterD => dirD q.depot.Disk) hT
 have hdl9 : (dirD (DiskR.dat (starterR.depot r49).Disk)).length ≤ 40 := by rw [eD]; exact Nat.le_trans turnsL_len (by have h9 := hDT.small; omega)
 have hsm9 := start_sm hb8
 rw [hd52] at hsm9
 refine WL.nil (WC.seq (fun K53 hK53 => WC.sr (WL.r 5 hs48 [0] rfl ?_)))
 refine WL.cl Tryz.call134 rfl (k77_ r49.depot.Disk _ (ownstarterR.ok (B := 549755813888) ho51 (hs48.ow L50) (by rw [hd52]; assumption)).depot.Disk ?_) ?_
 · first | assumption | rfl | omega | decide | exact hb8 | exact hq8 | exact hbr | exact hqr | exact (lib_lent hl9 (by assumption) hfar).1 | exact lib_lent hl9 (by assumption) hfar | exact Nat.le_trans hlz (by decide) | exact Nat.le_trans hsz (by decide) | exact Nat.le_trans hz9 (by decide) | exact hz9 | exact Nat.zero_le _
 rintro _ whs54 ⟨A55, c56, L1_57, rfl, hs54, ho58⟩
 replace hs54 := hs48.callF hs54
 refine ⟨_, rfl, ?_⟩
 replace hs54 := St.back [_] hs54
 refine WL.r 2 hs54 [] rfl (WL.nil (WC.block ?_))
 have hM63 := (St.grp1 (L1 := L50) [_] (((hs54.fr L1_57).fr L50).fb b_s))
 refine WC.lV [0, 1, 38, 39] rfl hM63 (fun k_ (a_ : Hp) f => ∃ (i : Nat) (r : starterR) (L61 : Hp), k_ = (dirD (DiskR.dat (starterR.depot r49).Disk)).length - i ∧ a_ = [(b_s, .cells (List.toArray [i64 r.depot.Disk.Room, i64 r.depot.Disk.Fuse, i64 r.depot.Disk.Next, .slice r.depot.Disk.Files.A r.depot.Disk.Files.n r.depot.Disk.Files.c, .slice r.depot.Disk.Kept.A r.depot.Disk.Kept.n r.depot.Disk.Kept.c, .slice r.depot.Disk.Turns.A r.depot.Disk.Turns.n r.depot.Disk.Turns.c, i64 r.depot.Gen, i64 r.depot.Seq, i64 r.depot.Size, .bool r.depot.Stuck, i64 r.code]) 109 (0, 0))] ++ L61 ∧ (i ≤ (dirD (DiskR.dat (starterR.depot r49).Disk)).length) ∧ (starterR.dat r = setS s.dat (sweepS (tail1 (fillS (stp (gone (gone (stp (sd s.dat) opY) tempP) (logName g1)) opY) data) g1) g1 ((dirD (DiskR.dat (starterR.depot r49).Disk)).take i))) ∧ ownstarterR r L61 ∧ Sub [(40, .int .i64 i)] f) (((fun (i : Nat) => (dirD (DiskR.dat (starterR.depot r49).Disk)).length - i) (0))) ?_ ?_
 ·refine ⟨0, r49, L50, rfl, rfl, ?_, ?_, ho51, ⟨rfl, trivial⟩⟩
  · exact Nat.zero_le _
  · exact hT
 rintro _ _ f w ⟨i, r, L61, rfl, rfl, p0, p1, ho62, hG⟩ hF hs64
 refine WC.sub _ (hG.app hF) ?_
 clear hG hF
 replace hs64 := St.ungrp1 [_] hs64
 have hkr : diskOk (sweepS (tail1 (fillS (stp (gone (gone (stp (sd s.dat) opY) tempP) (logName g1)) opY) data) g1) g1 ((dirD (DiskR.dat (starterR.depot r49).Disk)).take i)).1 = true := sweep_ok hkT (fun x hx => hDT.names x (by rw [← eD]; exact List.mem_of_mem_take hx))
 have hbr : totDisk (starterR.dat r).depot.Disk ≤ 1048576 := by rw [p1]; exact ok_tot hkr
 have hqr : diskOk (starterR.dat r).depot.Disk = true := by rw [p1]; exact hkr
 have hsmr := start_sm hbr
 refine WC.r1 hs64 [] rfl (WC.seq (fun K65 hK65 => ?_))
 refine WC.cq rfl (fun h66 qh66 => ?_) (fun h66 qh66 => ?_)
 ·have hi9 : i < (dirD (DiskR.dat (starterR.depot r49).Disk)).length := by have h9 := h66; simp at h9; omega
  have hnm9 : nameOk (gat encLink (dirD (DiskR.dat (starterR.depot r49).Disk)) i).Name = true := hDT.names _ (by rw [← eD]; exact gat_mem hi9)
  have hz9 := nameOk_size hnm9
  refine WC.skip (hK65 _ _ (WC.seq (fun K67 hK67 => WC.block (WC.sr ?_))))
  refine WL.val rfl rfl rfl (Run.idxK (i) Tryz.runUnderlying31 Tryz.sizeOf101 rfl rfl rfl ?_ ?_ ?_) ?_
  · exact SlF.some_ (SlF.ofOwn ho58 (hs64.ow L1_57))
  · omega
  · omega
  refine WL.val rfl rfl rfl (Run.loadA Tryz.isAgg101 Tryz.sizeOf101 rfl rfl (SlF.whole (SlF.ofOwn ho58 (hs64.ow L1_57)) ?_)) ?_
  · omega
  refine WL.al hs64 Tryz.zeroValue101 rfl rfl (fun b68 _ hs69 => WL.st tbk hs69 0 rfl rfl (fun _ hs70 => WL.nil (WC.sr (WL.r 2 hs70 [0] rfl ?_))))
  refine WL.cl Tryz.call114 rfl (k127_ _ _ ?_ ?_) ?_
  iterate 2 first | assumption | rfl | omega | decide | exact hb8 | exact hq8 | exact hbr | exact hqr | exact (lib_lent hl9 (by assumption) hfar).1 | exact lib_lent hl9 (by assumption) hfar | exact Nat.le_trans hlz (by decide) | exact Nat.le_trans hsz (by decide) | exact Nat.le_trans hz9 (by decide) | exact hz9 | exact Nat.zero_le _
  rintro _ whs71 ⟨rfl, hs71⟩
  replace hs71 := hs70.call0 hs71
  refine ⟨_, rfl, WL.r 5 hs71 [] rfl (WL.nil (WC.sr (WL.r 2 hs71 [] rfl (WL.pA tbk 3 Acts.nil hs71 [] rfl rfl rfl rfl (fun g_ => trivial) (WL.nil (WC.cq rfl (fun h72 qh72 => ?_) (fun h72 qh72 => ?_)))))))⟩
  ·have hcx : (genOk (gat encLink (dirD (DiskR.dat (starterR.depot r49).Disk)) i).Name && !decide (genV (gat encLink (dirD (DiskR.dat (starterR.depot r49).Disk)) i).Name = g1)) = true := h72
   refine WC.region (WL.r 3 hs71 [0] rfl ?_)
   have hF73 := ((hs71.fr L61).fb b_s)
   refine WL.cl Tryz.call133 rfl (k120_ _ r _ _ _ _ _ _ _ _ _ (St.headP hF73) ho62 (St.ownP hF73) (SlF.nil _ _) (by first | assumption | omega | simp) (St.nodupP hF73) (fun h_ => absurd h_ (by omega)) ?_ ?_ ?_ ?_) ?_
   iterate 4 first | assumption | rfl | omega | decide | exact hb8 | exact hq8 | exact hbr | exact hqr | exact (lib_lent hl9 (by assumption) hfar).1 | exact lib_lent hl9 (by assumption) hfar | exact Nat.le_trans hlz (by decide) | exact Nat.le_trans hsz (by decide) | exact Nat.le_trans hz9 (by decide) | exact hz9 | exact Nat.zero_le _
   rintro _ whs74 ⟨r75, L76, rfl, hs74, ho77, hd78⟩
   replace hs74 := St.lendP hF73 hs74
   refine ⟨_, rfl, ?_⟩
   have hs79 := ((hs74.fb b68).fb b_s)
   have hnx : starterR.dat r75 = setS s.dat (sweepS (tail1 (fillS (stp (gone (gone (stp (sd s.dat) opY) tempP) (logName g1)) opY) data) g1) g1 ((dirD (DiskR.dat (starterR.depot r49).Disk)).take (i + 1))) := hd78.trans ((congrArg (a₂ := setS s.dat (sweepS (tail1 (fillS (stp (gone (gone (stp (sd s.dat) opY) tempP) (logName g1)) opY) data) g1) g1 ((dirD (DiskR.dat (starterR.depot r49).Disk)).take i))) (fun q => setS q (stp (sd q) (opR (gat encLink (dirD (DiskR.dat (starterR.depot r49).Disk)) i).Name))) (by exact p1)).trans (by rw [sweep_take hi9]; unfold sweep1; rw [if_pos hcx]; rfl))
   refine WL.nil (hK67 _ _ (WC.region (WL.r 2 hs79 [] rfl (WL.nil (tkN ?_)))))
   replace hs79 := (hs79.fb b68).d1
   have hF80 := (St.grp1 (L1 := L76) [_] (((hs79.fr L1_57).fr L76).fb b_s))
   refine ⟨sbF rfl, _, hF80, _, ?_, i + 1, r75, L76, rfl, rfl, ?_, ?_, ho77, ⟨rfl, trivial⟩⟩
   · omega
   · omega
   · exact hnx
  have hcx : ¬ (genOk (gat encLink (dirD (DiskR.dat (starterR.depot r49).Disk)) i).Name && !decide (genV (gat encLink (dirD (DiskR.dat (starterR.depot r49).Disk)) i).Name = g1)) = true := by have h9 := h72; rw [h9]; decide
  have hnx : starterR.dat r = setS s.dat (sweepS (tail1 (fillS (stp (gone (gone (stp (sd s.dat) opY) tempP) (logName g1)) opY) data) g1) g1 ((dirD (DiskR.dat (starterR.depot r49).Disk)).take (i + 1))) := p1.trans (by rw [sweep_take hi9]; unfold sweep1; rw [if_neg hcx])
  refine WC.skip (hK67 _ _ (WC.region (WL.r 2 hs71 [] rfl (WL.nil (tkN ?_)))))
  replace hs71 := hs71.d1
  have hF81 := (St.grp1 (L1 := L61) [_] (((hs71.fr L1_57).fr L61).fb b_s))
  refine ⟨sbF rfl, _, hF81, _, ?_, i + 1, r, L61, rfl, rfl, ?_, ?_, ho62, ⟨rfl, trivial⟩⟩
  · omega
  · omega
  · exact hnx
 refine WC.exit (hK53 _ _ (WC.region (WL.r 1 hs64 [] rfl ?_)))
 have hF82 := ((hs64.fr L61).fb b_s)
 refine WL.cl Tryz.call130 rfl (k122_ _ r _ _ (St.headP hF82) ho62 (St.ownP hF82) (St.nodupP hF82) ?_) ?_
 · first | assumption | rfl | omega | decide | exact hb8 | exact hq8 | exact hbr | exact hqr | exact (lib_lent hl9 (by assumption) hfar).1 | exact lib_lent hl9 (by assumption) hfar | exact Nat.le_trans hlz (by decide) | exact Nat.le_trans hsz (by decide) | exact Nat.le_trans hz9 (by decide) | exact hz9 | exact Nat.zero_le _
 rintro _ whs83 ⟨r84, L85, rfl, hs83, ho86, hd87⟩
 replace hs83 := St.lendP hF82 hs83
 refine ⟨_, rfl, ?_⟩
 have hfin : starterR.dat r84 = setS s.dat (stp (sweepS (tail1 (fillS (stp (gone (gone (stp (sd s.dat) opY) tempP) (logName g1)) opY) data) g1) g1 (dirD (tail1 (fillS (stp (gone (gone (stp (sd s.dat) opY) tempP) (logName g1)) opY) data) g1).1)) opY) := hd87.trans (congrArg (a₂ := setS s.dat (sweepS (tail1 (fillS (stp (gone (gone (stp (sd s.dat) opY) tempP) (logName g1)) opY) data) g1) g1 (dirD (tail1 (fillS (stp (gone (gone (stp (sd s.dat) opY) tempP) (logName g1)) opY) data) g1).1))) (fun q => setS q (stp (sd q) opY)) (by rw [p1, List.take_of_length_le (by omega), eD]))
 refine WL.nil (retK0 rfl (⟨r84, _, rfl, St.keepP (L1 := L85) ((hs83.fr L85).fb b_s), ho86, ?_⟩))
 · exact hfin
theorem built_36_0_1_2 (x0 : Value) (x1 : Value) (x2 : Value) (x3 : Value) (x4 : Value) (x5 : Value) (x6 : Int) (x7 : Int) : Tryz.prog.built 36 [(0, .agg [x0, x1, x2, x3, x4, x5].toArray), (1, .int .i64 x6), (2, .int .i64 x7)] = some (List.toArray [x0, x1, x2, x3, x4, x5, .int .i64 x6, .int .i64 x7, .int .i64 0, .bool false]) := by kernel_rfl
theorem built_109_0 (x0 : Value) (x1 : Value) (x2 : Value) (x3 : Value) (x4 : Value) (x5 : Value) (x6 : Value) (x7 : Value) (x8 : Value) (x9 : Value) : Tryz.prog.built 109 [(0, .agg [x0, x1, x2, x3, x4, x5, x6, x7, x8, x9].toArray)] = some (List.toArray [x0, x1, x2, x3, x4, x5, x6, x7, x8, x9, .int .i64 0]) := by kernel_rfl
theorem k131_ (d : DiskR) (gen : Int) (seq : Int) (A_data : Option Addr) (n_data c_data : Nat) (data : List UInt8) (w : World) (f_d : okDiskR 549755813888 w d) (f_data : SlF encB w A_data n_data data) (hb : totDisk d.dat ≤ 1048576) (hl9 : LibOk w) (hn : n_data ≤ 1048576) :
    Calls Tryz.prog 29 #[.agg #[i64 d.Room, i64 d.Fuse, i64 d.Next, .slice d.Files.A d.Files.n d.Files.c, .slice d.Kept.A d.Kept.n d.Kept.c, .slice d.Turns.A d.Turns.n d.Turns.c], i64 gen, i64 seq, .slice A_data n_data c_data] w fun e w' => ∃ r L1, e = .returned (.tuple #[.agg #[i64 r.Disk.Room, i64 r.Disk.Fuse, i64 r.Disk.Next, .slice r.Disk.Files.A r.Disk.Files.n r.Disk.Files.c, .slice r.Disk.Kept.A r.Disk.Kept.n r.Disk.Kept.c, .slice r.Disk.Turns.A r.Disk.Turns.n r.Disk.Turns.c, i64 r.Gen, i64 r.Seq, i64 r.Size, .bool r.Stuck], .int .i64 (beginC d.dat gen seq data)]) ∧ St w [] L1 w' ∧ ownDepotR r L1 ∧ r.dat = beginD d.dat gen seq data := by
 have nb_d_Files := f_d.Files_n
 have nl_d_Files := f_d.Files.sl.len
 have nb_d_Kept := f_d.Kept_n
 have nl_d_Kept := f_d.Kept.len
 have nb_d_Turns := f_d.Turns_n
 have nl_d_Turns := f_d.Turns.len
 have hsmD : smDisk 1048576 d.dat := totDisk_sm hb
 have hl := f_data.len
 refine enter 62 Tryz.func29 rfl Tryz.ntmps29 rfl rfl ?_
 have hs1 := St.init w
 refine WC.sr (WL.bx hs1 rfl (fun b2 _ hs3 => WL.al hs3 Tryz.zeroValue36 rfl rfl (fun b4 _ hs5 => WL.r 1 hs5 [] rfl (WL.nil (WC.r1 hs5 [] rfl (WC.seq (fun K6 hK6 => WC.sr ?_)))))))
 refine WL.r 1 hs5 [] rfl (WL.cl Tryz.call61 rfl (k3_ _ _ _ _) ?_)
 rintro _ whs7 ⟨rfl, hs7⟩
 replace hs7 := hs5.call0 hs7
 refine ⟨_, rfl, WL.nil (WC.cq rfl (fun h8 qh8 => ?_) (fun h8 qh8 => ?_))⟩
 ·have hw : within gen 0 999999999 = true := h8
  have hw2 := within_iff.1 hw
  refine WC.region (WL.r 4 hs7 [] rfl (WL.cl Tryz.call74 rfl (k118_ _ _ _ _ _ _ _ (SlF.st0 f_data hs7) ?_) ?_))
  · first | assumption | rfl | omega | exact hb | exact hcb | exact hck | exact lib_st hl9 (by assumption) | exact lib_tab hl9 (by assumption) | exact far_of hl9 (by assumption) (fun k_ hk_ => by simp only [List.map_append, List.map_cons, List.map_nil, List.cons_append, List.nil_append, List.append_assoc, List.mem_cons, List.mem_append] at hk_ ⊢; rcases hk_ with h_ | h_ <;> simp [h_])
  rintro _ whs9 ⟨A10, c11, L1_12, rfl, hs9, ho13⟩
  replace hs9 := hs7.callF hs9
  refine ⟨_, rfl, ?_⟩
  replace hs9 := St.back [_, _] hs9
  refine WL.r 5 hs9 [] rfl (WL.nil (hK6 _ _ (WC.seq (fun K14 hK14 => WC.sr (WL.r 3 hs9 [] rfl ?_)))))
  apply WL.gO 3 Acts.nil hs9 rfl
  ·intro g15 J16
   have qg15 := g15
   try simp only [bf, within_iff, within_not] at qg15
   refine WL.runA tbk 1 (Acts.nil.cons (j := 2) rfl g15) hs9 [1] rfl ⟨rfl, trivial⟩ (WL.call (wantF rfl g15) rfl rfl (Run.call Tryz.call56 rfl rfl rfl) (k75_ d _ (okDiskR.st0 f_d hs9) ?_) ?_)
   · first | assumption | rfl | omega | exact hb | exact hcb | exact hck | exact lib_st hl9 (by assumption) | exact lib_tab hl9 (by assumption) | exact far_of hl9 (by assumption) (fun k_ hk_ => by simp only [List.map_append, List.map_cons, List.map_nil, List.cons_append, List.nil_append, List.append_assoc, List.mem_cons, List.mem_append] at hk_ ⊢; rcases hk_ with h_ | h_ <;> simp [h_])
   rintro _ whs17 ⟨rfl, hs17⟩
   replace hs17 := hs9.call0 hs17
   refine ⟨_, rfl, WL.runA tbk 1 (Acts.nil.cons (j := 2) rfl g15) hs17 [] rfl trivial (WL.eO 3 Acts.nil J16 hs17 g15 rfl rfl)⟩
  intro _ hs18
  refine WL.nil (WC.cq rfl (fun h19 qh19 => ?_) (fun h19 qh19 => ?_))
  ·have hk : beginOk d.dat gen seq data = false := by first | assumption | (unfold beginOk; have h9 := h19; revert h9; cases snapOk (gen + 1) seq data <;> cases diskOk d.dat <;> simp)
   obtain ⟨hdn, hc⟩ := begin_bad hk
   refine WC.sr ?_
   refine WL.val rfl rfl rfl (Run.build rfl rfl rfl rfl (built_36)) (WL.st tbk hs18 0 rfl rfl (fun _ hs20 => WL.r 1 hs20 [] rfl (WL.nil (WC.ret (tkR ?_)))))
   clear hK14
   refine retV2 rfl (resV.cellA tbk hs20 0 rfl rfl rfl rfl) (resV.tmp rfl) ?_
   obtain ⟨L25, hs24, ho26⟩ := ownDepotR.fl hs20 (OwnN.nil _ _ _) (OwnF.nil _ _) (OwnF.nil _ _)
   have hs27 := ((hs24.fb b2).fb b4)
   refine ⟨⟨⟨0, 0, 0, ⟨none, 0, 0, []⟩, ⟨none, 0, 0, []⟩, ⟨none, 0, 0, []⟩⟩, 0, 0, 0, false⟩, _, (by rw [hc]; first | done | rfl | rw [← hRc]), (St.keep1 (hs27.fr L25)), ?_, ?_⟩
   · exact (by exact ho26)
   · rw [hdn]; rfl
  have hsk : snapOk (gen + 1) seq data = true ∧ diskOk d.dat = true := by have h9 := h19; revert h9; cases snapOk (gen + 1) seq data <;> cases diskOk d.dat <;> simp
  obtain ⟨hsn, hok⟩ := hsk
  have hk : beginOk d.dat gen seq data = true := by unfold beginOk; rw [hok, hw, hsn]; rfl
  obtain ⟨hdn, hc⟩ := begin_do hk
  obtain ⟨hgn, hg1, hg2, hg3⟩ := snapOk_P hsn
  have hsl : (snapOut (gen + 1) seq data).length ≤ 400000 := by rw [snapOut_y hsn]; have h9 := snapL_len hsn; omega
  refine WC.skip (hK14 _ _ (WC.sr (WL.r 1 hs18 [1] rfl ?_)))
  refine WL.cl Tryz.call75 rfl (k85_ d _ (okDiskR.st0 f_d hs18) ?_) ?_
  · first | assumption | rfl | omega | exact hb | exact hcb | exact hck | exact lib_st hl9 (by assumption) | exact lib_tab hl9 (by assumption) | exact far_of hl9 (by assumption) (fun k_ hk_ => by simp only [List.map_append, List.map_cons, List.map_nil, List.cons_append, List.nil_append, List.append_assoc, List.mem_cons, List.mem_append] at hk_ ⊢; rcases hk_ with h_ | h_ <;> simp [h_])
  rintro _ whs28 ⟨r29, L1_30, rfl, hs28, ho31, hd32⟩
  replace hs28 := hs18.callF hs28
  refine ⟨_, rfl, ?_⟩
  replace hs28 := St.back [_, _] hs28
  have hcp := hd32
  have hcb : totDisk (DiskR.dat r29) ≤ 1048576 := by rw [hcp]; exact hb
  have hck : diskOk (DiskR.dat r29) = true := by rw [hcp]; exact hok
  refine WL.r 2 hs28 [] rfl ?_
  refine WL.val rfl rfl rfl (Run.build rfl rfl rfl rfl (built_36_0_1_2 _ _ _ _ _ _ _ _)) ?_
  refine WL.val rfl rfl rfl (Run.build rfl rfl rfl rfl (built_109_0 _ _ _ _ _ _ _ _ _ _)) (WL.bx hs28 rfl (fun b33 _ hs34 => WL.r 1 hs34 [] rfl (WL.nil (WC.seq (fun K35 hK35 => WC.sr (WL.r 4 hs34 [] rfl ?_))))))
  obtain ⟨L36, L37, L38, hs42, ho39, ho40, ho41⟩ := ownDiskR.op hs34 ho31
  have hs43 := (((hs42.fb b2).fb b4).fb b33)
  obtain ⟨L45, hs44, ho46⟩ := ownstarterR.fl hs43 ho39 ho40 ho41
  have hs47 := (((hs44.fb b2).fb b4).fb b33)
  have hF48 := ((hs47.fr L45).fb b33)
  refine WL.cl Tryz.call76 rfl (k130_ _ ⟨⟨⟨r29.Room, r29.Fuse, r29.Next, SlD.ofN ho39, SlD.of ho40, SlD.of ho41⟩, gen, seq, 0, false⟩, 0⟩ _ _ _ _ _ _ _ (St.headP hF48) (by exact ho46) (St.ownP hF48) (SlF.ofOwn ho13 (hs47.ow L1_12)) (OwnF.cap ho13) (St.nodupP hF48) (OwnF.sep (L1 := (_, _) :: _) hF48 (fun p_ hp_ => (List.mem_append_right [_, _] (List.mem_append_left _ hp_))) ho13) ?_ ?_ ?_ ?_ ?_ ?_) ?_
  iterate 6 first | assumption | rfl | omega | exact hb | exact hcb | exact hck | exact lib_st hl9 (by assumption) | exact lib_tab hl9 (by assumption) | exact far_of hl9 (by assumption) (fun k_ hk_ => by simp only [List.map_append, List.map_cons, List.map_nil, List.cons_append, List.nil_append, List.append_assoc, List.mem_cons, List.mem_append] at hk_ ⊢; rcases hk_ with h_ | h_ <;> simp [h_])
  rintro _ whs49 ⟨r50, L51, rfl, hs49, ho52, hd53⟩
  replace hs49 := St.lendP hF48 hs49
  refine ⟨_, rfl, ?_⟩
  have hs54 := (((hs49.fb b2).fb b4).fb b33)
  have hR : starterR.dat r50 = (⟨⟨(beginP d.dat gen seq data).1, gen, seq, 0, false⟩, (beginP d.dat gen seq data).2⟩ : starterD) := hd53.trans ((congrArg (a₂ := (⟨⟨d.dat, gen, seq, 0, false⟩, 0⟩ : starterD)) (fun q => setS q (tailS (fillS (stp (gone (gone (stp (sd q) opY) tempP) (logName (gen + 1))) opY) (snapOut (gen + 1) seq data)) (gen + 1))) (by exact starterD.ext' (DepotD.ext' hcp rfl rfl rfl rfl) rfl)).trans (by rw [snapOut_y hsn]; rfl))
  have hRc : r50.code = (beginP d.dat gen seq data).2 := congrArg starterD.code hR
  have hRd := congrArg starterD.depot hR
  have hRD := congrArg DepotD.Disk hRd
  have hRs := congrArg DepotD.Seq hRd
  have hRz := congrArg DepotD.Size hRd
  have hRt := congrArg DepotD.Stuck hRd
  have hRg := congrArg DepotD.Gen hRd
  refine WL.nil (WC.r1 hs54 [0] rfl (WC.cq rfl (fun h55 qh55 => ?_) (fun h55 qh55 => ?_)))
  ·have h0 : (beginP d.dat gen seq data).2 = 0 := hRc.symm.trans (of_decide_eq_true h55)
   refine WC.region (WL.r 6 hs54 [] rfl (WL.st tbk hs54 0 rfl rfl (fun _ hs56 => WL.nil (hK35 _ _ (WC.seq (fun K57 hK57 => WC.rG 8 (hs56.fb b4).d1 hs56 hs56 (fun _ hs58 => ?_)))))))
   refine WG.rn [0, 1, 2, 3, 4, 5, 6] hs58 [0] rfl rfl (WG.all [7, 8] (by kernel_rfl) rfl (WGs.cons (i := 7) rfl rfl ?_ (WGs.consK rfl ?_ WGs.nil)))
   ·refine WL.r 1 hs58 [0] rfl (WL.nil ⟨hs58, WG.oK rfl (WL.st tbk hs58 1 rfl rfl (fun _ hs59 => WL.nil ⟨(hs59.fb b4).d1, WH.rn [9] (hs59.fb b4).d1 [] rfl rfl (WH.dn (hK57 _ _ ?_))⟩))⟩)
    refine WC.ret (retV2 rfl (resV.cellA tbk hs59 1 rfl rfl rfl rfl) (resV.tmp rfl) ?_)
    obtain ⟨L60, L61, L62, hs66, ho63, ho64, ho65⟩ := ownstarterR.op hs59 ho52
    have hs67 := (((hs66.fb b2).fb b4).fb b33)
    obtain ⟨L69, hs68, ho70⟩ := ownDepotR.fl hs67 ho63 ho64 ho65
    have hs71 := (((hs68.fb b2).fb b4).fb b33)
    refine ⟨⟨⟨r50.depot.Disk.Room, r50.depot.Disk.Fuse, r50.depot.Disk.Next, SlD.ofN ho63, SlD.of ho64, SlD.of ho65⟩, (gen + (1)), r50.depot.Seq, r50.depot.Size, r50.depot.Stuck⟩, _, (by rw [hc]; first | done | rfl | rw [← hRc]), (St.keep1 (hs71.fr L69)), ?_, ?_⟩
    · exact (by exact ho70)
    · rw [hdn]; exact DepotD.ext' hRD (if_pos h0).symm hRs hRz hRt
   refine WL.st tbk hs58 1 rfl rfl (fun _ hs72 => WL.nil ⟨(hs72.fb b4).d1, WH.rn [7, 9] (hs72.fb b4).d1 [0] rfl rfl (WH.dn (hK57 _ _ (WC.ret (retV2 rfl (resV.cellA tbk hs72 1 rfl rfl rfl rfl) (resV.tmp rfl) ?_))))⟩)
   obtain ⟨L73, L74, L75, hs79, ho76, ho77, ho78⟩ := ownstarterR.op hs72 ho52
   have hs80 := (((hs79.fb b2).fb b4).fb b33)
   obtain ⟨L82, hs81, ho83⟩ := ownDepotR.fl hs80 ho76 ho77 ho78
   have hs84 := (((hs81.fb b2).fb b4).fb b33)
   refine ⟨⟨⟨r50.depot.Disk.Room, r50.depot.Disk.Fuse, r50.depot.Disk.Next, SlD.ofN ho76, SlD.of ho77, SlD.of ho78⟩, (gen + (1)), r50.depot.Seq, r50.depot.Size, r50.depot.Stuck⟩, _, (by rw [hc]; first | done | rfl | rw [← hRc]), (St.keep1 (hs84.fr L82)), ?_, ?_⟩
   · exact (by exact ho83)
   · rw [hdn]; exact DepotD.ext' hRD (if_pos h0).symm hRs hRz hRt
  have h0 : ¬ (beginP d.dat gen seq data).2 = 0 := fun h9 => (of_decide_eq_false h55) (hRc.trans h9)
  refine WC.skip (hK35 _ _ (WC.seq (fun K85 hK85 => WC.rG 8 (hs54.fb b4).d1 hs54 hs54 (fun _ hs86 => ?_))))
  refine WG.rn [0, 1, 2, 3, 4, 5, 6] hs86 [0] rfl rfl (WG.all [7, 8] (by kernel_rfl) rfl (WGs.cons (i := 7) rfl rfl ?_ (WGs.consK rfl ?_ WGs.nil)))
  ·refine WL.r 1 hs86 [0] rfl (WL.nil ⟨hs86, WG.oK rfl (WL.st tbk hs86 1 rfl rfl (fun _ hs87 => WL.nil ⟨(hs87.fb b4).d1, WH.rn [9] (hs87.fb b4).d1 [] rfl rfl (WH.dn (hK85 _ _ ?_))⟩))⟩)
   refine WC.ret (retV2 rfl (resV.cellA tbk hs87 1 rfl rfl rfl rfl) (resV.tmp rfl) ?_)
   obtain ⟨L88, L89, L90, hs94, ho91, ho92, ho93⟩ := ownstarterR.op hs87 ho52
   have hs95 := (((hs94.fb b2).fb b4).fb b33)
   obtain ⟨L97, hs96, ho98⟩ := ownDepotR.fl hs95 ho91 ho92 ho93
   have hs99 := (((hs96.fb b2).fb b4).fb b33)
   refine ⟨⟨⟨r50.depot.Disk.Room, r50.depot.Disk.Fuse, r50.depot.Disk.Next, SlD.ofN ho91, SlD.of ho92, SlD.of ho93⟩, r50.depot.Gen, r50.depot.Seq, r50.depot.Size, r50.depot.Stuck⟩, _, (by rw [hc]; first | done | rfl | rw [← hRc]), (St.keep1 (hs99.fr L97)), ?_, ?_⟩
   · exact (by exact ho98)
   · rw [hdn]; exact DepotD.ext' hRD (hRg.trans (if_neg h0).symm) hRs hRz hRt
  refine WL.st tbk hs86 1 rfl rfl (fun _ hs100 => WL.nil ⟨(hs100.fb b4).d1, WH.rn [7, 9] (hs100.fb b4).d1 [0] rfl rfl (WH.dn (hK85 _ _ (WC.ret (retV2 rfl (resV.cellA tbk hs100 1 rfl rfl rfl rfl) (resV.tmp rfl) ?_))))⟩)
  obtain ⟨L101, L102, L103, hs107, ho104, ho105, ho106⟩ := ownstarterR.op hs100 ho52
  have hs108 := (((hs107.fb b2).fb b4).fb b33)
  obtain ⟨L110, hs109, ho111⟩ := ownDepotR.fl hs108 ho104 ho105 ho106
  have hs112 := (((hs109.fb b2).fb b4).fb b33)
  refine ⟨⟨⟨r50.depot.Disk.Room, r50.depot.Disk.Fuse, r50.depot.Disk.Next, SlD.ofN ho104, SlD.of ho105, SlD.of ho106⟩, r50.depot.Gen, r50.depot.Seq, r50.depot.Size, r50.depot.Stuck⟩, _, (by rw [hc]; first | done | rfl | rw [← hRc]), (St.keep1 (hs112.fr L110)), ?_, ?_⟩
  · exact (by exact ho111)
  · rw [hdn]; exact DepotD.ext' hRD (hRg.trans (if_neg h0).symm) hRs hRz hRt
 have hw : within gen 0 999999999 = false := h8
 have hk : beginOk d.dat gen seq data = false := by unfold beginOk; rw [hw, Bool.and_false]; rfl
 obtain ⟨hdn, hc⟩ := begin_bad hk
 refine WC.skip (hK6 _ _ (WC.seq (fun K113 hK113 => WC.sr (WL.r 3 hs7 [] rfl ?_))))
 apply WL.gO 3 Acts.nil hs7 rfl
 ·intro g114 J115
  have qg114 := g114
  try simp only [bf, within_iff, within_not] at qg114
  refine WL.runA tbk 1 (Acts.nil.cons (j := 2) rfl g114) hs7 [1] rfl ⟨rfl, trivial⟩ (WL.call (wantF rfl g114) rfl rfl (Run.call Tryz.call56 rfl rfl rfl) (k75_ d _ (okDiskR.st0 f_d hs7) ?_) ?_)
  · first | assumption | rfl | omega | exact hb | exact hcb | exact hck | exact lib_st hl9 (by assumption) | exact lib_tab hl9 (by assumption) | exact far_of hl9 (by assumption) (fun k_ hk_ => by simp only [List.map_append, List.map_cons, List.map_nil, List.cons_append, List.nil_append, List.append_assoc, List.mem_cons, List.mem_append] at hk_ ⊢; rcases hk_ with h_ | h_ <;> simp [h_])
  rintro _ whs116 ⟨rfl, hs116⟩
  replace hs116 := hs7.call0 hs116
  refine ⟨_, rfl, WL.runA tbk 1 (Acts.nil.cons (j := 2) rfl g114) hs116 [] rfl trivial (WL.eO 3 Acts.nil J115 hs116 g114 rfl rfl)⟩
 intro _ hs117
 refine WL.nil (WC.condT rfl (by simp) (WC.sr ?_))
 refine WL.val rfl rfl rfl (Run.build rfl rfl rfl rfl (built_36)) (WL.st tbk hs117 0 rfl rfl (fun _ hs119 => WL.r 1 hs119 [] rfl (WL.nil (WC.ret (tkR ?_)))))
 clear hK113
 refine retV2 rfl (resV.cellA tbk hs119 0 rfl rfl rfl rfl) (resV.tmp rfl) ?_
 obtain ⟨L124, hs123, ho125⟩ := ownDepotR.fl hs119 (OwnN.nil _ _ _) (OwnF.nil _ _) (OwnF.nil _ _)
 have hs126 := ((hs123.fb b2).fb b4)
 refine ⟨⟨⟨0, 0, 0, ⟨none, 0, 0, []⟩, ⟨none, 0, 0, []⟩, ⟨none, 0, 0, []⟩⟩, 0, 0, 0, false⟩, _, (by rw [hc]; first | done | rfl | rw [← hRc]), (St.keep1 (hs126.fr L124)), ?_, ?_⟩
 · exact (by exact ho125)
 · rw [hdn]; rfl
theorem built_75_0_1_3 (x0 : Int) (x1 : ByteArray) (x2 : Option Addr) (x3 : Nat) (x4 : Nat) : Tryz.prog.built 75 [(0, .int .i64 x0), (1, .string x1), (3, .slice x2 x3 x4)] = some (List.toArray [.int .i64 x0, .string x1, .string ⟨#[]⟩, .slice x2 x3 x4]) := by kernel_rfl
theorem built_75_0 (x0 : Int) : Tryz.prog.built 75 [(0, .int .i64 x0)] = some (List.toArray [.int .i64 x0, .string ⟨#[]⟩, .string ⟨#[]⟩, .slice none 0 0]) := by kernel_rfl
theorem built_75_0_1_2 (x0 : Int) (x1 : ByteArray) (x2 : ByteArray) : Tryz.prog.built 75 [(0, .int .i64 x0), (1, .string x1), (2, .string x2)] = some (List.toArray [.int .i64 x0, .string x1, .string x2, .slice none 0 0]) := by kernel_rfl
set_option maxHeartbeats 16000000 in
theorem k132_ (d : DiskR) (gen : Int) (seq : Int) (A_data : Option Addr) (n_data c_data : Nat) (data : List UInt8) (w : World) (f_d : okDiskR 549755813888 w d) (f_data : SlF encB w A_data n_data data) (hb : totDisk d.dat ≤ 1048576) (hn : n_data ≤ 1048576) :
    Calls Tryz.prog 27 #[.agg #[i64 d.Room, i64 d.Fuse, i64 d.Next, .slice d.Files.A d.Files.n d.Files.c, .slice d.Kept.A d.Kept.n d.Kept.c, .slice d.Turns.A d.Turns.n d.Turns.c], i64 gen, i64 seq, .slice A_data n_data c_data] w fun e w' => ∃ r L1, e = .returned (.tuple #[.agg #[i64 r.Disk.Room, i64 r.Disk.Fuse, i64 r.Disk.Next, .slice r.Disk.Files.A r.Disk.Files.n r.Disk.Files.c, .slice r.Disk.Kept.A r.Disk.Kept.n r.Disk.Kept.c, .slice r.Disk.Turns.A r.Disk.Turns.n r.Disk.Turns.c, i64 r.Gen, i64 r.Seq, i64 r.Size, .bool r.Stuck], .int .i64 (beginC d.dat gen seq data)]) ∧ St w [] L1 w' ∧ ownDepotR r L1 ∧ r.dat = beginD d.dat gen seq data := by
 have nb_d_Files := f_d.Files_n
 have nl_d_Files := f_d.Files.sl.len
 have nb_d_Kept := f_d.Kept_n
 have nl_d_Kept := f_d.Kept.len
 have nb_d_Turns := f_d.Turns_n
 have nl_d_Turns := f_d.Turns.len
 have hsmD : smDisk 1048576 d.dat := totDisk_sm hb
 have hsmB : smDisk 549755813888 d.dat := totDisk_sm (by omega)
 have hl := f_data.len
 refine enter 155 Tryz.func27 rfl Tryz.ntmps27 rfl rfl ?_
 have hs1 := St.init w
 refine WC.sr (WL.bx hs1 rfl (fun b2 _ hs3 => WL.al hs3 Tryz.zeroValue36 rfl rfl (fun b4 _ hs5 => WL.r 1 hs5 [] rfl (WL.nil (WC.seq (fun K6 hK6 => WC.sr (WL.r 1 hs5 [1] rfl ?_)))))))
 refine WL.cl Tryz.call52 rfl (k56_ d _ (okDiskR.st0 f_d hs5) ?_) ?_
 · first | assumption | rfl | omega | decide | exact hb | exact hbr | exact hqr | exact hsmr | exact hsm9 | exact Nat.le_trans hlz (by decide) | exact Nat.le_trans hsz (by decide) | exact Nat.le_trans hz9 (by decide) | exact hz9 | exact Nat.zero_le _
 rintro _ whs7 ⟨rfl, hs7⟩
 replace hs7 := hs5.call0 hs7
 refine ⟨_, rfl, WL.r 2 hs7 [] rfl (WL.pO tbk 2 Acts.nil hs7 [] rfl rfl rfl rfl (fun g_ => trivial) (WL.r 1 hs7 [] rfl (WL.pO tbk 2 Acts.nil hs7 [] rfl rfl rfl rfl (fun g_ => trivial) (WL.nil (WC.cq rfl (fun h8 qh8 => ?_) (fun h8 qh8 => ?_))))))⟩
 ·have hk : beginOk d.dat gen seq data = false := by unfold beginOk; have h9 := h8; revert h9; cases diskOk d.dat <;> simp [within] <;> omega
  obtain ⟨hdn, hc⟩ := begin_bad hk
  refine WC.sr ?_
  refine WL.val rfl rfl rfl (Run.build rfl rfl rfl rfl (built_36)) (WL.st tbk hs7 0 rfl rfl (fun _ hs9 => WL.r 1 hs9 [] rfl (WL.nil (WC.ret (tkR ?_)))))
  clear hK6
  refine retV2 rfl (resV.cellA tbk hs9 0 rfl rfl rfl rfl) (resV.tmp rfl) ?_
  obtain ⟨L14, hs13, ho15⟩ := ownDepotR.fl hs9 (OwnN.nil _ _ _) (OwnF.nil _ _) (OwnF.nil _ _)
  have hs16 := ((hs13.fb b2).fb b4)
  refine ⟨⟨⟨0, 0, 0, ⟨none, 0, 0, []⟩, ⟨none, 0, 0, []⟩, ⟨none, 0, 0, []⟩⟩, 0, 0, 0, false⟩, _, (by rw [hc]; first | done | rfl | (rw [hP, ← hvf]; first | done | rfl) | (rw [hP]; done)), (St.keep1 (hs16.fr L14)), ?_, ?_⟩
  · exact (by exact ho15)
  · rw [hdn]; rfl
 have hw : diskOk d.dat = true ∧ within gen 0 999999999 = true := by have h9 := h8; revert h9; cases diskOk d.dat <;> simp [within] <;> omega
 obtain ⟨hok, hw⟩ := hw
 have hw2 := within_iff.1 hw
 refine WC.skip (hK6 _ _ (WC.sr (WL.r 4 hs7 [] rfl ?_)))
 refine WL.cl Tryz.call65 rfl (k119_ _ _ _ _ _ _ _ (SlF.st0 f_data hs7) ?_) ?_
 · first | assumption | rfl | omega | decide | exact hb | exact hbr | exact hqr | exact hsmr | exact hsm9 | exact Nat.le_trans hlz (by decide) | exact Nat.le_trans hsz (by decide) | exact Nat.le_trans hz9 (by decide) | exact hz9 | exact Nat.zero_le _
 rintro _ whs17 ⟨A18, c19, L1_20, rfl, hs17, ho21⟩
 replace hs17 := hs7.callF hs17
 refine ⟨_, rfl, ?_⟩
 replace hs17 := St.back [_, _] hs17
 refine WL.r 5 hs17 [] rfl (WL.nil (WC.seq (fun K22 hK22 => WC.r1 hs17 [] rfl ?_)))
 refine WC.cq rfl (fun h23 qh23 => ?_) (fun h23 qh23 => ?_)
 ·have hsn : snapOk (gen + 1) seq data = false := by have h9 := h23; simpa using h9
  have hk : beginOk d.dat gen seq data = false := by unfold beginOk; rw [hsn, Bool.and_false]
  obtain ⟨hdn, hc⟩ := begin_bad hk
  refine WC.sr ?_
  refine WL.val rfl rfl rfl (Run.build rfl rfl rfl rfl (built_36)) (WL.st tbk hs17 0 rfl rfl (fun _ hs24 => WL.r 1 hs24 [] rfl (WL.nil (WC.ret (tkR ?_)))))
  clear hK22
  refine retV2 rfl (resV.cellA tbk hs24 0 rfl rfl rfl rfl) (resV.tmp rfl) ?_
  obtain ⟨L29, hs28, ho30⟩ := ownDepotR.fl hs24 (OwnN.nil _ _ _) (OwnF.nil _ _) (OwnF.nil _ _)
  have hs31 := ((hs28.fb b2).fb b4)
  refine ⟨⟨⟨0, 0, 0, ⟨none, 0, 0, []⟩, ⟨none, 0, 0, []⟩, ⟨none, 0, 0, []⟩⟩, 0, 0, 0, false⟩, _, (by rw [hc]; first | done | rfl | (rw [hP, ← hvf]; first | done | rfl) | (rw [hP]; done)), (St.keep1 (hs31.fr L29)), ?_, ?_⟩
  · exact (by exact ho30)
  · rw [hdn]; rfl
 have hsn : snapOk (gen + 1) seq data = true := by have h9 := h23; simpa using h9
 have hk : beginOk d.dat gen seq data = true := by unfold beginOk; rw [hok, hw, hsn]; rfl
 obtain ⟨hdn, hc⟩ := begin_do hk
 obtain ⟨hgn, hg1, hg2, hg3⟩ := snapOk_P hsn
 have hsl : (snapOut (gen + 1) seq data).length ≤ 400000 := by rw [snapOut_y hsn]; have h9 := snapL_len hsn; omega
 have hlz := logName_size (gen + 1)
 have hsz := snapName_size (gen + 1)
 refine WC.skip (hK22 _ _ (WC.sr (WL.r 1 hs17 [1] rfl ?_)))
 refine WL.cl Tryz.call66 rfl (k89_ d _ (okDiskR.st0 f_d hs17) ?_) ?_
 · first | assumption | rfl | omega | decide | exact hb | exact hbr | exact hqr | exact hsmr | exact hsm9 | exact Nat.le_trans hlz (by decide) | exact Nat.le_trans hsz (by decide) | exact Nat.le_trans hz9 (by decide) | exact hz9 | exact Nat.zero_le _
 rintro _ whs32 ⟨r33, L1_34, rfl, hs32, ho35, hd36⟩
 replace hs32 := hs17.callF hs32
 refine ⟨_, rfl, ?_⟩
 replace hs32 := St.back [_, _] hs32
 have hcp := hd36
 have hcb : totDisk (DiskR.dat r33) ≤ 1048576 := by rw [hcp]; exact hb
 have hck : diskOk (DiskR.dat r33) = true := by rw [hcp]; exact hok
 have hcs := dep_sm (q := (⟨DiskR.dat r33, gen, seq, 0, false⟩ : DepotD)) hcb
 refine WL.r 2 hs32 [] rfl ?_
 refine WL.val rfl rfl rfl (Run.build rfl rfl rfl rfl (built_36_0_1_2 _ _ _ _ _ _ _ _)) (WL.bx hs32 rfl (fun b37 _ hs38 => WL.r 1 hs38 [] rfl (WL.nil (WC.sr ?_))))
 refine WL.val rfl rfl rfl (Run.build rfl rfl rfl rfl (built_75_0 _)) (WL.al hs38 Tryz.zeroValue75 rfl rfl (fun b39 _ hs40 => WL.st tbk hs40 0 rfl rfl (fun _ hs41 => WL.nil (WC.sr (WL.r 2 hs41 [0] rfl ?_)))))
 obtain ⟨L42, L43, L44, hs48, ho45, ho46, ho47⟩ := ownDiskR.op hs41 ho35
 have hs49 := ((((hs48.fb b2).fb b4).fb b37).fb b39)
 obtain ⟨L51, hs50, ho52⟩ := ownDepotR.fl hs49 ho45 ho46 ho47
 have hs53 := ((((hs50.fb b2).fb b4).fb b37).fb b39)
 have hF54 := ((hs53.fr L51).fb b37)
 refine WL.cl Tryz.call40 rfl (k108_ _ ⟨⟨r33.Room, r33.Fuse, r33.Next, SlD.ofN ho45, SlD.of ho46, SlD.of ho47⟩, gen, seq, 0, false⟩ _ _ _ _ _ _ _ _ _ _ (St.headP hF54) (by exact ho52) (St.ownP hF54) (SlF.nil _ _) (by first | assumption | omega | simp) (St.nodupP hF54) (fun h_ => absurd h_ (by omega)) ?_ ?_ ?_ ?_ ?_) ?_
 iterate 5 first | assumption | rfl | omega | decide | exact hcb | exact hcs | exact hck | exact hbr | exact hqr | exact hsmr | exact hsm9 | exact Nat.le_trans hlz (by decide) | exact Nat.le_trans hsz (by decide) | exact Nat.le_trans hz9 (by decide) | exact hz9 | exact Nat.zero_le _
 rintro _ whs55 ⟨cc60, r56, L57, rfl, hs55, ho58, hd59, hcc61⟩
 replace hs55 := St.lendP hF54 hs55
 refine ⟨_, rfl, ?_⟩
 have hs62 := ((((hs55.fb b2).fb b4).fb b39).fb b37)
 have hS1 : DepotR.dat r56 = setP (⟨d.dat, gen, seq, 0, false⟩ : DepotD) (stp ((d.dat, 0) : SD) opY) := hd59.trans ((congrArg (a₂ := setP (⟨d.dat, gen, seq, 0, false⟩ : DepotD) ((d.dat, 0) : SD)) (fun q => setP q (stp ((q.Disk, 0) : SD) opY)) (by exact (DepotD.ext' hcp rfl rfl rfl rfl))).trans (congrArg (a₁ := ((((d.dat, 0) : SD).1, 0) : SD)) (a₂ := ((d.dat, 0) : SD)) (fun s => setP (⟨d.dat, gen, seq, 0, false⟩ : DepotD) (stp s opY)) (Prod.ext rfl rfl)))
 have hv1 : cc60 = (stp ((d.dat, 0) : SD) opY).2 := hcc61.trans (congrArg (a₁ := (((DiskR.dat r33), 0) : SD)) (a₂ := ((d.dat, 0) : SD)) (fun s => (stp s opY).2) (Prod.ext hcp rfl))
 have hk1 : diskOk (stp ((d.dat, 0) : SD) opY).1 = true := stp_ok hok opY_ok
 have hb1 : totDisk (DepotR.dat r56).Disk ≤ 1048576 := by rw [hS1]; exact ok_tot hk1
 have hq1 : diskOk (DepotR.dat r56).Disk = true := by rw [hS1]; exact hk1
 have hs1_ := dep_sm hb1
 refine WL.r 1 hs62 [] rfl (WL.nil (WC.sr (WL.r 2 hs62 [] rfl ?_)))
 have hF63 := ((hs62.fr L57).fb b37)
 refine WL.cl Tryz.call67 rfl (k109_ _ r56 _ _ _ _ (St.headP hF63) ho58 (St.ownP hF63) (St.nodupP hF63) ?_ ?_ ?_) ?_
 iterate 3 first | assumption | rfl | omega | decide | exact hb1 | exact hq1 | exact hs1_ | exact hbr | exact hqr | exact hsmr | exact hsm9 | exact Nat.le_trans hlz (by decide) | exact Nat.le_trans hsz (by decide) | exact Nat.le_trans hz9 (by decide) | exact hz9 | exact Nat.zero_le _
 rintro _ whs64 ⟨cc69, r65, L66, rfl, hs64, ho67, hd68, hcc70⟩
 replace hs64 := St.lendP hF63 hs64
 refine ⟨_, rfl, ?_⟩
 have hs71 := ((((hs64.fb b2).fb b4).fb b39).fb b37)
 have hS2 : DepotR.dat r65 = setP (⟨d.dat, gen, seq, 0, false⟩ : DepotD) (gone (stp ((d.dat, 0) : SD) opY) tempP) := hd68.trans ((congrArg (a₂ := setP (⟨d.dat, gen, seq, 0, false⟩ : DepotD) (stp ((d.dat, 0) : SD) opY)) (fun q => setP q (gone ((q.Disk, cc60) : SD) tempP)) (by exact hS1)).trans (congrArg (a₁ := (((stp ((d.dat, 0) : SD) opY).1, cc60) : SD)) (a₂ := (stp ((d.dat, 0) : SD) opY)) (fun s => setP (⟨d.dat, gen, seq, 0, false⟩ : DepotD) (gone s tempP)) (Prod.ext rfl hv1)))
 have hv2 : cc69 = (gone (stp ((d.dat, 0) : SD) opY) tempP).2 := hcc70.trans (congrArg (a₁ := (((DepotR.dat r56).Disk, cc60) : SD)) (a₂ := (stp ((d.dat, 0) : SD) opY)) (fun s => (gone s tempP).2) (Prod.ext (congrArg DepotD.Disk hS1) hv1))
 have hk2 : diskOk (gone (stp ((d.dat, 0) : SD) opY) tempP).1 = true := gone_ok hk1 temp_ok
 have hb2 : totDisk (DepotR.dat r65).Disk ≤ 1048576 := by rw [hS2]; exact ok_tot hk2
 have hq2 : diskOk (DepotR.dat r65).Disk = true := by rw [hS2]; exact hk2
 have hs2_ := dep_sm hb2
 refine WL.r 1 hs71 [] rfl (WL.nil (WC.sr (WL.r 4 hs71 [] rfl (WL.cl Tryz.call41 rfl (k18_ _ _) ?_))))
 rintro _ whs72 ⟨rfl, hs72⟩
 replace hs72 := hs71.call0 hs72
 refine ⟨_, rfl, ?_⟩
 have hF73 := ((hs72.fr L66).fb b37)
 refine WL.cl Tryz.call67 rfl (k109_ _ r65 _ _ _ _ (St.headP hF73) ho67 (St.ownP hF73) (St.nodupP hF73) ?_ ?_ ?_) ?_
 iterate 3 first | assumption | rfl | omega | decide | exact hb2 | exact hq2 | exact hs2_ | exact hbr | exact hqr | exact hsmr | exact hsm9 | exact Nat.le_trans hlz (by decide) | exact Nat.le_trans hsz (by decide) | exact Nat.le_trans hz9 (by decide) | exact hz9 | exact Nat.zero_le _
 rintro _ whs74 ⟨cc79, r75, L76, rfl, hs74, ho77, hd78, hcc80⟩
 replace hs74 := St.lendP hF73 hs74
 refine ⟨_, rfl, ?_⟩
 have hs81 := ((((hs74.fb b2).fb b4).fb b39).fb b37)
 have hS3 : DepotR.dat r75 = setP (⟨d.dat, gen, seq, 0, false⟩ : DepotD) (gone (gone (stp ((d.dat, 0) : SD) opY) tempP) (logName (gen + 1))) := hd78.trans ((congrArg (a₂ := setP (⟨d.dat, gen, seq, 0, false⟩ : DepotD) (gone (stp ((d.dat, 0) : SD) opY) tempP)) (fun q => setP q (gone ((q.Disk, cc69) : SD) (logName (gen + 1)))) (by exact hS2)).trans (congrArg (a₁ := (((gone (stp ((d.dat, 0) : SD) opY) tempP).1, cc69) : SD)) (a₂ := (gone (stp ((d.dat, 0) : SD) opY) tempP)) (fun s => setP (⟨d.dat, gen, seq, 0, false⟩ : DepotD) (gone s (logName (gen + 1)))) (Prod.ext rfl hv2)))
 have hv3 : cc79 = (gone (gone (stp ((d.dat, 0) : SD) opY) tempP) (logName (gen + 1))).2 := hcc80.trans (congrArg (a₁ := (((DepotR.dat r65).Disk, cc69) : SD)) (a₂ := (gone (stp ((d.dat, 0) : SD) opY) tempP)) (fun s => (gone s (logName (gen + 1))).2) (Prod.ext (congrArg DepotD.Disk hS2) hv2))
 have hk3 : diskOk (gone (gone (stp ((d.dat, 0) : SD) opY) tempP) (logName (gen + 1))).1 = true := gone_ok hk2 (log_ok hgn)
 have hb3 : totDisk (DepotR.dat r75).Disk ≤ 1048576 := by rw [hS3]; exact ok_tot hk3
 have hq3 : diskOk (DepotR.dat r75).Disk = true := by rw [hS3]; exact hk3
 have hs3_ := dep_sm hb3
 refine WL.r 1 hs81 [] rfl (WL.nil (WC.sr (WL.r 3 hs81 [1] rfl ?_)))
 have hF82 := ((hs81.fr L76).fb b37)
 refine WL.cl Tryz.call40 rfl (k108_ _ r75 _ _ _ _ _ _ _ _ _ _ (St.headP hF82) ho77 (St.ownP hF82) (SlF.nil _ _) (by first | assumption | omega | simp) (St.nodupP hF82) (fun h_ => absurd h_ (by omega)) ?_ ?_ ?_ ?_ ?_) ?_
 iterate 5 first | assumption | rfl | omega | decide | exact hb3 | exact hq3 | exact hs3_ | exact hbr | exact hqr | exact hsmr | exact hsm9 | exact Nat.le_trans hlz (by decide) | exact Nat.le_trans hsz (by decide) | exact Nat.le_trans hz9 (by decide) | exact hz9 | exact Nat.zero_le _
 rintro _ whs83 ⟨cc88, r84, L85, rfl, hs83, ho86, hd87, hcc89⟩
 replace hs83 := St.lendP hF82 hs83
 refine ⟨_, rfl, ?_⟩
 have hs90 := ((((hs83.fb b2).fb b4).fb b39).fb b37)
 have hS4 : DepotR.dat r84 = setP (⟨d.dat, gen, seq, 0, false⟩ : DepotD) (stp (gone (gone (stp ((d.dat, 0) : SD) opY) tempP) (logName (gen + 1))) opY) := hd87.trans ((congrArg (a₂ := setP (⟨d.dat, gen, seq, 0, false⟩ : DepotD) (gone (gone (stp ((d.dat, 0) : SD) opY) tempP) (logName (gen + 1)))) (fun q => setP q (stp ((q.Disk, cc79) : SD) opY)) (by exact hS3)).trans (congrArg (a₁ := (((gone (gone (stp ((d.dat, 0) : SD) opY) tempP) (logName (gen + 1))).1, cc79) : SD)) (a₂ := (gone (gone (stp ((d.dat, 0) : SD) opY) tempP) (logName (gen + 1)))) (fun s => setP (⟨d.dat, gen, seq, 0, false⟩ : DepotD) (stp s opY)) (Prod.ext rfl hv3)))
 have hv4 : cc88 = (stp (gone (gone (stp ((d.dat, 0) : SD) opY) tempP) (logName (gen + 1))) opY).2 := hcc89.trans (congrArg (a₁ := (((DepotR.dat r75).Disk, cc79) : SD)) (a₂ := (gone (gone (stp ((d.dat, 0) : SD) opY) tempP) (logName (gen + 1)))) (fun s => (stp s opY).2) (Prod.ext (congrArg DepotD.Disk hS3) hv3))
 have hk4 : diskOk (stp (gone (gone (stp ((d.dat, 0) : SD) opY) tempP) (logName (gen + 1))) opY).1 = true := stp_ok hk3 opY_ok
 have hb4 : totDisk (DepotR.dat r84).Disk ≤ 1048576 := by rw [hS4]; exact ok_tot hk4
 have hq4 : diskOk (DepotR.dat r84).Disk = true := by rw [hS4]; exact hk4
 have hs4_ := dep_sm hb4
 refine WL.r 1 hs90 [] rfl (WL.nil (WC.sr (WL.r 2 hs90 [] rfl ?_)))
 refine WL.val rfl rfl rfl (Run.build rfl rfl rfl rfl (built_75_0_1 _ _)) ?_
 have hF91 := ((hs90.fr L85).fb b37)
 refine WL.cl Tryz.call40 rfl (k108_ _ r84 _ _ _ _ _ _ _ _ _ _ (St.headP hF91) ho86 (St.ownP hF91) (SlF.nil _ _) (by first | assumption | omega | simp) (St.nodupP hF91) (fun h_ => absurd h_ (by omega)) ?_ ?_ ?_ ?_ ?_) ?_
 iterate 5 first | assumption | rfl | omega | decide | exact hb4 | exact hq4 | exact hs4_ | exact hbr | exact hqr | exact hsmr | exact hsm9 | exact Nat.le_trans hlz (by decide) | exact Nat.le_trans hsz (by decide) | exact Nat.le_trans hz9 (by decide) | exact hz9 | exact Nat.zero_le _
 rintro _ whs92 ⟨cc97, r93, L94, rfl, hs92, ho95, hd96, hcc98⟩
 replace hs92 := St.lendP hF91 hs92
 refine ⟨_, rfl, ?_⟩
 have hs99 := ((((hs92.fb b2).fb b4).fb b39).fb b37)
 have hS5 : DepotR.dat r93 = setP (⟨d.dat, gen, seq, 0, false⟩ : DepotD) (stp (stp (gone (gone (stp ((d.dat, 0) : SD) opY) tempP) (logName (gen + 1))) opY) (opC tempP)) := hd96.trans ((congrArg (a₂ := setP (⟨d.dat, gen, seq, 0, false⟩ : DepotD) (stp (gone (gone (stp ((d.dat, 0) : SD) opY) tempP) (logName (gen + 1))) opY)) (fun q => setP q (stp ((q.Disk, cc88) : SD) (opC tempP))) (by exact hS4)).trans (congrArg (a₁ := (((stp (gone (gone (stp ((d.dat, 0) : SD) opY) tempP) (logName (gen + 1))) opY).1, cc88) : SD)) (a₂ := (stp (gone (gone (stp ((d.dat, 0) : SD) opY) tempP) (logName (gen + 1))) opY)) (fun s => setP (⟨d.dat, gen, seq, 0, false⟩ : DepotD) (stp s (opC tempP))) (Prod.ext rfl hv4)))
 have hv5 : cc97 = (stp (stp (gone (gone (stp ((d.dat, 0) : SD) opY) tempP) (logName (gen + 1))) opY) (opC tempP)).2 := hcc98.trans (congrArg (a₁ := (((DepotR.dat r84).Disk, cc88) : SD)) (a₂ := (stp (gone (gone (stp ((d.dat, 0) : SD) opY) tempP) (logName (gen + 1))) opY)) (fun s => (stp s (opC tempP)).2) (Prod.ext (congrArg DepotD.Disk hS4) hv4))
 have hk5 : diskOk (stp (stp (gone (gone (stp ((d.dat, 0) : SD) opY) tempP) (logName (gen + 1))) opY) (opC tempP)).1 = true := stp_ok hk4 (opC_ok temp_ok)
 have hb5 : totDisk (DepotR.dat r93).Disk ≤ 1048576 := by rw [hS5]; exact ok_tot hk5
 have hq5 : diskOk (DepotR.dat r93).Disk = true := by rw [hS5]; exact hk5
 have hs5_ := dep_sm hb5
 refine WL.r 1 hs99 [] rfl (WL.nil (WC.sr (WL.r 3 hs99 [] rfl ?_)))
 refine WL.val rfl rfl rfl (Run.build rfl rfl rfl rfl (built_75_0_1_3 _ _ _ _ _)) ?_
 have hF100 := ((hs99.fr L94).fb b37)
 refine WL.cl Tryz.call40 rfl (k108_ _ r93 _ _ _ _ _ _ _ _ _ _ (St.headP hF100) ho95 (St.ownP hF100) (SlF.ofOwn ho21 (hs99.ow L1_20)) (OwnF.cap ho21) (St.nodupP hF100) (OwnF.sep (L1 := (_, _) :: _) hF100 (fun p_ hp_ => (List.mem_append_right [_, _, _] (List.mem_append_left _ hp_))) ho21) ?_ ?_ ?_ ?_ ?_) ?_
 iterate 5 first | assumption | rfl | omega | decide | exact hb5 | exact hq5 | exact hs5_ | exact hbr | exact hqr | exact hsmr | exact hsm9 | exact Nat.le_trans hlz (by decide) | exact Nat.le_trans hsz (by decide) | exact Nat.le_trans hz9 (by decide) | exact hz9 | exact Nat.zero_le _
 rintro _ whs101 ⟨cc106, r102, L103, rfl, hs101, ho104, hd105, hcc107⟩
 replace hs101 := St.lendP hF100 hs101
 refine ⟨_, rfl, ?_⟩
 have hs108 := ((((hs101.fb b2).fb b4).fb b39).fb b37)
 have hS6 : DepotR.dat r102 = setP (⟨d.dat, gen, seq, 0, false⟩ : DepotD) (stp (stp (stp (gone (gone (stp ((d.dat, 0) : SD) opY) tempP) (logName (gen + 1))) opY) (opC tempP)) (opA tempP (snapOut (gen + 1) seq data))) := hd105.trans ((congrArg (a₂ := setP (⟨d.dat, gen, seq, 0, false⟩ : DepotD) (stp (stp (gone (gone (stp ((d.dat, 0) : SD) opY) tempP) (logName (gen + 1))) opY) (opC tempP))) (fun q => setP q (stp ((q.Disk, cc97) : SD) (opA tempP (snapOut (gen + 1) seq data)))) (by exact hS5)).trans (congrArg (a₁ := (((stp (stp (gone (gone (stp ((d.dat, 0) : SD) opY) tempP) (logName (gen + 1))) opY) (opC tempP)).1, cc97) : SD)) (a₂ := (stp (stp (gone (gone (stp ((d.dat, 0) : SD) opY) tempP) (logName (gen + 1))) opY) (opC tempP))) (fun s => setP (⟨d.dat, gen, seq, 0, false⟩ : DepotD) (stp s (opA tempP (snapOut (gen + 1) seq data)))) (Prod.ext rfl hv5)))
 have hv6 : cc106 = (stp (stp (stp (gone (gone (stp ((d.dat, 0) : SD) opY) tempP) (logName (gen + 1))) opY) (opC tempP)) (opA tempP (snapOut (gen + 1) seq data))).2 := hcc107.trans (congrArg (a₁ := (((DepotR.dat r93).Disk, cc97) : SD)) (a₂ := (stp (stp (gone (gone (stp ((d.dat, 0) : SD) opY) tempP) (logName (gen + 1))) opY) (opC tempP))) (fun s => (stp s (opA tempP (snapOut (gen + 1) seq data))).2) (Prod.ext (congrArg DepotD.Disk hS5) hv5))
 have hk6 : diskOk (stp (stp (stp (gone (gone (stp ((d.dat, 0) : SD) opY) tempP) (logName (gen + 1))) opY) (opC tempP)) (opA tempP (snapOut (gen + 1) seq data))).1 = true := stp_ok hk5 (opA_ok temp_ok hsl)
 have hb6 : totDisk (DepotR.dat r102).Disk ≤ 1048576 := by rw [hS6]; exact ok_tot hk6
 have hq6 : diskOk (DepotR.dat r102).Disk = true := by rw [hS6]; exact hk6
 have hs6_ := dep_sm hb6
 refine WL.r 1 hs108 [] rfl (WL.nil (WC.seq (fun K109 hK109 => WC.r1 hs108 [] rfl ?_)))
 refine WC.cq rfl (fun h110 qh110 => ?_) (fun h110 qh110 => ?_)
 ·have h5 : (fill1 (head1 d.dat (gen + 1)) (snapOut (gen + 1) seq data)).2 = 5 := hv6.symm.trans (of_decide_eq_true h110)
  refine WC.sr (WL.r 1 hs108 [] rfl ?_)
  refine WL.val rfl rfl rfl (Run.build rfl rfl rfl rfl (built_75_0_1 _ _)) ?_
  have hF111 := ((hs108.fr L103).fb b37)
  refine WL.cl Tryz.call40 rfl (k108_ _ r102 _ _ _ _ _ _ _ _ _ _ (St.headP hF111) ho104 (St.ownP hF111) (SlF.nil _ _) (by first | assumption | omega | simp) (St.nodupP hF111) (fun h_ => absurd h_ (by omega)) ?_ ?_ ?_ ?_ ?_) ?_
  iterate 5 first | assumption | rfl | omega | decide | exact hb6 | exact hq6 | exact hs6_ | exact hbr | exact hqr | exact hsmr | exact hsm9 | exact Nat.le_trans hlz (by decide) | exact Nat.le_trans hsz (by decide) | exact Nat.le_trans hz9 (by decide) | exact hz9 | exact Nat.zero_le _
  rintro _ whs112 ⟨cc117, r113, L114, rfl, hs112, ho115, hd116, hcc118⟩
  replace hs112 := St.lendP hF111 hs112
  refine ⟨_, rfl, ?_⟩
  have hs119 := ((((hs112.fb b2).fb b4).fb b39).fb b37)
  have hS7 : DepotR.dat r113 = setP (⟨d.dat, gen, seq, 0, false⟩ : DepotD) (stp (((stp (stp (stp (gone (gone (stp ((d.dat, 0) : SD) opY) tempP) (logName (gen + 1))) opY) (opC tempP)) (opA tempP (snapOut (gen + 1) seq data))).1, 0) : SD) (opR tempP)) := hd116.trans ((congrArg (a₂ := setP (⟨d.dat, gen, seq, 0, false⟩ : DepotD) (((stp (stp (stp (gone (gone (stp ((d.dat, 0) : SD) opY) tempP) (logName (gen + 1))) opY) (opC tempP)) (opA tempP (snapOut (gen + 1) seq data))).1, 0) : SD)) (fun q => setP q (stp ((q.Disk, 0) : SD) (opR tempP))) (by exact hS6)).trans (congrArg (a₁ := (((((stp (stp (stp (gone (gone (stp ((d.dat, 0) : SD) opY) tempP) (logName (gen + 1))) opY) (opC tempP)) (opA tempP (snapOut (gen + 1) seq data))).1, 0) : SD).1, 0) : SD)) (a₂ := (((stp (stp (stp (gone (gone (stp ((d.dat, 0) : SD) opY) tempP) (logName (gen + 1))) opY) (opC tempP)) (opA tempP (snapOut (gen + 1) seq data))).1, 0) : SD)) (fun s => setP (⟨d.dat, gen, seq, 0, false⟩ : DepotD) (stp s (opR tempP))) (Prod.ext rfl rfl)))
  have hv7 : cc117 = (stp (((stp (stp (stp (gone (gone (stp ((d.dat, 0) : SD) opY) tempP) (logName (gen + 1))) opY) (opC tempP)) (opA tempP (snapOut (gen + 1) seq data))).1, 0) : SD) (opR tempP)).2 := hcc118.trans (congrArg (a₁ := (((DepotR.dat r102).Disk, 0) : SD)) (a₂ := (((stp (stp (stp (gone (gone (stp ((d.dat, 0) : SD) opY) tempP) (logName (gen + 1))) opY) (opC tempP)) (opA tempP (snapOut (gen + 1) seq data))).1, 0) : SD)) (fun s => (stp s (opR tempP)).2) (Prod.ext (congrArg DepotD.Disk hS6) rfl))
  have hk7 : diskOk (stp (((stp (stp (stp (gone (gone (stp ((d.dat, 0) : SD) opY) tempP) (logName (gen + 1))) opY) (opC tempP)) (opA tempP (snapOut (gen + 1) seq data))).1, 0) : SD) (opR tempP)).1 = true := stp_ok hk6 (opR_ok temp_ok)
  have hb7 : totDisk (DepotR.dat r113).Disk ≤ 1048576 := by rw [hS7]; exact ok_tot hk7
  have hq7 : diskOk (DepotR.dat r113).Disk = true := by rw [hS7]; exact hk7
  have hs7_ := dep_sm hb7
  refine WL.r 1 hs119 [] rfl (WL.nil (WC.sr (WL.r 3 hs119 [1] rfl ?_)))
  have hF120 := ((hs119.fr L114).fb b37)
  refine WL.cl Tryz.call40 rfl (k108_ _ r113 _ _ _ _ _ _ _ _ _ _ (St.headP hF120) ho115 (St.ownP hF120) (SlF.nil _ _) (by first | assumption | omega | simp) (St.nodupP hF120) (fun h_ => absurd h_ (by omega)) ?_ ?_ ?_ ?_ ?_) ?_
  iterate 5 first | assumption | rfl | omega | decide | exact hb7 | exact hq7 | exact hs7_ | exact hbr | exact hqr | exact hsmr | exact hsm9 | exact Nat.le_trans hlz (by decide) | exact Nat.le_trans hsz (by decide) | exact Nat.le_trans hz9 (by decide) | exact hz9 | exact Nat.zero_le _
  rintro _ whs121 ⟨cc126, r122, L123, rfl, hs121, ho124, hd125, hcc127⟩
  replace hs121 := St.lendP hF120 hs121
  refine ⟨_, rfl, ?_⟩
  have hs128 := ((((hs121.fb b2).fb b4).fb b39).fb b37)
  have hS8 : DepotR.dat r122 = setP (⟨d.dat, gen, seq, 0, false⟩ : DepotD) (stp (stp (((stp (stp (stp (gone (gone (stp ((d.dat, 0) : SD) opY) tempP) (logName (gen + 1))) opY) (opC tempP)) (opA tempP (snapOut (gen + 1) seq data))).1, 0) : SD) (opR tempP)) opY) := hd125.trans ((congrArg (a₂ := setP (⟨d.dat, gen, seq, 0, false⟩ : DepotD) (stp (((stp (stp (stp (gone (gone (stp ((d.dat, 0) : SD) opY) tempP) (logName (gen + 1))) opY) (opC tempP)) (opA tempP (snapOut (gen + 1) seq data))).1, 0) : SD) (opR tempP))) (fun q => setP q (stp ((q.Disk, cc117) : SD) opY)) (by exact hS7)).trans (congrArg (a₁ := (((stp (((stp (stp (stp (gone (gone (stp ((d.dat, 0) : SD) opY) tempP) (logName (gen + 1))) opY) (opC tempP)) (opA tempP (snapOut (gen + 1) seq data))).1, 0) : SD) (opR tempP)).1, cc117) : SD)) (a₂ := (stp (((stp (stp (stp (gone (gone (stp ((d.dat, 0) : SD) opY) tempP) (logName (gen + 1))) opY) (opC tempP)) (opA tempP (snapOut (gen + 1) seq data))).1, 0) : SD) (opR tempP))) (fun s => setP (⟨d.dat, gen, seq, 0, false⟩ : DepotD) (stp s opY)) (Prod.ext rfl hv7)))
  have hv8 : cc126 = (stp (stp (((stp (stp (stp (gone (gone (stp ((d.dat, 0) : SD) opY) tempP) (logName (gen + 1))) opY) (opC tempP)) (opA tempP (snapOut (gen + 1) seq data))).1, 0) : SD) (opR tempP)) opY).2 := hcc127.trans (congrArg (a₁ := (((DepotR.dat r113).Disk, cc117) : SD)) (a₂ := (stp (((stp (stp (stp (gone (gone (stp ((d.dat, 0) : SD) opY) tempP) (logName (gen + 1))) opY) (opC tempP)) (opA tempP (snapOut (gen + 1) seq data))).1, 0) : SD) (opR tempP))) (fun s => (stp s opY).2) (Prod.ext (congrArg DepotD.Disk hS7) hv7))
  have hk8 : diskOk (stp (stp (((stp (stp (stp (gone (gone (stp ((d.dat, 0) : SD) opY) tempP) (logName (gen + 1))) opY) (opC tempP)) (opA tempP (snapOut (gen + 1) seq data))).1, 0) : SD) (opR tempP)) opY).1 = true := stp_ok hk7 opY_ok
  have hb8 : totDisk (DepotR.dat r122).Disk ≤ 1048576 := by rw [hS8]; exact ok_tot hk8
  have hq8 : diskOk (DepotR.dat r122).Disk = true := by rw [hS8]; exact hk8
  have hs8_ := dep_sm hb8
  refine WL.r 1 hs128 [] rfl (WL.nil (WC.seq (fun K129 hK129 => WC.r1 hs128 [] rfl ?_)))
  refine WC.cq rfl (fun h130 qh130 => ?_) (fun h130 qh130 => ?_)
  ·have h0 : (stp (stp (((stp (stp (stp (gone (gone (stp ((d.dat, 0) : SD) opY) tempP) (logName (gen + 1))) opY) (opC tempP)) (opA tempP (snapOut (gen + 1) seq data))).1, 0) : SD) (opR tempP)) opY).2 = 0 := hv8.symm.trans (of_decide_eq_true h130)
   have hP : (beginP d.dat gen seq data) = ((stp (stp (((stp (stp (stp (gone (gone (stp ((d.dat, 0) : SD) opY) tempP) (logName (gen + 1))) opY) (opC tempP)) (opA tempP (snapOut (gen + 1) seq data))).1, 0) : SD) (opR tempP)) opY).1, 5) := by
     unfold beginP
     rw [← snapOut_y hsn]
     refine (begin_5 h5).trans ?_
     show ((stp (stp (((stp (stp (stp (gone (gone (stp ((d.dat, 0) : SD) opY) tempP) (logName (gen + 1))) opY) (opC tempP)) (opA tempP (snapOut (gen + 1) seq data))).1, 0) : SD) (opR tempP)) opY).1, if (stp (stp (((stp (stp (stp (gone (gone (stp ((d.dat, 0) : SD) opY) tempP) (logName (gen + 1))) opY) (opC tempP)) (opA tempP (snapOut (gen + 1) seq data))).1, 0) : SD) (opR tempP)) opY).2 = 0 then 5 else (stp (stp (((stp (stp (stp (gone (gone (stp ((d.dat, 0) : SD) opY) tempP) (logName (gen + 1))) opY) (opC tempP)) (opA tempP (snapOut (gen + 1) seq data))).1, 0) : SD) (opR tempP)) opY).2) = _
     rw [if_pos h0]
   have hfin : DepotR.dat r122 = setP (⟨d.dat, gen, seq, 0, false⟩ : DepotD) (((stp (stp (((stp (stp (stp (gone (gone (stp ((d.dat, 0) : SD) opY) tempP) (logName (gen + 1))) opY) (opC tempP)) (opA tempP (snapOut (gen + 1) seq data))).1, 0) : SD) (opR tempP)) opY).1, 5) : SD) := hS8
   have hvf := (rfl : (5 : Int) = 5)
   refine WC.region (WL.r 1 hs128 [] rfl (WL.nil (hK129 _ _ (WC.sr (WL.r 4 hs128 [0] rfl (WL.st tbk hs128 2 rfl rfl (fun _ hs131 => WL.r 1 hs131 [] rfl ?_)))))))
   refine WL.nil (WC.ret (tkR ?_))
   clear hK109
   refine retV2 rfl (resV.cellA tbk hs131 2 rfl rfl rfl rfl) (resV.tmp rfl) ?_
   refine ⟨r122, _, (by rw [hc]; first | done | rfl | (rw [hP, ← hvf]; first | done | rfl) | (rw [hP]; done)), (St.keep1 (hs131.fr L123)), ?_, ?_⟩
   · exact ho124
   · rw [hdn, hP]; have q1_ := congrArg DepotD.Disk hfin; have q2_ := congrArg DepotD.Gen hfin; have q3_ := congrArg DepotD.Seq hfin; have q4_ := congrArg DepotD.Size hfin; have q5_ := congrArg DepotD.Stuck hfin; exact DepotD.ext' q1_ (q2_.trans (show gen = (if (5 : Int) = 0 then gen + 1 else gen) from rfl)) q3_ q4_ q5_
  have h0 : ¬ (stp (stp (((stp (stp (stp (gone (gone (stp ((d.dat, 0) : SD) opY) tempP) (logName (gen + 1))) opY) (opC tempP)) (opA tempP (snapOut (gen + 1) seq data))).1, 0) : SD) (opR tempP)) opY).2 = 0 := fun hx_ => (of_decide_eq_false h130) (hv8.trans hx_)
  have hP : (beginP d.dat gen seq data) = ((stp (stp (((stp (stp (stp (gone (gone (stp ((d.dat, 0) : SD) opY) tempP) (logName (gen + 1))) opY) (opC tempP)) (opA tempP (snapOut (gen + 1) seq data))).1, 0) : SD) (opR tempP)) opY).1, (stp (stp (((stp (stp (stp (gone (gone (stp ((d.dat, 0) : SD) opY) tempP) (logName (gen + 1))) opY) (opC tempP)) (opA tempP (snapOut (gen + 1) seq data))).1, 0) : SD) (opR tempP)) opY).2) := by
    unfold beginP
    rw [← snapOut_y hsn]
    refine (begin_5 h5).trans ?_
    show ((stp (stp (((stp (stp (stp (gone (gone (stp ((d.dat, 0) : SD) opY) tempP) (logName (gen + 1))) opY) (opC tempP)) (opA tempP (snapOut (gen + 1) seq data))).1, 0) : SD) (opR tempP)) opY).1, if (stp (stp (((stp (stp (stp (gone (gone (stp ((d.dat, 0) : SD) opY) tempP) (logName (gen + 1))) opY) (opC tempP)) (opA tempP (snapOut (gen + 1) seq data))).1, 0) : SD) (opR tempP)) opY).2 = 0 then 5 else (stp (stp (((stp (stp (stp (gone (gone (stp ((d.dat, 0) : SD) opY) tempP) (logName (gen + 1))) opY) (opC tempP)) (opA tempP (snapOut (gen + 1) seq data))).1, 0) : SD) (opR tempP)) opY).2) = _
    rw [if_neg h0]
  have hfin : DepotR.dat r122 = setP (⟨d.dat, gen, seq, 0, false⟩ : DepotD) (((stp (stp (((stp (stp (stp (gone (gone (stp ((d.dat, 0) : SD) opY) tempP) (logName (gen + 1))) opY) (opC tempP)) (opA tempP (snapOut (gen + 1) seq data))).1, 0) : SD) (opR tempP)) opY).1, (stp (stp (((stp (stp (stp (gone (gone (stp ((d.dat, 0) : SD) opY) tempP) (logName (gen + 1))) opY) (opC tempP)) (opA tempP (snapOut (gen + 1) seq data))).1, 0) : SD) (opR tempP)) opY).2) : SD) := hS8
  have hvf := hv8
  refine WC.skip (hK129 _ _ (WC.sr (WL.r 4 hs128 [0] rfl (WL.st tbk hs128 2 rfl rfl (fun _ hs132 => WL.r 1 hs132 [] rfl (WL.nil (WC.ret ?_)))))))
  refine tkR ?_
  clear hK109
  refine retV2 rfl (resV.cellA tbk hs132 2 rfl rfl rfl rfl) (resV.tmp rfl) ?_
  refine ⟨r122, _, (by rw [hc]; first | done | rfl | (rw [hP, ← hvf]; first | done | rfl) | (rw [hP]; done)), (St.keep1 (hs132.fr L123)), ?_, ?_⟩
  · exact ho124
  · rw [hdn, hP]; have q1_ := congrArg DepotD.Disk hfin; have q2_ := congrArg DepotD.Gen hfin; have q3_ := congrArg DepotD.Seq hfin; have q4_ := congrArg DepotD.Size hfin; have q5_ := congrArg DepotD.Stuck hfin; exact DepotD.ext' q1_ (q2_.trans (show gen = (if _ = (0 : Int) then gen + 1 else gen) from (if_neg h0).symm)) q3_ q4_ q5_
 have h5 : ¬ (fill1 (head1 d.dat (gen + 1)) (snapOut (gen + 1) seq data)).2 = 5 := fun hx_ => (of_decide_eq_false h110) (hv6.trans hx_)
 refine WC.skip (hK109 _ _ (WC.sr (WL.r 2 hs108 [] rfl ?_)))
 refine WL.val rfl rfl rfl (Run.build rfl rfl rfl rfl (built_75_0_1 _ _)) ?_
 have hF133 := ((hs108.fr L103).fb b37)
 refine WL.cl Tryz.call40 rfl (k108_ _ r102 _ _ _ _ _ _ _ _ _ _ (St.headP hF133) ho104 (St.ownP hF133) (SlF.nil _ _) (by first | assumption | omega | simp) (St.nodupP hF133) (fun h_ => absurd h_ (by omega)) ?_ ?_ ?_ ?_ ?_) ?_
 iterate 5 first | assumption | rfl | omega | decide | exact hb6 | exact hq6 | exact hs6_ | exact hbr | exact hqr | exact hsmr | exact hsm9 | exact Nat.le_trans hlz (by decide) | exact Nat.le_trans hsz (by decide) | exact Nat.le_trans hz9 (by decide) | exact hz9 | exact Nat.zero_le _
 rintro _ whs134 ⟨cc139, r135, L136, rfl, hs134, ho137, hd138, hcc140⟩
 replace hs134 := St.lendP hF133 hs134
 refine ⟨_, rfl, ?_⟩
 have hs141 := ((((hs134.fb b2).fb b4).fb b39).fb b37)
 have hS9 : DepotR.dat r135 = setP (⟨d.dat, gen, seq, 0, false⟩ : DepotD) (stp (stp (stp (stp (gone (gone (stp ((d.dat, 0) : SD) opY) tempP) (logName (gen + 1))) opY) (opC tempP)) (opA tempP (snapOut (gen + 1) seq data))) (syncOp tempP)) := hd138.trans ((congrArg (a₂ := setP (⟨d.dat, gen, seq, 0, false⟩ : DepotD) (stp (stp (stp (gone (gone (stp ((d.dat, 0) : SD) opY) tempP) (logName (gen + 1))) opY) (opC tempP)) (opA tempP (snapOut (gen + 1) seq data)))) (fun q => setP q (stp ((q.Disk, cc106) : SD) (syncOp tempP))) (by exact hS6)).trans (congrArg (a₁ := (((stp (stp (stp (gone (gone (stp ((d.dat, 0) : SD) opY) tempP) (logName (gen + 1))) opY) (opC tempP)) (opA tempP (snapOut (gen + 1) seq data))).1, cc106) : SD)) (a₂ := (stp (stp (stp (gone (gone (stp ((d.dat, 0) : SD) opY) tempP) (logName (gen + 1))) opY) (opC tempP)) (opA tempP (snapOut (gen + 1) seq data)))) (fun s => setP (⟨d.dat, gen, seq, 0, false⟩ : DepotD) (stp s (syncOp tempP))) (Prod.ext rfl hv6)))
 have hv9 : cc139 = (stp (stp (stp (stp (gone (gone (stp ((d.dat, 0) : SD) opY) tempP) (logName (gen + 1))) opY) (opC tempP)) (opA tempP (snapOut (gen + 1) seq data))) (syncOp tempP)).2 := hcc140.trans (congrArg (a₁ := (((DepotR.dat r102).Disk, cc106) : SD)) (a₂ := (stp (stp (stp (gone (gone (stp ((d.dat, 0) : SD) opY) tempP) (logName (gen + 1))) opY) (opC tempP)) (opA tempP (snapOut (gen + 1) seq data)))) (fun s => (stp s (syncOp tempP)).2) (Prod.ext (congrArg DepotD.Disk hS6) hv6))
 have hk9 : diskOk (stp (stp (stp (stp (gone (gone (stp ((d.dat, 0) : SD) opY) tempP) (logName (gen + 1))) opY) (opC tempP)) (opA tempP (snapOut (gen + 1) seq data))) (syncOp tempP)).1 = true := stp_ok hk6 (opS_ok temp_ok)
 have hb9 : totDisk (DepotR.dat r135).Disk ≤ 1048576 := by rw [hS9]; exact ok_tot hk9
 have hq9 : diskOk (DepotR.dat r135).Disk = true := by rw [hS9]; exact hk9
 have hs9_ := dep_sm hb9
 refine WL.r 1 hs141 [] rfl (WL.nil (WC.sr (WL.r 4 hs141 [] rfl (WL.cl Tryz.call68 rfl (k19_ _ _) ?_))))
 rintro _ whs142 ⟨rfl, hs142⟩
 replace hs142 := hs141.call0 hs142
 refine ⟨_, rfl, ?_⟩
 refine WL.val rfl rfl rfl (Run.build rfl rfl rfl rfl (built_75_0_1_2 _ _ _)) ?_
 have hF143 := ((hs142.fr L136).fb b37)
 refine WL.cl Tryz.call40 rfl (k108_ _ r135 _ _ _ _ _ _ _ _ _ _ (St.headP hF143) ho137 (St.ownP hF143) (SlF.nil _ _) (by first | assumption | omega | simp) (St.nodupP hF143) (fun h_ => absurd h_ (by omega)) ?_ ?_ ?_ ?_ ?_) ?_
 iterate 5 first | assumption | rfl | omega | decide | exact hb9 | exact hq9 | exact hs9_ | exact hbr | exact hqr | exact hsmr | exact hsm9 | exact Nat.le_trans hlz (by decide) | exact Nat.le_trans hsz (by decide) | exact Nat.le_trans hz9 (by decide) | exact hz9 | exact Nat.zero_le _
 rintro _ whs144 ⟨cc149, r145, L146, rfl, hs144, ho147, hd148, hcc150⟩
 replace hs144 := St.lendP hF143 hs144
 refine ⟨_, rfl, ?_⟩
 have hs151 := ((((hs144.fb b2).fb b4).fb b39).fb b37)
 have hS10 : DepotR.dat r145 = setP (⟨d.dat, gen, seq, 0, false⟩ : DepotD) (stp (stp (stp (stp (stp (gone (gone (stp ((d.dat, 0) : SD) opY) tempP) (logName (gen + 1))) opY) (opC tempP)) (opA tempP (snapOut (gen + 1) seq data))) (syncOp tempP)) (opM tempP (snapName (gen + 1)))) := hd148.trans ((congrArg (a₂ := setP (⟨d.dat, gen, seq, 0, false⟩ : DepotD) (stp (stp (stp (stp (gone (gone (stp ((d.dat, 0) : SD) opY) tempP) (logName (gen + 1))) opY) (opC tempP)) (opA tempP (snapOut (gen + 1) seq data))) (syncOp tempP))) (fun q => setP q (stp ((q.Disk, cc139) : SD) (opM tempP (snapName (gen + 1))))) (by exact hS9)).trans (congrArg (a₁ := (((stp (stp (stp (stp (gone (gone (stp ((d.dat, 0) : SD) opY) tempP) (logName (gen + 1))) opY) (opC tempP)) (opA tempP (snapOut (gen + 1) seq data))) (syncOp tempP)).1, cc139) : SD)) (a₂ := (stp (stp (stp (stp (gone (gone (stp ((d.dat, 0) : SD) opY) tempP) (logName (gen + 1))) opY) (opC tempP)) (opA tempP (snapOut (gen + 1) seq data))) (syncOp tempP))) (fun s => setP (⟨d.dat, gen, seq, 0, false⟩ : DepotD) (stp s (opM tempP (snapName (gen + 1))))) (Prod.ext rfl hv9)))
 have hv10 : cc149 = (stp (stp (stp (stp (stp (gone (gone (stp ((d.dat, 0) : SD) opY) tempP) (logName (gen + 1))) opY) (opC tempP)) (opA tempP (snapOut (gen + 1) seq data))) (syncOp tempP)) (opM tempP (snapName (gen + 1)))).2 := hcc150.trans (congrArg (a₁ := (((DepotR.dat r135).Disk, cc139) : SD)) (a₂ := (stp (stp (stp (stp (gone (gone (stp ((d.dat, 0) : SD) opY) tempP) (logName (gen + 1))) opY) (opC tempP)) (opA tempP (snapOut (gen + 1) seq data))) (syncOp tempP))) (fun s => (stp s (opM tempP (snapName (gen + 1)))).2) (Prod.ext (congrArg DepotD.Disk hS9) hv9))
 have hk10 : diskOk (stp (stp (stp (stp (stp (gone (gone (stp ((d.dat, 0) : SD) opY) tempP) (logName (gen + 1))) opY) (opC tempP)) (opA tempP (snapOut (gen + 1) seq data))) (syncOp tempP)) (opM tempP (snapName (gen + 1)))).1 = true := stp_ok hk9 (opM_ok temp_ok (snap_ok hgn))
 have hb10 : totDisk (DepotR.dat r145).Disk ≤ 1048576 := by rw [hS10]; exact ok_tot hk10
 have hq10 : diskOk (DepotR.dat r145).Disk = true := by rw [hS10]; exact hk10
 have hs10_ := dep_sm hb10
 refine WL.r 1 hs151 [] rfl (WL.nil (WC.sr (WL.r 4 hs151 [] rfl (WL.cl Tryz.call41 rfl (k18_ _ _) ?_))))
 rintro _ whs152 ⟨rfl, hs152⟩
 replace hs152 := hs151.call0 hs152
 refine ⟨_, rfl, ?_⟩
 refine WL.val rfl rfl rfl (Run.build rfl rfl rfl rfl (built_75_0_1 _ _)) ?_
 have hF153 := ((hs152.fr L146).fb b37)
 refine WL.cl Tryz.call40 rfl (k108_ _ r145 _ _ _ _ _ _ _ _ _ _ (St.headP hF153) ho147 (St.ownP hF153) (SlF.nil _ _) (by first | assumption | omega | simp) (St.nodupP hF153) (fun h_ => absurd h_ (by omega)) ?_ ?_ ?_ ?_ ?_) ?_
 iterate 5 first | assumption | rfl | omega | decide | exact hb10 | exact hq10 | exact hs10_ | exact hbr | exact hqr | exact hsmr | exact hsm9 | exact Nat.le_trans hlz (by decide) | exact Nat.le_trans hsz (by decide) | exact Nat.le_trans hz9 (by decide) | exact hz9 | exact Nat.zero_le _
 rintro _ whs154 ⟨cc159, r155, L156, rfl, hs154, ho157, hd158, hcc160⟩
 replace hs154 := St.lendP hF153 hs154
 refine ⟨_, rfl, ?_⟩
 have hs161 := ((((hs154.fb b2).fb b4).fb b39).fb b37)
 have hS11 : DepotR.dat r155 = setP (⟨d.dat, gen, seq, 0, false⟩ : DepotD) (stp (stp (stp (stp (stp (stp (gone (gone (stp ((d.dat, 0) : SD) opY) tempP) (logName (gen + 1))) opY) (opC tempP)) (opA tempP (snapOut (gen + 1) seq data))) (syncOp tempP)) (opM tempP (snapName (gen + 1)))) (opC (logName (gen + 1)))) := hd158.trans ((congrArg (a₂ := setP (⟨d.dat, gen, seq, 0, false⟩ : DepotD) (stp (stp (stp (stp (stp (gone (gone (stp ((d.dat, 0) : SD) opY) tempP) (logName (gen + 1))) opY) (opC tempP)) (opA tempP (snapOut (gen + 1) seq data))) (syncOp tempP)) (opM tempP (snapName (gen + 1))))) (fun q => setP q (stp ((q.Disk, cc149) : SD) (opC (logName (gen + 1))))) (by exact hS10)).trans (congrArg (a₁ := (((stp (stp (stp (stp (stp (gone (gone (stp ((d.dat, 0) : SD) opY) tempP) (logName (gen + 1))) opY) (opC tempP)) (opA tempP (snapOut (gen + 1) seq data))) (syncOp tempP)) (opM tempP (snapName (gen + 1)))).1, cc149) : SD)) (a₂ := (stp (stp (stp (stp (stp (gone (gone (stp ((d.dat, 0) : SD) opY) tempP) (logName (gen + 1))) opY) (opC tempP)) (opA tempP (snapOut (gen + 1) seq data))) (syncOp tempP)) (opM tempP (snapName (gen + 1))))) (fun s => setP (⟨d.dat, gen, seq, 0, false⟩ : DepotD) (stp s (opC (logName (gen + 1))))) (Prod.ext rfl hv10)))
 have hv11 : cc159 = (stp (stp (stp (stp (stp (stp (gone (gone (stp ((d.dat, 0) : SD) opY) tempP) (logName (gen + 1))) opY) (opC tempP)) (opA tempP (snapOut (gen + 1) seq data))) (syncOp tempP)) (opM tempP (snapName (gen + 1)))) (opC (logName (gen + 1)))).2 := hcc160.trans (congrArg (a₁ := (((DepotR.dat r145).Disk, cc149) : SD)) (a₂ := (stp (stp (stp (stp (stp (gone (gone (stp ((d.dat, 0) : SD) opY) tempP) (logName (gen + 1))) opY) (opC tempP)) (opA tempP (snapOut (gen + 1) seq data))) (syncOp tempP)) (opM tempP (snapName (gen + 1))))) (fun s => (stp s (opC (logName (gen + 1)))).2) (Prod.ext (congrArg DepotD.Disk hS10) hv10))
 have hk11 : diskOk (stp (stp (stp (stp (stp (stp (gone (gone (stp ((d.dat, 0) : SD) opY) tempP) (logName (gen + 1))) opY) (opC tempP)) (opA tempP (snapOut (gen + 1) seq data))) (syncOp tempP)) (opM tempP (snapName (gen + 1)))) (opC (logName (gen + 1)))).1 = true := stp_ok hk10 (opC_ok (log_ok hgn))
 have hb11 : totDisk (DepotR.dat r155).Disk ≤ 1048576 := by rw [hS11]; exact ok_tot hk11
 have hq11 : diskOk (DepotR.dat r155).Disk = true := by rw [hS11]; exact hk11
 have hs11_ := dep_sm hb11
 refine WL.r 1 hs161 [] rfl (WL.nil (WC.sr (WL.r 3 hs161 [1] rfl ?_)))
 have hF162 := ((hs161.fr L156).fb b37)
 refine WL.cl Tryz.call40 rfl (k108_ _ r155 _ _ _ _ _ _ _ _ _ _ (St.headP hF162) ho157 (St.ownP hF162) (SlF.nil _ _) (by first | assumption | omega | simp) (St.nodupP hF162) (fun h_ => absurd h_ (by omega)) ?_ ?_ ?_ ?_ ?_) ?_
 iterate 5 first | assumption | rfl | omega | decide | exact hb11 | exact hq11 | exact hs11_ | exact hbr | exact hqr | exact hsmr | exact hsm9 | exact Nat.le_trans hlz (by decide) | exact Nat.le_trans hsz (by decide) | exact Nat.le_trans hz9 (by decide) | exact hz9 | exact Nat.zero_le _
 rintro _ whs163 ⟨cc168, r164, L165, rfl, hs163, ho166, hd167, hcc169⟩
 replace hs163 := St.lendP hF162 hs163
 refine ⟨_, rfl, ?_⟩
 have hs170 := ((((hs163.fb b2).fb b4).fb b39).fb b37)
 have hS12 : DepotR.dat r164 = setP (⟨d.dat, gen, seq, 0, false⟩ : DepotD) (stp (stp (stp (stp (stp (stp (stp (gone (gone (stp ((d.dat, 0) : SD) opY) tempP) (logName (gen + 1))) opY) (opC tempP)) (opA tempP (snapOut (gen + 1) seq data))) (syncOp tempP)) (opM tempP (snapName (gen + 1)))) (opC (logName (gen + 1)))) opY) := hd167.trans ((congrArg (a₂ := setP (⟨d.dat, gen, seq, 0, false⟩ : DepotD) (stp (stp (stp (stp (stp (stp (gone (gone (stp ((d.dat, 0) : SD) opY) tempP) (logName (gen + 1))) opY) (opC tempP)) (opA tempP (snapOut (gen + 1) seq data))) (syncOp tempP)) (opM tempP (snapName (gen + 1)))) (opC (logName (gen + 1))))) (fun q => setP q (stp ((q.Disk, cc159) : SD) opY)) (by exact hS11)).trans (congrArg (a₁ := (((stp (stp (stp (stp (stp (stp (gone (gone (stp ((d.dat, 0) : SD) opY) tempP) (logName (gen + 1))) opY) (opC tempP)) (opA tempP (snapOut (gen + 1) seq data))) (syncOp tempP)) (opM tempP (snapName (gen + 1)))) (opC (logName (gen + 1)))).1, cc159) : SD)) (a₂ := (stp (stp (stp (stp (stp (stp (gone (gone (stp ((d.dat, 0) : SD) opY) tempP) (logName (gen + 1))) opY) (opC tempP)) (opA tempP (snapOut (gen + 1) seq data))) (syncOp tempP)) (opM tempP (snapName (gen + 1)))) (opC (logName (gen + 1))))) (fun s => setP (⟨d.dat, gen, seq, 0, false⟩ : DepotD) (stp s opY)) (Prod.ext rfl hv11)))
 have hv12 : cc168 = (stp (stp (stp (stp (stp (stp (stp (gone (gone (stp ((d.dat, 0) : SD) opY) tempP) (logName (gen + 1))) opY) (opC tempP)) (opA tempP (snapOut (gen + 1) seq data))) (syncOp tempP)) (opM tempP (snapName (gen + 1)))) (opC (logName (gen + 1)))) opY).2 := hcc169.trans (congrArg (a₁ := (((DepotR.dat r155).Disk, cc159) : SD)) (a₂ := (stp (stp (stp (stp (stp (stp (gone (gone (stp ((d.dat, 0) : SD) opY) tempP) (logName (gen + 1))) opY) (opC tempP)) (opA tempP (snapOut (gen + 1) seq data))) (syncOp tempP)) (opM tempP (snapName (gen + 1)))) (opC (logName (gen + 1))))) (fun s => (stp s opY).2) (Prod.ext (congrArg DepotD.Disk hS11) hv11))
 have hk12 : diskOk (stp (stp (stp (stp (stp (stp (stp (gone (gone (stp ((d.dat, 0) : SD) opY) tempP) (logName (gen + 1))) opY) (opC tempP)) (opA tempP (snapOut (gen + 1) seq data))) (syncOp tempP)) (opM tempP (snapName (gen + 1)))) (opC (logName (gen + 1)))) opY).1 = true := stp_ok hk11 opY_ok
 have hb12 : totDisk (DepotR.dat r164).Disk ≤ 1048576 := by rw [hS12]; exact ok_tot hk12
 have hq12 : diskOk (DepotR.dat r164).Disk = true := by rw [hS12]; exact hk12
 have hs12_ := dep_sm hb12
 have hT : DepotR.dat r164 = setP (⟨d.dat, gen, seq, 0, false⟩ : DepotD) (tail1 (fill1 (head1 d.dat (gen + 1)) (snapOut (gen + 1) seq data)) (gen + 1)) := hS12
 have hvT : cc168 = (tail1 (fill1 (head1 d.dat (gen + 1)) (snapOut (gen + 1) seq data)) (gen + 1)).2 := hv12
 have hkT : diskOk (tail1 (fill1 (head1 d.dat (gen + 1)) (snapOut (gen + 1) seq data)) (gen + 1)).1 = true := hk12
 have hDT := diskOk_P hkT
 have eD : (dirD (DiskR.dat (DepotR.Disk r164))) = (dirD (tail1 (fill1 (head1 d.dat (gen + 1)) (snapOut (gen + 1) seq data)) (gen + 1)).1) := congrArg (fun q : DepotD => dirD q.Disk) hT
 have hdl9 : (dirD (DiskR.dat (DepotR.Disk r164))).length ≤ 40 := by rw [eD]; exact Nat.le_trans turnsL_len (by have h9 := hDT.small; omega)
 have hsd9 : sortedL (dirD (DiskR.dat (DepotR.Disk r164))) := by rw [eD]; exact sorted_turns hDT.sorted hDT.runi
 have hsm9 := dep_sm hb12
 rw [hd167] at hsm9
 refine WL.r 1 hs170 [] rfl (WL.nil (WC.seq (fun K171 hK171 => WC.sr (WL.r 4 hs170 [0] rfl ?_))))
 refine WL.cl Tryz.call69 rfl (k88_ r164.Disk _ (ownDepotR.ok (B := 549755813888) ho166 (hs170.ow L165) (by rw [hd167]; assumption)).Disk ?_ ?_) ?_
 iterate 2 first | assumption | rfl | omega | decide | exact hb12 | exact hq12 | exact hs12_ | exact hbr | exact hqr | exact hsmr | exact hsm9 | exact Nat.le_trans hlz (by decide) | exact Nat.le_trans hsz (by decide) | exact Nat.le_trans hz9 (by decide) | exact hz9 | exact Nat.zero_le _
 rintro _ whs172 ⟨A173, c174, L1_175, rfl, hs172, ho176⟩
 replace hs172 := hs170.callF hs172
 refine ⟨_, rfl, ?_⟩
 replace hs172 := St.back [_, _, _, _] hs172
 refine WL.r 2 hs172 [] rfl (WL.nil (WC.block ?_))
 have hM181 := (St.grp1 (L1 := L165) [_] (((((((hs172.fr L1_20).fr L1_175).fb b2).fb b4).fb b39).fr L165).fb b37))
 refine WC.lV [1, 8, 9, 12, 13, 29, 40, 75, 115, 116] rfl hM181 (fun k_ (a_ : Hp) f => ∃ (c : Int) (i : Nat) (r : DepotR) (L179 : Hp), k_ = (dirD (DiskR.dat (DepotR.Disk r164))).length - i ∧ a_ = [(b37, .cells (List.toArray [i64 r.Disk.Room, i64 r.Disk.Fuse, i64 r.Disk.Next, .slice r.Disk.Files.A r.Disk.Files.n r.Disk.Files.c, .slice r.Disk.Kept.A r.Disk.Kept.n r.Disk.Kept.c, .slice r.Disk.Turns.A r.Disk.Turns.n r.Disk.Turns.c, i64 r.Gen, i64 r.Seq, i64 r.Size, .bool r.Stuck]) 36 (0, 0))] ++ L179 ∧ (i ≤ (dirD (DiskR.dat (DepotR.Disk r164))).length) ∧ (DepotR.dat r = setP (⟨d.dat, gen, seq, 0, false⟩ : DepotD) (sweepS (tail1 (fill1 (head1 d.dat (gen + 1)) (snapOut (gen + 1) seq data)) (gen + 1)) (gen + 1) ((dirD (DiskR.dat (DepotR.Disk r164))).take i))) ∧ (c = (sweepS (tail1 (fill1 (head1 d.dat (gen + 1)) (snapOut (gen + 1) seq data)) (gen + 1)) (gen + 1) ((dirD (DiskR.dat (DepotR.Disk r164))).take i)).2) ∧ (there (sweepS (tail1 (fill1 (head1 d.dat (gen + 1)) (snapOut (gen + 1) seq data)) (gen + 1)) (gen + 1) ((dirD (DiskR.dat (DepotR.Disk r164))).take i)) ((dirD (DiskR.dat (DepotR.Disk r164))).drop i)) ∧ ownDepotR r L179 ∧ Sub [(117, .int .i64 i), (14, .int .i64 c)] f) ((dirD (DiskR.dat (DepotR.Disk r164))).length) ?_ ?_
 ·refine ⟨_, 0, r164, L165, rfl, rfl, ?_, ?_, ?_, ?_, ho166, ⟨rfl, rfl, trivial⟩⟩
  · exact Nat.zero_le _
  · exact hT
  · exact hvT
  · exact (by rw [List.drop_zero, eD]; exact there_init _)
 rintro _ _ f w ⟨c, i, r, L179, rfl, rfl, p0, p1, p2, p3, ho180, hG⟩ hF hs182
 refine WC.sub _ (hG.app hF) ?_
 clear hG hF
 replace hs182 := St.ungrp1 [_] hs182
 have hs183 := ((((hs182.fb b2).fb b4).fb b39).fb b37)
 have hkr : diskOk (sweepS (tail1 (fill1 (head1 d.dat (gen + 1)) (snapOut (gen + 1) seq data)) (gen + 1)) (gen + 1) ((dirD (DiskR.dat (DepotR.Disk r164))).take i)).1 = true := sweep_ok hkT (fun x hx => hDT.names x (by rw [← eD]; exact List.mem_of_mem_take hx))
 have hbr : totDisk (DepotR.dat r).Disk ≤ 1048576 := by rw [p1]; exact ok_tot hkr
 have hqr : diskOk (DepotR.dat r).Disk = true := by rw [p1]; exact hkr
 have hsmr := dep_sm hbr
 refine WC.r1 hs183 [] rfl (WC.seq (fun K184 hK184 => ?_))
 refine WC.cq rfl (fun h185 qh185 => ?_) (fun h185 qh185 => ?_)
 ·have hi9 : i < (dirD (DiskR.dat (DepotR.Disk r164))).length := by have h9 := h185; simp at h9; omega
  have hnm9 : nameOk (gat encLink (dirD (DiskR.dat (DepotR.Disk r164))) i).Name = true := hDT.names _ (by rw [← eD]; exact gat_mem hi9)
  have hz9 := nameOk_size hnm9
  refine WC.skip (hK184 _ _ (WC.seq (fun K186 hK186 => WC.block (WC.sr ?_))))
  refine WL.val rfl rfl rfl (Run.idxK (i) Tryz.runUnderlying31 Tryz.sizeOf101 rfl rfl rfl ?_ ?_ ?_) ?_
  · exact SlF.some_ (SlF.ofOwn ho176 (hs183.ow L1_175))
  · omega
  · omega
  refine WL.val rfl rfl rfl (Run.loadA Tryz.isAgg101 Tryz.sizeOf101 rfl rfl (SlF.whole (SlF.ofOwn ho176 (hs183.ow L1_175)) ?_)) ?_
  · omega
  refine WL.al hs183 Tryz.zeroValue101 rfl rfl (fun b187 _ hs188 => WL.st tbk hs188 0 rfl rfl (fun _ hs189 => WL.nil (WC.sr (WL.r 2 hs189 [0] rfl ?_))))
  refine WL.cl Tryz.call70 rfl (k129_ _ _ ?_) ?_
  · first | assumption | rfl | omega | decide | exact hb12 | exact hq12 | exact hs12_ | exact hbr | exact hqr | exact hsmr | exact hsm9 | exact Nat.le_trans hlz (by decide) | exact Nat.le_trans hsz (by decide) | exact Nat.le_trans hz9 (by decide) | exact hz9 | exact Nat.zero_le _
  rintro _ whs190 ⟨rfl, hs190⟩
  replace hs190 := hs189.call0 hs190
  refine ⟨_, rfl, WL.r 5 hs190 [] rfl (WL.nil (WC.sr (WL.r 2 hs190 [] rfl ?_)))⟩
  refine WL.pA tbk 4 Acts.nil hs190 [] rfl rfl rfl rfl (fun g_ => by (try simp only [bf, within_iff, within_not] at g_); exact ⟨by omega, trivial⟩) (WL.nil (WC.cq rfl (fun h191 qh191 => ?_) (fun h191 qh191 => ?_)))
  ·have hcx : (genOk (gat encLink (dirD (DiskR.dat (DepotR.Disk r164))) i).Name && !decide (genV (gat encLink (dirD (DiskR.dat (DepotR.Disk r164))) i).Name = gen + 1)) = true := h191
   refine WC.region (WL.r 4 hs190 [0] rfl ?_)
   have hF192 := ((hs190.fr L179).fb b37)
   refine WL.cl Tryz.call67 rfl (k109_ _ r _ _ _ _ (St.headP hF192) ho180 (St.ownP hF192) (St.nodupP hF192) ?_ ?_ ?_) ?_
   iterate 3 first | assumption | rfl | omega | decide | exact hb12 | exact hq12 | exact hs12_ | exact hbr | exact hqr | exact hsmr | exact hsm9 | exact Nat.le_trans hlz (by decide) | exact Nat.le_trans hsz (by decide) | exact Nat.le_trans hz9 (by decide) | exact hz9 | exact Nat.zero_le _
   rintro _ whs193 ⟨cc198, r194, L195, rfl, hs193, ho196, hd197, hcc199⟩
   replace hs193 := St.lendP hF192 hs193
   refine ⟨_, rfl, ?_⟩
   have hs200 := (((((hs193.fb b2).fb b4).fb b39).fb b187).fb b37)
   have hpr : (((DepotR.dat r).Disk, c) : SD) = (sweepS (tail1 (fill1 (head1 d.dat (gen + 1)) (snapOut (gen + 1) seq data)) (gen + 1)) (gen + 1) ((dirD (DiskR.dat (DepotR.Disk r164))).take i)) := Prod.ext (congrArg DepotD.Disk p1) p2
   have hgo : gone ((DepotR.dat r).Disk, c) (gat encLink (dirD (DiskR.dat (DepotR.Disk r164))) i).Name = (sweepS (tail1 (fill1 (head1 d.dat (gen + 1)) (snapOut (gen + 1) seq data)) (gen + 1)) (gen + 1) ((dirD (DiskR.dat (DepotR.Disk r164))).take (i + 1))) := by rw [hpr, there_at hi9 p3, sweep_take hi9]; unfold sweep1; rw [if_pos hcx]
   have hnx : DepotR.dat r194 = setP (⟨d.dat, gen, seq, 0, false⟩ : DepotD) (sweepS (tail1 (fill1 (head1 d.dat (gen + 1)) (snapOut (gen + 1) seq data)) (gen + 1)) (gen + 1) ((dirD (DiskR.dat (DepotR.Disk r164))).take (i + 1))) := hd197.trans ((congrArg (a₂ := setP (⟨d.dat, gen, seq, 0, false⟩ : DepotD) (sweepS (tail1 (fill1 (head1 d.dat (gen + 1)) (snapOut (gen + 1) seq data)) (gen + 1)) (gen + 1) ((dirD (DiskR.dat (DepotR.Disk r164))).take i))) (fun q => setP q (gone ((DepotR.dat r).Disk, c) (gat encLink (dirD (DiskR.dat (DepotR.Disk r164))) i).Name)) (by exact p1)).trans (by rw [hgo]; rfl))
   have hcv := hcc199.trans (congrArg Prod.snd hgo)
   refine WL.r 1 hs200 [] rfl (WL.nil (hK186 _ _ (WC.region (WL.r 2 hs200 [] rfl (WL.nil (tkN ?_))))))
   replace hs200 := (hs200.fb b187).d1
   have hF201 := (St.grp1 (L1 := L195) [_] (((((((hs200.fr L1_20).fr L1_175).fb b2).fb b4).fb b39).fr L195).fb b37))
   refine ⟨sbF rfl, _, hF201, _, ?_, _, i + 1, r194, L195, rfl, rfl, ?_, ?_, ?_, ?_, ho196, ⟨rfl, rfl, trivial⟩⟩
   · omega
   · omega
   · exact hnx
   · exact hcv
   · exact there_sweep hsd9 hi9 p3
  have hcx : ¬ (genOk (gat encLink (dirD (DiskR.dat (DepotR.Disk r164))) i).Name && !decide (genV (gat encLink (dirD (DiskR.dat (DepotR.Disk r164))) i).Name = gen + 1)) = true := by have h9 := h191; rw [h9]; decide
  have hsw : (sweepS (tail1 (fill1 (head1 d.dat (gen + 1)) (snapOut (gen + 1) seq data)) (gen + 1)) (gen + 1) ((dirD (DiskR.dat (DepotR.Disk r164))).take (i + 1))) = (sweepS (tail1 (fill1 (head1 d.dat (gen + 1)) (snapOut (gen + 1) seq data)) (gen + 1)) (gen + 1) ((dirD (DiskR.dat (DepotR.Disk r164))).take i)) := by rw [sweep_take hi9]; unfold sweep1; rw [if_neg hcx]
  have hnx : DepotR.dat r = setP (⟨d.dat, gen, seq, 0, false⟩ : DepotD) (sweepS (tail1 (fill1 (head1 d.dat (gen + 1)) (snapOut (gen + 1) seq data)) (gen + 1)) (gen + 1) ((dirD (DiskR.dat (DepotR.Disk r164))).take (i + 1))) := by rw [hsw]; exact p1
  have hcv : c = (sweepS (tail1 (fill1 (head1 d.dat (gen + 1)) (snapOut (gen + 1) seq data)) (gen + 1)) (gen + 1) ((dirD (DiskR.dat (DepotR.Disk r164))).take (i + 1))).2 := by rw [hsw]; exact p2
  refine WC.skip (hK186 _ _ (WC.region (WL.r 2 hs190 [] rfl (WL.nil (tkN ?_)))))
  replace hs190 := hs190.d1
  have hF202 := (St.grp1 (L1 := L179) [_] (((((((hs190.fr L1_20).fr L1_175).fb b2).fb b4).fb b39).fr L179).fb b37))
  refine ⟨sbF rfl, _, hF202, _, ?_, _, i + 1, r, L179, rfl, rfl, ?_, ?_, ?_, ?_, ho180, ⟨rfl, rfl, trivial⟩⟩
  · omega
  · omega
  · exact hnx
  · exact hcv
  · exact there_sweep hsd9 hi9 p3
 refine WC.exit (hK171 _ _ (WC.sr (WL.r 3 hs183 [1] rfl ?_)))
 have hF203 := ((hs183.fr L179).fb b37)
 refine WL.cl Tryz.call40 rfl (k108_ _ r _ _ _ _ _ _ _ _ _ _ (St.headP hF203) ho180 (St.ownP hF203) (SlF.nil _ _) (by first | assumption | omega | simp) (St.nodupP hF203) (fun h_ => absurd h_ (by omega)) ?_ ?_ ?_ ?_ ?_) ?_
 iterate 5 first | assumption | rfl | omega | decide | exact hb12 | exact hq12 | exact hs12_ | exact hbr | exact hqr | exact hsmr | exact hsm9 | exact Nat.le_trans hlz (by decide) | exact Nat.le_trans hsz (by decide) | exact Nat.le_trans hz9 (by decide) | exact hz9 | exact Nat.zero_le _
 rintro _ whs204 ⟨cc209, r205, L206, rfl, hs204, ho207, hd208, hcc210⟩
 replace hs204 := St.lendP hF203 hs204
 refine ⟨_, rfl, ?_⟩
 have hs211 := ((((hs204.fb b2).fb b4).fb b39).fb b37)
 have hpr : (((DepotR.dat r).Disk, c) : SD) = sweepS (tail1 (fill1 (head1 d.dat (gen + 1)) (snapOut (gen + 1) seq data)) (gen + 1)) (gen + 1) (dirD (tail1 (fill1 (head1 d.dat (gen + 1)) (snapOut (gen + 1) seq data)) (gen + 1)).1) := Prod.ext ((congrArg DepotD.Disk p1).trans (by rw [List.take_of_length_le (by omega), eD]; rfl)) (p2.trans (by rw [List.take_of_length_le (by omega), eD]))
 have hfin : DepotR.dat r205 = setP (⟨d.dat, gen, seq, 0, false⟩ : DepotD) (stp (sweepS (tail1 (fill1 (head1 d.dat (gen + 1)) (snapOut (gen + 1) seq data)) (gen + 1)) (gen + 1) (dirD (tail1 (fill1 (head1 d.dat (gen + 1)) (snapOut (gen + 1) seq data)) (gen + 1)).1)) opY) := hd208.trans ((congrArg (a₂ := setP (⟨d.dat, gen, seq, 0, false⟩ : DepotD) (sweepS (tail1 (fill1 (head1 d.dat (gen + 1)) (snapOut (gen + 1) seq data)) (gen + 1)) (gen + 1) ((dirD (DiskR.dat (DepotR.Disk r164))).take i))) (fun q => setP q (stp ((DepotR.dat r).Disk, c) opY)) (by exact p1)).trans (by rw [hpr]; rfl))
 have hvf := hcc210.trans (congrArg (fun s : SD => (stp s opY).2) hpr)
 have hP : (beginP d.dat gen seq data) = (stp (sweepS (tail1 (fill1 (head1 d.dat (gen + 1)) (snapOut (gen + 1) seq data)) (gen + 1)) (gen + 1) (dirD (tail1 (fill1 (head1 d.dat (gen + 1)) (snapOut (gen + 1) seq data)) (gen + 1)).1)) opY) := by unfold beginP; rw [← snapOut_y hsn]; exact begin_n h5
 refine WL.r 1 hs211 [] rfl (WL.nil (WC.seq (fun K212 hK212 => WC.r1 hs211 [] rfl ?_)))
 refine WC.cq rfl (fun h213 qh213 => ?_) (fun h213 qh213 => ?_)
 ·have h0 : (stp (sweepS (tail1 (fill1 (head1 d.dat (gen + 1)) (snapOut (gen + 1) seq data)) (gen + 1)) (gen + 1) (dirD (tail1 (fill1 (head1 d.dat (gen + 1)) (snapOut (gen + 1) seq data)) (gen + 1)).1)) opY).2 = 0 := hvf.symm.trans (of_decide_eq_true h213)
  refine WC.region (WL.r 5 hs211 [] rfl (WL.st tbk hs211 0 rfl rfl (fun _ hs214 => WL.nil (hK212 _ _ (WC.sr (WL.r 4 hs214 [0] rfl (WL.st tbk hs214 2 rfl rfl (fun _ hs215 => ?_))))))))
  refine WL.r 1 hs215 [] rfl (WL.nil (WC.ret (retV2 rfl (resV.cellA tbk hs215 2 rfl rfl rfl rfl) (resV.tmp rfl) ?_)))
  obtain ⟨L216, L217, L218, hs222, ho219, ho220, ho221⟩ := ownDepotR.op hs215 ho207
  have hs223 := ((((hs222.fb b2).fb b4).fb b39).fb b37)
  obtain ⟨L225, hs224, ho226⟩ := ownDepotR.fl hs223 ho219 ho220 ho221
  have hs227 := ((((hs224.fb b2).fb b4).fb b39).fb b37)
  refine ⟨⟨⟨r205.Disk.Room, r205.Disk.Fuse, r205.Disk.Next, SlD.ofN ho219, SlD.of ho220, SlD.of ho221⟩, (gen + (1)), r205.Seq, r205.Size, r205.Stuck⟩, _, (by rw [hc]; first | done | rfl | (rw [hP, ← hvf]; first | done | rfl) | (rw [hP]; done)), (St.keep1 (hs227.fr L225)), ?_, ?_⟩
  · exact (by exact ho226)
  · rw [hdn, hP]; have q1_ := congrArg DepotD.Disk hfin; have q2_ := congrArg DepotD.Gen hfin; have q3_ := congrArg DepotD.Seq hfin; have q4_ := congrArg DepotD.Size hfin; have q5_ := congrArg DepotD.Stuck hfin; exact DepotD.ext' q1_ (show gen + 1 = (if _ = (0 : Int) then gen + 1 else gen) from (if_pos h0).symm) q3_ q4_ q5_
 have h0 : ¬ (stp (sweepS (tail1 (fill1 (head1 d.dat (gen + 1)) (snapOut (gen + 1) seq data)) (gen + 1)) (gen + 1) (dirD (tail1 (fill1 (head1 d.dat (gen + 1)) (snapOut (gen + 1) seq data)) (gen + 1)).1)) opY).2 = 0 := fun hx_ => (of_decide_eq_false h213) (hvf.trans hx_)
 refine WC.skip (hK212 _ _ (WC.sr (WL.r 4 hs211 [0] rfl (WL.st tbk hs211 2 rfl rfl (fun _ hs228 => WL.r 1 hs228 [] rfl (WL.nil (WC.ret ?_)))))))
 refine retV2 rfl (resV.cellA tbk hs228 2 rfl rfl rfl rfl) (resV.tmp rfl) ?_
 refine ⟨r205, _, (by rw [hc]; first | done | rfl | (rw [hP, ← hvf]; first | done | rfl) | (rw [hP]; done)), (St.keep1 (hs228.fr L206)), ?_, ?_⟩
 · exact ho207
 · rw [hdn, hP]; have q1_ := congrArg DepotD.Disk hfin; have q2_ := congrArg DepotD.Gen hfin; have q3_ := congrArg DepotD.Seq hfin; have q4_ := congrArg DepotD.Size hfin; have q5_ := congrArg DepotD.Stuck hfin; exact DepotD.ext' q1_ (q2_.trans (show gen = (if _ = (0 : Int) then gen + 1 else gen) from (if_neg h0).symm)) q3_ q4_ q5_
set_option maxHeartbeats 4000000 in
theorem k133_ (a : DepotR) (b : DepotR) (w : World) (f_a : okDepotR 549755813888 w a) (f_b : okDepotR 549755813888 w b) (hab : a.dat = b.dat) :
    Calls Tryz.prog 14 #[.agg #[i64 a.Disk.Room, i64 a.Disk.Fuse, i64 a.Disk.Next, .slice a.Disk.Files.A a.Disk.Files.n a.Disk.Files.c, .slice a.Disk.Kept.A a.Disk.Kept.n a.Disk.Kept.c, .slice a.Disk.Turns.A a.Disk.Turns.n a.Disk.Turns.c, i64 a.Gen, i64 a.Seq, i64 a.Size, .bool a.Stuck], .agg #[i64 b.Disk.Room, i64 b.Disk.Fuse, i64 b.Disk.Next, .slice b.Disk.Files.A b.Disk.Files.n b.Disk.Files.c, .slice b.Disk.Kept.A b.Disk.Kept.n b.Disk.Kept.c, .slice b.Disk.Turns.A b.Disk.Turns.n b.Disk.Turns.c, i64 b.Gen, i64 b.Seq, i64 b.Size, .bool b.Stuck]] w fun e w' => e = .returned (.bool true) ∧ St w [] [] w' := by
 have nb_a_Disk_Files := f_a.Disk.Files_n
 have nl_a_Disk_Files := f_a.Disk.Files.sl.len
 have nb_a_Disk_Kept := f_a.Disk.Kept_n
 have nl_a_Disk_Kept := f_a.Disk.Kept.len
 have nb_a_Disk_Turns := f_a.Disk.Turns_n
 have nl_a_Disk_Turns := f_a.Disk.Turns.len
 have nb_b_Disk_Files := f_b.Disk.Files_n
 have nl_b_Disk_Files := f_b.Disk.Files.sl.len
 have nb_b_Disk_Kept := f_b.Disk.Kept_n
 have nl_b_Disk_Kept := f_b.Disk.Kept.len
 have nb_b_Disk_Turns := f_b.Disk.Turns_n
 have nl_b_Disk_Turns := f_b.Disk.Turns.len
 have e_Disk : a.Disk.dat = b.Disk.dat := congrArg (fun d : DepotD => d.Disk) hab
 have e_Disk_Room : a.Disk.Room = b.Disk.Room := congrArg (fun d : DepotD => d.Disk.Room) hab
 have e_Disk_Fuse : a.Disk.Fuse = b.Disk.Fuse := congrArg (fun d : DepotD => d.Disk.Fuse) hab
 have e_Disk_Next : a.Disk.Next = b.Disk.Next := congrArg (fun d : DepotD => d.Disk.Next) hab
 have e_Disk_Files : a.Disk.Files.xs.map FileR.dat = b.Disk.Files.xs.map FileR.dat := congrArg (fun d : DepotD => d.Disk.Files) hab
 have e_Disk_Kept : a.Disk.Kept.xs = b.Disk.Kept.xs := congrArg (fun d : DepotD => d.Disk.Kept) hab
 have e_Disk_Turns : a.Disk.Turns.xs = b.Disk.Turns.xs := congrArg (fun d : DepotD => d.Disk.Turns) hab
 have e_Gen : a.Gen = b.Gen := congrArg (fun d : DepotD => d.Gen) hab
 have e_Seq : a.Seq = b.Seq := congrArg (fun d : DepotD => d.Seq) hab
 have e_Size : a.Size = b.Size := congrArg (fun d : DepotD => d.Size) hab
 have e_Stuck : a.Stuck = b.Stuck := congrArg (fun d : DepotD => d.Stuck) hab
 refine enter 31 Tryz.func14 rfl Tryz.ntmps14 rfl rfl ?_
 have hs1 := St.init w
 refine WC.sr (WL.bx hs1 rfl (fun b2 _ hs3 => WL.bx hs3 rfl (fun b4 _ hs5 => WL.r 1 hs5 [] rfl (WL.nil (WC.seq (fun K6 hK6 => WC.sr (WL.r 4 hs5 [1, 0] rfl ?_)))))))
 refine WL.cl Tryz.call30 rfl (k52_ a.Disk b.Disk _ (okDiskR.st0 f_a.Disk hs5) (okDiskR.st0 f_b.Disk hs5) ?_) ?_
 · first | assumption | rfl | omega
 rintro _ whs7 ⟨rfl, hs7⟩
 replace hs7 := hs5.call0 hs7
 refine ⟨_, rfl, WL.r 1 hs7 [] rfl (WL.nil (WC.condF rfl (by simp [e_Disk_Room, e_Disk_Fuse, e_Disk_Next, e_Gen, e_Seq, e_Size, e_Stuck]) (WC.skip (hK6 _ _ (WC.seq (fun K9 hK9 => WC.r1 hs7 [1, 0] rfl ?_))))))⟩
 refine WC.condF rfl (by simp [e_Disk_Room, e_Disk_Fuse, e_Disk_Next, e_Gen, e_Seq, e_Size, e_Stuck]) (WC.skip (hK9 _ _ (WC.seq (fun K11 hK11 => WC.r1 hs7 [1, 0] rfl (WC.condF rfl (by simp [e_Disk_Room, e_Disk_Fuse, e_Disk_Next, e_Gen, e_Seq, e_Size, e_Stuck]) (WC.skip (hK11 _ _ ?_)))))))
 refine WC.seq (fun K13 hK13 => WC.r1 hs7 [1, 0] rfl (WC.condF rfl (by simp [e_Disk_Room, e_Disk_Fuse, e_Disk_Next, e_Gen, e_Seq, e_Size, e_Stuck]) (WC.skip (hK13 _ _ (WC.seq (fun K15 hK15 => WC.r1 hs7 [1, 0] rfl (WC.condF rfl (by simp [e_Disk_Room, e_Disk_Fuse, e_Disk_Next, e_Gen, e_Seq, e_Size, e_Stuck]) ?_)))))))
 refine WC.skip (hK15 _ _ (WC.r1 hs7 [] rfl (WC.ret (rtv rfl rfl hs7 ?_))))
 rfl
theorem digB_zero (f : Nat) (a : List UInt8) : digB f 0 a = a := by
 cases f with
 | zero => rfl
 | succ f => unfold digB; rw [if_pos rfl]
theorem digB_step {f n : Nat} {a : List UInt8} (h : n < 10 ^ f) (h0 : 0 < n) : n / 10 < 10 ^ (f - 1) ∧ digB f n a = digB (f - 1) (n / 10) (ub (48 + ((n % 10 : Nat) : Int)) :: a) := by
 cases f with
 | zero => rw [Nat.pow_zero] at h; omega
 | succ f =>
  rw [Nat.add_sub_cancel]
  refine ⟨?_, ?_⟩
  ·rw [Nat.pow_succ] at h
   omega
  ·rw [digB, if_neg (by omega)]
theorem digB_room {f n : Nat} {a : List UInt8} {b : UInt8} (h : n < 10 ^ f) (h0 : 0 < n) (hl : a.length + f ≤ 40) : (b :: a).length + (f - 1) ≤ 40 := by
 cases f with
 | zero => rw [Nat.pow_zero] at h; omega
 | succ f => rw [List.length_cons]; omega
theorem k134_ (k : Int) (w : World) (hk : k ≤ 1099511627776) :
    Calls Tryz.prog 138 #[i64 k] w fun e w' => e = .returned (.string (markText k)) ∧ St w [] [] w' := by
 refine enter 20 Tryz.func138 rfl Tryz.ntmps138 rfl rfl ?_
 have hs1 := St.init w
 refine WC.r1 hs1 [] rfl (WC.seq (fun K2 hK2 => WC.r1 hs1 [] rfl ?_))
 refine WC.cD rfl (fun qh3 => ?_) (fun qh3 => ?_)
 ·refine WC.r1 hs1 [] rfl (WC.ret (tkR ?_))
  clear hK2
  refine rtv rfl rfl hs1 ?_
  rw [show markText k = ⟨#[109, 48]⟩ from by unfold markText; rw [if_pos (by omega)]]
 refine WC.skip (hK2 _ _ (WC.r1 hs1 [] rfl (WC.seq (fun K4 hK4 => WC.block ?_))))
 refine WC.lS [2, 5] rfl hs1 (fun k_ f w' => ∃ (d n : Nat) (z : List UInt8), k_ = n + n ∧ (n < 10 ^ d) ∧ (digB 40 k.toNat [] = digB d n z) ∧ (z.length + d ≤ 40) ∧ (n ≤ 1099511627776) ∧ Sub [(0, .int .i64 (n : Int)), (3, .string ⟨z.toArray⟩)] f) ((fun (d n : Nat) (z : List UInt8) => n + n) (40) (k.toNat) ([])) ?_ ?_
 ·refine ⟨40, k.toNat, [], rfl, ?_, ?_, ?_, ?_, ⟨?_, ?_, trivial⟩⟩
  · exact Nat.lt_of_le_of_lt (by omega : k.toNat ≤ 1099511627776) (by decide)
  · rfl
  · exact Nat.le_refl _
  · omega
  · (refine congrArg some (congrArg (Value.int _) ?_); omega)
  · rfl
 clear hs1
 rintro _ f w ⟨d, n, z, rfl, p0, p1, p2, p3, hG⟩ hF hs5
 refine WC.sub _ (hG.app hF) ?_
 clear hG hF
 refine WC.seq (fun K6 hK6 => WC.r1 hs5 [] rfl ?_)
 refine WC.cD rfl (fun qh7 => ?_) (fun qh7 => ?_)
 ·refine WC.skip (hK6 _ _ (WC.block (WC.sr (WL.r 1 hs5 [] rfl ?_))))
  refine WL.val rfl rfl rfl (Run.rem rfl rfl rfl ?_ ?_) ?_
  · omega
  · omega
  refine WL.r 2 hs5 [] rfl (WL.buildSlice hs5 Tryz.runUnderlying43 Tryz.sizeOf5 Tryz.zeroValue5 rfl rfl rfl rfl rfl rfl rfl rfl rfl rfl (fun b8 whs9 hs9 => WL.val rfl rfl rfl (Run.strOf (SlF.own1 (hs9.own _ (nthL_mem (i := 0) rfl)).1) Tryz.underlying43 Tryz.underlying5 Tryz.underlying9 rfl rfl) (WL.r 1 hs9 [] rfl ?_)))
  refine WL.val rfl rfl rfl (Run.addS rfl rfl rfl ?_) ?_
  · (show List.length _ + List.length _ ≤ _; simp; omega)
  refine WL.r 1 hs9 [] rfl (WL.nil (WC.region (WL.r 1 hs9 [] rfl (WL.val rfl rfl rfl (Run.quo rfl rfl rfl ?_ ?_ ?_) ?_))))
  · omega
  · omega
  · omega
  refine WL.r 1 hs9 [] rfl (WL.nil (ibN (tkN (⟨sbF rfl, (hs9.drop (by repeat (first | exact List.Sublist.refl _ | exact List.sublist_append_left _ _ | exact List.Sublist.trans (List.sublist_append_left _ _) (List.sublist_append_left _ _) | apply List.Sublist.cons | refine List.Sublist.trans ?_ (sR _)))), _, ?_, (d - 1), (n / 10), (ub (48 + ((n % 10 : Nat) : Int)) :: z), rfl, ?_, ?_, ?_, ?_, ⟨?_, ?_, trivial⟩⟩))))
  · omega
  · exact (digB_step (f := d) (n := n) (a := z) p0 (by omega)).1
  · exact p1.trans (digB_step (f := d) (n := n) (a := z) p0 (by omega)).2
  · exact digB_room p0 (by omega) p2
  · omega
  · (refine congrArg some (congrArg (Value.int _) ?_); omega)
  · (refine congrArg some (congrArg Value.string ?_); first | rfl | exact ByteArray.ext (by simp))
 refine WC.exit (hK4 _ _ (WC.sr (WL.r 1 hs5 [] rfl ?_)))
 refine WL.val rfl rfl rfl (Run.addS rfl rfl rfl ?_) ?_
 · (show List.length _ + List.length _ ≤ _; simp; omega)
 refine WL.r 1 hs5 [] rfl (WL.nil (WC.ret (rtv rfl rfl hs5 ?_)))
 rw [show markText k = ⟨(109 :: z).toArray⟩ from by unfold markText; rw [if_neg (by omega), p1, show n = 0 by omega, digB_zero]]; first | rfl | (congr 1; exact ByteArray.ext (by simp))
theorem k135_ (v_a : Value) (a : List LinkD) (L_a : Hp) (k : Int) (w : World) (o_a : OwnF encLink 101 v_a a L_a) (h_a : Hh w L_a) (h1 : 0 ≤ k) (h2 : k + 2 * (a.length : Int) ≤ 549755813888) (h3 : a.length ≤ 1099511627776) :
    Calls Tryz.prog 81 #[v_a, i64 k] w fun e w' => ∃ L1, e = .returned (.int .i64 (k + 2 * a.length)) ∧ St w (L_a.map (·.1)) L1 w' ∧ OwnF encLink 101 v_a (marks mkLink 2 k a.length) L1 := by
 obtain ⟨A_a, c_a, rfl⟩ := o_a.shape
 refine enter 28 Tryz.func81 rfl Tryz.ntmps81 rfl rfl ?_
 have hs1 := St.lent1 w L_a o_a h_a
 refine WC.r1 hs1 [] rfl (WC.seq (fun K2 hK2 => WC.r1 hs1 [] rfl (WC.block ?_)))
 refine WC.lO [4] rfl hs1 (fun k_ f L_ => ∃ (i : Nat) (q : Int), k_ = a.length - i ∧ (i ≤ a.length) ∧ (q = k + 2 * i) ∧ OwnF encLink 101 (.slice A_a (a.length) c_a) (fillM mkLink 2 k a i) L_ ∧ Sub [(0, .slice A_a (a.length) c_a), (5, .int .i64 i), (1, .int .i64 q)] f) (((fun (i : Nat) (q : Int) => a.length - i) (0) (k))) ?_ ?_
 ·refine ⟨0, k, rfl, ?_, ?_, (fillM_zero.symm ▸ o_a), ⟨rfl, rfl, rfl, trivial⟩⟩
  · exact Nat.zero_le _
  · simp
 clear hs1
 rintro _ f w L5 ⟨i, q, rfl, p0, p1, ho6, hG⟩ hF hs7
 refine WC.sub _ (hG.app hF) ?_
 clear hG hF
 have hfl : (fillM mkLink 2 k a i).length = a.length := fillM_len p0
 have hq : k + ((2 : Nat) : Int) * (i : Int) = q := by omega
 refine WC.seq (fun K8 hK8 => WC.r1 hs7 [] rfl ?_)
 refine WC.cq rfl (fun h9 qh9 => ?_) (fun h9 qh9 => ?_)
 ·refine WC.skip (hK8 _ _ (WC.seq (fun K10 hK10 => WC.block (WC.sr (WL.r 3 hs7 [] rfl ?_)))))
  refine WL.cl Tryz.call138 rfl (k134_ _ _ ?_) ?_
  · first | assumption | rfl | omega
  rintro _ whs11 ⟨rfl, hs11⟩
  replace hs11 := hs7.call0 hs11
  refine ⟨_, rfl, WL.val rfl rfl rfl (Run.idxN Tryz.runUnderlying31 Tryz.sizeOf101 rfl rfl rfl ?_ ?_ ?_) ?_⟩
  · exact SlF.some_ (SlF.ofOwn ho6 (hs11.ow L5))
  · omega
  · omega
  refine WL.val rfl rfl rfl (Run.fieldO Tryz.runUnderlying101 rfl rfl rfl Tryz.sizeOf9 rfl) ?_
  refine WL.storeF (x' := ⟨markText q, (gat encLink (fillM mkLink 2 k a i) i).Id⟩) hs11 ho6 Tryz.sizeOf9 rfl rfl rfl rfl rfl rfl rfl rfl rfl ?_ (by first | rfl | (rw [gat_set (by (try simp only [List.length_set]); omega) rfl]; rfl)) (fun L12 whs13 hs13 ho14 _ => ?_)
  · omega
  refine WL.nil (WC.r1 hs13 [] rfl (WC.sr (WL.r 3 hs13 [] rfl (WL.val rfl rfl rfl (Run.idxN Tryz.runUnderlying31 Tryz.sizeOf101 rfl rfl rfl ?_ ?_ ?_) ?_))))
  · exact SlF.some_ (SlF.ofOwn ho14 (hs13.ow L12))
  · omega
  · omega
  refine WL.val rfl rfl rfl (Run.fieldO Tryz.runUnderlying101 rfl rfl rfl Tryz.sizeOf3 rfl) ?_
  refine WL.storeF (x' := ⟨markText q, (q + 1)⟩) hs13 ho14 Tryz.sizeOf3 rfl rfl rfl rfl rfl rfl rfl rfl rfl ?_ (by first | rfl | (rw [gat_set (by (try simp only [List.length_set]); omega) rfl]; rfl)) (fun L15 whs16 hs16 ho17 _ => ?_)
  · omega
  refine WL.nil (WC.region (WL.r 3 hs16 [] rfl (WL.nil (hK10 _ _ (WC.region (WL.r 3 hs16 [] rfl (WL.nil ?_)))))))
  refine tkN ?_
  try simp only [List.set_set] at ho17
  rw [fillM_set (i := i) (by omega) (by rw [hq]; rfl) (by simp)] at ho17
  refine ⟨sbF rfl, _, hs16, _, ?_, i + 1, _, rfl, ?_, ?_, ho17, ⟨rfl, rfl, rfl, trivial⟩⟩
  · omega
  · omega
  · omega
 refine WC.exit (hK2 _ _ (WC.r1 hs7 [] rfl (WC.ret (retV1 rfl (resV.tmp rfl) ?_))))
 have hx_ := OwnF.eqOf (xs := marks mkLink 2 k a.length) ho6 (fillM_full (by omega))
 have hi_ : i = a.length := by omega
 refine ⟨_, ?_, (St.keep1 hs7), hx_ ▸ ho6⟩
 rw [p1, hi_]
theorem k136_ (A_a : Option Addr) (n_a c_a : Nat) (a : List LinkD) (k : Int) (m : Nat) (w : World) (f_a : SlF encLink w A_a n_a a) (hm : a = marks mkLink 2 k m) (h1 : 0 ≤ k) (h2 : k + 2 * (m : Int) ≤ 549755813888) (h3 : n_a ≤ 1099511627776) :
    Calls Tryz.prog 93 #[.slice A_a n_a c_a, i64 k] w fun e w' => e = .returned (.int .i64 (k + 2 * m)) ∧ St w [] [] w' := by
 have hnm : n_a = m := by rw [← f_a.len, hm, marks_len]
 subst hnm
 refine enter 32 Tryz.func93 rfl Tryz.ntmps93 rfl rfl ?_
 have hs1 := St.init w
 refine WC.r1 hs1 [] rfl (WC.seq (fun K2 hK2 => WC.r1 hs1 [] rfl (WC.block ?_)))
 refine WC.lS [0] rfl hs1 (fun k_ f w' => ∃ (i : Nat) (q : Int), k_ = n_a - i ∧ (i ≤ n_a) ∧ (q = k + 2 * i) ∧ Sub [(5, .int .i64 i), (1, .int .i64 q)] f) ((fun (i : Nat) (q : Int) => n_a - i) (0) (k)) ?_ ?_
 ·refine ⟨0, k, rfl, ?_, ?_, ⟨rfl, rfl, trivial⟩⟩
  · exact Nat.zero_le _
  · simp
 clear hs1
 rintro _ f w ⟨i, q, rfl, p0, p1, hG⟩ hF hs3
 refine WC.sub _ (hG.app hF) ?_
 clear hG hF
 have hq : k + ((2 : Nat) : Int) * (i : Int) = q := by omega
 refine WC.seq (fun K4 hK4 => WC.r1 hs3 [] rfl ?_)
 refine WC.cD rfl (fun qh5 => ?_) (fun qh5 => ?_)
 ·have hg : gat encLink a i = mkLink q := by rw [hm, marks_gat (by omega), hq]
  refine WC.skip (hK4 _ _ (WC.seq (fun K6 hK6 => WC.block (WC.seq (fun K7 hK7 => WC.sq1 hs3 (WQ.r 2 [] rfl ?_))))))
  refine WQ.val rfl rfl rfl (fun w_ hs_ => (Run.idxN Tryz.runUnderlying31 Tryz.sizeOf101 rfl rfl rfl ?_ ?_ ?_)) ?_
  · exact SlF.some_ (SlF.st0 f_a (hs_ : St _ _ _ _))
  · omega
  · omega
  refine WQ.val rfl rfl rfl (fun w_ hs_ => (Run.fieldO Tryz.runUnderlying101 rfl rfl rfl Tryz.sizeOf9 rfl)) ?_
  refine WQ.val rfl rfl rfl (fun w_ hs_ => (Run.load Tryz.isAgg9 rfl rfl (SlF.fld (SlF.st0 f_a (hs_ : St _ _ _ _)) ?_ rfl))) ?_
  · omega
  refine WQ.r 1 [] rfl ?_
  refine WQ.call rfl rfl rfl (fun w_ hs_ => (Run.call Tryz.call138 rfl rfl rfl)) (fun w_ hs_ => (k134_ _ _ ?_).mono fun e_ w_ h_ => ⟨h_.1, (hs_ : St _ _ _ _).call0 h_.2⟩) ?_
  · first | assumption | rfl | omega
  refine WQ.r 1 [] rfl (WQ.nil (fun _ (hs8 : St _ _ _ _) => WC.condF rfl (by simp [hg, mkLink]) (WC.skip (hK7 _ _ (WC.r1 hs8 [] rfl (WC.seq (fun K10 hK10 => WC.sr ?_)))))))
  refine WL.r 2 hs8 [] rfl (WL.val rfl rfl rfl (Run.idxN Tryz.runUnderlying31 Tryz.sizeOf101 rfl rfl rfl ?_ ?_ ?_) ?_)
  · exact SlF.some_ (SlF.st0 f_a hs8)
  · omega
  · omega
  refine WL.val rfl rfl rfl (Run.fieldO Tryz.runUnderlying101 rfl rfl rfl Tryz.sizeOf3 rfl) (WL.val rfl rfl rfl (Run.load Tryz.isAgg3 rfl rfl (SlF.fld (SlF.st0 f_a hs8) ?_ rfl)) ?_)
  · omega
  refine WL.r 2 hs8 [] rfl (WL.nil (WC.condF rfl (by simp [hg, mkLink]) (WC.skip (hK10 _ _ (WC.region (WL.r 3 hs8 [] rfl (WL.nil ?_)))))))
  refine hK6 _ _ (WC.region (WL.r 3 hs8 [] rfl (WL.nil (tkN ?_))))
  refine ⟨sbF rfl, hs8, _, ?_, i + 1, _, rfl, ?_, ?_, ⟨rfl, rfl, trivial⟩⟩
  · omega
  · omega
  · omega
 refine WC.exit (hK2 _ _ (WC.r1 hs3 [] rfl (WC.ret (rtv rfl rfl hs3 ?_))))
 rw [p1, show i = n_a from by omega]
theorem k137_ (v_a : Value) (a : List TurnD) (L_a : Hp) (k : Int) (w : World) (o_a : OwnF encTurn 137 v_a a L_a) (h_a : Hh w L_a) (h1 : 0 ≤ k) (h2 : k + 4 * (a.length : Int) ≤ 549755813888) (h3 : a.length ≤ 1099511627776) :
    Calls Tryz.prog 82 #[v_a, i64 k] w fun e w' => ∃ L1, e = .returned (.int .i64 (k + 4 * a.length)) ∧ St w (L_a.map (·.1)) L1 w' ∧ OwnF encTurn 137 v_a (marks mkTurn 4 k a.length) L1 := by
 obtain ⟨A_a, c_a, rfl⟩ := o_a.shape
 refine enter 43 Tryz.func82 rfl Tryz.ntmps82 rfl rfl ?_
 have hs1 := St.lent1 w L_a o_a h_a
 refine WC.r1 hs1 [] rfl (WC.seq (fun K2 hK2 => WC.r1 hs1 [] rfl (WC.block ?_)))
 refine WC.lO [4] rfl hs1 (fun k_ f L_ => ∃ (i : Nat) (q : Int), k_ = a.length - i ∧ (i ≤ a.length) ∧ (q = k + 4 * i) ∧ OwnF encTurn 137 (.slice A_a (a.length) c_a) (fillM mkTurn 4 k a i) L_ ∧ Sub [(0, .slice A_a (a.length) c_a), (5, .int .i64 i), (1, .int .i64 q)] f) (((fun (i : Nat) (q : Int) => a.length - i) (0) (k))) ?_ ?_
 ·refine ⟨0, k, rfl, ?_, ?_, (fillM_zero.symm ▸ o_a), ⟨rfl, rfl, rfl, trivial⟩⟩
  · exact Nat.zero_le _
  · simp
 clear hs1
 rintro _ f w L5 ⟨i, q, rfl, p0, p1, ho6, hG⟩ hF hs7
 refine WC.sub _ (hG.app hF) ?_
 clear hG hF
 have hfl : (fillM mkTurn 4 k a i).length = a.length := fillM_len p0
 have hq : k + ((4 : Nat) : Int) * (i : Int) = q := by omega
 refine WC.seq (fun K8 hK8 => WC.r1 hs7 [] rfl ?_)
 refine WC.cq rfl (fun h9 qh9 => ?_) (fun h9 qh9 => ?_)
 ·refine WC.skip (hK8 _ _ (WC.seq (fun K10 hK10 => WC.block (WC.sr (WL.r 3 hs7 [] rfl ?_)))))
  refine WL.val rfl rfl rfl (Run.idxN Tryz.runUnderlying32 Tryz.sizeOf137 rfl rfl rfl ?_ ?_ ?_) ?_
  · exact SlF.some_ (SlF.ofOwn ho6 (hs7.ow L5))
  · omega
  · omega
  refine WL.val rfl rfl rfl (Run.fieldO Tryz.runUnderlying137 rfl rfl rfl Tryz.sizeOf3 rfl) ?_
  refine WL.storeF (x' := ⟨q, (gat encTurn (fillM mkTurn 4 k a i) i).Name, (gat encTurn (fillM mkTurn 4 k a i) i).To, (gat encTurn (fillM mkTurn 4 k a i) i).Id⟩) hs7 ho6 Tryz.sizeOf3 rfl rfl rfl rfl rfl rfl rfl rfl rfl ?_ (by first | rfl | (rw [gat_set (by (try simp only [List.length_set]); omega) rfl]; rfl)) (fun L11 whs12 hs12 ho13 _ => ?_)
  · omega
  refine WL.nil (WC.r1 hs12 [] rfl (WC.sr (WL.r 3 hs12 [] rfl (WL.cl Tryz.call138 rfl (k134_ _ _ ?_) ?_))))
  · first | assumption | rfl | omega
  rintro _ whs14 ⟨rfl, hs14⟩
  replace hs14 := hs12.call0 hs14
  refine ⟨_, rfl, WL.val rfl rfl rfl (Run.idxN Tryz.runUnderlying32 Tryz.sizeOf137 rfl rfl rfl ?_ ?_ ?_) ?_⟩
  · exact SlF.some_ (SlF.ofOwn ho13 (hs14.ow L11))
  · omega
  · omega
  refine WL.val rfl rfl rfl (Run.fieldO Tryz.runUnderlying137 rfl rfl rfl Tryz.sizeOf9 rfl) ?_
  refine WL.storeF (x' := ⟨q, markText (q + 1), (gat encTurn (fillM mkTurn 4 k a i) i).To, (gat encTurn (fillM mkTurn 4 k a i) i).Id⟩) hs14 ho13 Tryz.sizeOf9 rfl rfl rfl rfl rfl rfl rfl rfl rfl ?_ (by first | rfl | (rw [gat_set (by (try simp only [List.length_set]); omega) rfl]; rfl)) (fun L15 whs16 hs16 ho17 _ => ?_)
  · omega
  refine WL.nil (WC.r1 hs16 [] rfl (WC.sr (WL.r 3 hs16 [] rfl (WL.cl Tryz.call138 rfl (k134_ _ _ ?_) ?_))))
  · first | assumption | rfl | omega
  rintro _ whs18 ⟨rfl, hs18⟩
  replace hs18 := hs16.call0 hs18
  refine ⟨_, rfl, WL.val rfl rfl rfl (Run.idxN Tryz.runUnderlying32 Tryz.sizeOf137 rfl rfl rfl ?_ ?_ ?_) ?_⟩
  · exact SlF.some_ (SlF.ofOwn ho17 (hs18.ow L15))
  · omega
  · omega
  refine WL.val rfl rfl rfl (Run.fieldO Tryz.runUnderlying137 rfl rfl rfl Tryz.sizeOf9 rfl) ?_
  refine WL.storeF (x' := ⟨q, markText (q + 1), markText (q + 1 + 1), (gat encTurn (fillM mkTurn 4 k a i) i).Id⟩) hs18 ho17 Tryz.sizeOf9 rfl rfl rfl rfl rfl rfl rfl rfl rfl ?_ (by first | rfl | (rw [gat_set (by (try simp only [List.length_set]); omega) rfl]; rfl)) (fun L19 whs20 hs20 ho21 _ => ?_)
  · omega
  refine WL.nil (WC.r1 hs20 [] rfl (WC.sr (WL.r 3 hs20 [] rfl (WL.val rfl rfl rfl (Run.idxN Tryz.runUnderlying32 Tryz.sizeOf137 rfl rfl rfl ?_ ?_ ?_) ?_))))
  · exact SlF.some_ (SlF.ofOwn ho21 (hs20.ow L19))
  · omega
  · omega
  refine WL.val rfl rfl rfl (Run.fieldO Tryz.runUnderlying137 rfl rfl rfl Tryz.sizeOf3 rfl) ?_
  refine WL.storeF (x' := ⟨q, markText (q + 1), markText (q + 1 + 1), (q + 1 + 1 + 1)⟩) hs20 ho21 Tryz.sizeOf3 rfl rfl rfl rfl rfl rfl rfl rfl rfl ?_ (by first | rfl | (rw [gat_set (by (try simp only [List.length_set]); omega) rfl]; rfl)) (fun L22 whs23 hs23 ho24 _ => ?_)
  · omega
  refine WL.nil (WC.region (WL.r 3 hs23 [] rfl (WL.nil (hK10 _ _ (WC.region (WL.r 3 hs23 [] rfl (WL.nil ?_)))))))
  refine tkN ?_
  try simp only [List.set_set] at ho24
  rw [fillM_set (i := i) (by omega) (by rw [hq]; rfl) (by simp)] at ho24
  refine ⟨sbF rfl, _, hs23, _, ?_, i + 1, _, rfl, ?_, ?_, ho24, ⟨rfl, rfl, rfl, trivial⟩⟩
  · omega
  · omega
  · omega
 refine WC.exit (hK2 _ _ (WC.r1 hs7 [] rfl (WC.ret (retV1 rfl (resV.tmp rfl) ?_))))
 have hx_ := OwnF.eqOf (xs := marks mkTurn 4 k a.length) ho6 (fillM_full (by omega))
 have hi_ : i = a.length := by omega
 refine ⟨_, ?_, (St.keep1 hs7), hx_ ▸ ho6⟩
 rw [p1, hi_]
theorem k138_ (A_a : Option Addr) (n_a c_a : Nat) (a : List TurnD) (k : Int) (m : Nat) (w : World) (f_a : SlF encTurn w A_a n_a a) (hm : a = marks mkTurn 4 k m) (h1 : 0 ≤ k) (h2 : k + 4 * (m : Int) ≤ 549755813888) (h3 : n_a ≤ 1099511627776) :
    Calls Tryz.prog 94 #[.slice A_a n_a c_a, i64 k] w fun e w' => e = .returned (.int .i64 (k + 4 * m)) ∧ St w [] [] w' := by
 have hnm : n_a = m := by rw [← f_a.len, hm, marks_len]
 subst hnm
 refine enter 51 Tryz.func94 rfl Tryz.ntmps94 rfl rfl ?_
 have hs1 := St.init w
 refine WC.r1 hs1 [] rfl (WC.seq (fun K2 hK2 => WC.r1 hs1 [] rfl (WC.block ?_)))
 refine WC.lS [0] rfl hs1 (fun k_ f w' => ∃ (i : Nat) (q : Int), k_ = n_a - i ∧ (i ≤ n_a) ∧ (q = k + 4 * i) ∧ Sub [(5, .int .i64 i), (1, .int .i64 q)] f) ((fun (i : Nat) (q : Int) => n_a - i) (0) (k)) ?_ ?_
 ·refine ⟨0, k, rfl, ?_, ?_, ⟨rfl, rfl, trivial⟩⟩
  · exact Nat.zero_le _
  · simp
 clear hs1
 rintro _ f w ⟨i, q, rfl, p0, p1, hG⟩ hF hs3
 refine WC.sub _ (hG.app hF) ?_
 clear hG hF
 have hq : k + ((4 : Nat) : Int) * (i : Int) = q := by omega
 refine WC.seq (fun K4 hK4 => WC.r1 hs3 [] rfl ?_)
 refine WC.cD rfl (fun qh5 => ?_) (fun qh5 => ?_)
 ·have hg : gat encTurn a i = mkTurn q := by rw [hm, marks_gat (by omega), hq]
  refine WC.skip (hK4 _ _ (WC.seq (fun K6 hK6 => WC.block (WC.seq (fun K7 hK7 => WC.sr (WL.r 2 hs3 [] rfl ?_))))))
  refine WL.val rfl rfl rfl (Run.idxN Tryz.runUnderlying32 Tryz.sizeOf137 rfl rfl rfl ?_ ?_ ?_) ?_
  · exact SlF.some_ (SlF.st0 f_a hs3)
  · omega
  · omega
  refine WL.val rfl rfl rfl (Run.fieldO Tryz.runUnderlying137 rfl rfl rfl Tryz.sizeOf3 rfl) (WL.val rfl rfl rfl (Run.load Tryz.isAgg3 rfl rfl (SlF.fld (SlF.st0 f_a hs3) ?_ rfl)) ?_)
  · omega
  refine WL.r 2 hs3 [] rfl (WL.nil (WC.condF rfl (by simp [hg, mkTurn]) (WC.skip (hK7 _ _ (WC.r1 hs3 [] rfl (WC.seq (fun K9 hK9 => WC.sq1 hs3 ?_)))))))
  refine WQ.r 2 [] rfl ?_
  refine WQ.val rfl rfl rfl (fun w_ hs_ => (Run.idxN Tryz.runUnderlying32 Tryz.sizeOf137 rfl rfl rfl ?_ ?_ ?_)) ?_
  · exact SlF.some_ (SlF.st0 f_a (hs_ : St _ _ _ _))
  · omega
  · omega
  refine WQ.val rfl rfl rfl (fun w_ hs_ => (Run.fieldO Tryz.runUnderlying137 rfl rfl rfl Tryz.sizeOf9 rfl)) ?_
  refine WQ.val rfl rfl rfl (fun w_ hs_ => (Run.load Tryz.isAgg9 rfl rfl (SlF.fld (SlF.st0 f_a (hs_ : St _ _ _ _)) ?_ rfl))) ?_
  · omega
  refine WQ.r 1 [] rfl ?_
  refine WQ.call rfl rfl rfl (fun w_ hs_ => (Run.call Tryz.call138 rfl rfl rfl)) (fun w_ hs_ => (k134_ _ _ ?_).mono fun e_ w_ h_ => ⟨h_.1, (hs_ : St _ _ _ _).call0 h_.2⟩) ?_
  · first | assumption | rfl | omega
  refine WQ.r 1 [] rfl (WQ.nil (fun _ (hs10 : St _ _ _ _) => WC.condF rfl (by simp [hg, mkTurn]) (WC.skip (hK9 _ _ (WC.r1 hs10 [] rfl (WC.seq (fun K12 hK12 => WC.sq1 hs10 ?_)))))))
  refine WQ.r 2 [] rfl ?_
  refine WQ.val rfl rfl rfl (fun w_ hs_ => (Run.idxN Tryz.runUnderlying32 Tryz.sizeOf137 rfl rfl rfl ?_ ?_ ?_)) ?_
  · exact SlF.some_ (SlF.st0 f_a (hs_ : St _ _ _ _))
  · omega
  · omega
  refine WQ.val rfl rfl rfl (fun w_ hs_ => (Run.fieldO Tryz.runUnderlying137 rfl rfl rfl Tryz.sizeOf9 rfl)) ?_
  refine WQ.val rfl rfl rfl (fun w_ hs_ => (Run.load Tryz.isAgg9 rfl rfl (SlF.fld (SlF.st0 f_a (hs_ : St _ _ _ _)) ?_ rfl))) ?_
  · omega
  refine WQ.r 1 [] rfl ?_
  refine WQ.call rfl rfl rfl (fun w_ hs_ => (Run.call Tryz.call138 rfl rfl rfl)) (fun w_ hs_ => (k134_ _ _ ?_).mono fun e_ w_ h_ => ⟨h_.1, (hs_ : St _ _ _ _).call0 h_.2⟩) ?_
  · first | assumption | rfl | omega
  refine WQ.r 1 [] rfl (WQ.nil (fun _ (hs13 : St _ _ _ _) => WC.condF rfl (by simp [hg, mkTurn]) (WC.skip (hK12 _ _ (WC.r1 hs13 [] rfl (WC.seq (fun K15 hK15 => WC.sr ?_)))))))
  refine WL.r 2 hs13 [] rfl (WL.val rfl rfl rfl (Run.idxN Tryz.runUnderlying32 Tryz.sizeOf137 rfl rfl rfl ?_ ?_ ?_) ?_)
  · exact SlF.some_ (SlF.st0 f_a hs13)
  · omega
  · omega
  refine WL.val rfl rfl rfl (Run.fieldO Tryz.runUnderlying137 rfl rfl rfl Tryz.sizeOf3 rfl) (WL.val rfl rfl rfl (Run.load Tryz.isAgg3 rfl rfl (SlF.fld (SlF.st0 f_a hs13) ?_ rfl)) ?_)
  · omega
  refine WL.r 2 hs13 [] rfl (WL.nil (WC.condF rfl (by simp [hg, mkTurn]) (WC.skip (hK15 _ _ (WC.region (WL.r 3 hs13 [] rfl (WL.nil ?_)))))))
  refine hK6 _ _ (WC.region (WL.r 3 hs13 [] rfl (WL.nil (tkN ?_))))
  refine ⟨sbF rfl, hs13, _, ?_, i + 1, _, rfl, ?_, ?_, ⟨rfl, rfl, trivial⟩⟩
  · omega
  · omega
  · omega
 refine WC.exit (hK2 _ _ (WC.r1 hs3 [] rfl (WC.ret (rtv rfl rfl hs3 ?_))))
 rw [p1, show i = n_a from by omega]
set_option maxHeartbeats 16000000 in
set_option maxRecDepth 20000 in
theorem k139_ (v_a : Value) (a : List FileR) (L_a : Hp) (k : Int) (w : World) (o_a : OwnN encFileR ownFileR 123 v_a a L_a) (h_a : Hh w L_a) (hd_ : ((L_a).map (·.1)).Nodup) (h1 : 0 ≤ k) (h2 : k + cnts cntEFile a ≤ 549755813888) (h3 : a.length ≤ 549755813888) :
    Calls Tryz.prog 80 #[v_a, i64 k] w fun e w' => ∃ L1, e = .returned (.int .i64 (k + cnts cntEFile a)) ∧ St w (L_a.map (·.1)) L1 w' ∧ OwnN encFileR ownFileR 123 v_a (mrks mkEFile cntEFile k a) L1 := by
 obtain ⟨A_a, c_a, rfl⟩ := o_a.shape
 have hcn : ∀ x, 0 ≤ cntEFile x := cntEFile_ge
 refine enter 34 Tryz.func80 rfl Tryz.ntmps80 rfl rfl ?_
 have hs1 := St.takes1 w L_a h_a hd_
 refine WC.r1 hs1 [] rfl (WC.seq (fun K2 hK2 => WC.r1 hs1 [] rfl (WC.block ?_)))
 refine WC.lO [4] rfl hs1 (fun k_ f L_ => ∃ (i : Nat), k_ = a.length - i ∧ (i ≤ a.length) ∧ OwnN encFileR ownFileR 123 (.slice A_a (a.length) c_a) (mrkTo mkEFile cntEFile k a i) L_ ∧ Sub [(0, .slice A_a (a.length) c_a), (5, .int .i64 i), (1, .int .i64 (k + cnts cntEFile (a.take i)))] f) (((fun (i : Nat) => a.length - i) (0))) ?_ ?_
 ·refine ⟨0, rfl, ?_, (mrkTo_zero.symm ▸ o_a), ⟨rfl, rfl, ?_, trivial⟩⟩
  · exact Nat.zero_le _
  · (refine congrArg some (congrArg (Value.int _) ?_); simp [cnts])
 clear hs1
 rintro _ f w L5 ⟨i, rfl, p0, ho6, hG⟩ hF hs7
 refine WC.sub _ (hG.app hF) ?_
 clear hG hF
 have hfl : (mrkTo mkEFile cntEFile k a i).length = a.length := mrkTo_len p0
 have hq0 := cnts_nonneg (c := cntEFile) hcn (a.take i)
 have hq1 := cnts_take_le hcn a i
 refine WC.seq (fun K8 hK8 => WC.r1 hs7 [] rfl ?_)
 refine WC.cq rfl (fun h9 qh9 => ?_) (fun h9 qh9 => ?_)
 ·have hg := mrkTo_gat (mk := mkEFile) (c := cntEFile) (F := encFileR) (k := k) (xs := a) (i := i) (by omega)
  have hq2 := cnts_take (c := cntEFile) (F := encFileR) (xs := a) (i := i) (by omega)
  have hq3 := cnts_take_le hcn a (i + 1)
  have hq4 := hq2
  simp only [cntEFile, ← hg] at hq4
  refine WC.skip (hK8 _ _ (WC.seq (fun K10 hK10 => WC.block (WC.sr (WL.r 3 hs7 [] rfl ?_)))))
  refine WL.val rfl rfl rfl (Run.idxN Tryz.runUnderlying30 Tryz.sizeOf123 rfl rfl rfl ?_ ?_ ?_) ?_
  · exact SlF.some_ (OwnN.sl ho6 (hs7.ow L5))
  · omega
  · omega
  refine WL.val rfl rfl rfl (Run.fieldO Tryz.runUnderlying123 rfl rfl rfl Tryz.sizeOf3 rfl) ?_
  obtain ⟨L11, L12, hs15, ho13, ho14⟩ := OwnN.open_ hs7 ho6
  obtain ⟨y_1, hy_1⟩ : ∃ z_, z_ = ({ (gat encFileR (mrkTo mkEFile cntEFile k a i) i) with Id := (k + cnts cntEFile (a.take i)) } : FileR) := ⟨_, rfl⟩
  refine WL.storeF (x' := y_1) hs15 ho13 Tryz.sizeOf3 rfl rfl rfl rfl rfl rfl rfl rfl rfl ?_ (by rw [hy_1]; rfl) (fun L16 whs17 hs17 ho18 _ => ?_)
  · omega
  refine WL.nil (WC.r1 hs17 [] rfl (WC.sr (WL.r 2 hs17 [] rfl (WL.val rfl rfl rfl (Run.idxN Tryz.runUnderlying30 Tryz.sizeOf123 rfl rfl rfl ?_ ?_ ?_) ?_))))
  · exact SlF.some_ (SlF.ofOwn ho18 (hs17.ow L16))
  · omega
  · omega
  refine WL.val rfl rfl rfl (Run.fieldO Tryz.runUnderlying123 rfl rfl rfl Tryz.sizeOf43 rfl) (WL.val rfl rfl rfl (Run.load Tryz.isAgg43 rfl rfl (SlF.fld (v := .slice (gat encFileR (mrkTo mkEFile cntEFile k a i) i).Body.A (gat encFileR (mrkTo mkEFile cntEFile k a i) i).Body.n (gat encFileR (mrkTo mkEFile cntEFile k a i) i).Body.c) (SlF.ofOwn ho18 (hs17.ow L16)) ?_ ?_)) ?_)
  · omega
  · first | (rw [gat_set (by (try simp only [List.length_set]); omega) rfl]; simp only [hy_1]; done) | (rw [gat_set (by (try simp only [List.length_set]); omega) rfl]; simp only [hy_1]; rfl) | rfl
  refine WL.r 1 hs17 [] rfl ?_
  obtain ⟨L20, L21, L22, hs23, ho24, hp25⟩ := Bag.out (F := encFileR) (i := i) (hs17.fr L12) ho14 (by rw [mrkTo_len (by omega)]; omega)
  refine WL.cl Tryz.call21 rfl (k7_ _ _ _ _ _ ho24 (hs23.ow L21) ?_ ?_ ?_) ?_
  iterate 3 first | assumption | rfl | omega
  rintro _ whs19 ⟨L1_26, rfl, hs19, ho27⟩
  replace hs19 := St.lend hs23 hs19
  refine ⟨_, rfl, WL.r 1 hs19 [] rfl (WL.nil (WC.sr (WL.r 3 hs19 [] rfl (WL.val rfl rfl rfl (Run.idxN Tryz.runUnderlying30 Tryz.sizeOf123 rfl rfl rfl ?_ ?_ ?_) ?_))))⟩
  · exact SlF.some_ (SlF.ofOwn ho18 (hs19.ow L16))
  · omega
  · omega
  refine WL.val rfl rfl rfl (Run.fieldO Tryz.runUnderlying123 rfl rfl rfl Tryz.sizeOf3 rfl) ?_
  obtain ⟨y_2, hy_2⟩ : ∃ z_, z_ = ({ y_1 with Safe := (((k + cnts cntEFile (a.take i)) + 1) + 1 * ((gat encFileR (mrkTo mkEFile cntEFile k a i) i).Body.xs.length : Int)) } : FileR) := ⟨_, rfl⟩
  refine WL.storeF (x' := y_2) (hs19.fr L16) ho18 Tryz.sizeOf3 rfl rfl rfl rfl rfl rfl rfl rfl rfl ?_ (by first | (rw [hy_2, gat_set (by (try simp only [List.length_set]); omega) rfl]; rfl) | (rw [hy_2]; rfl)) (fun L28 whs29 hs29 ho30 _ => ?_)
  · omega
  refine WL.nil (WC.region (WL.r 3 hs29 [] rfl (WL.nil (hK10 _ _ (WC.region (WL.r 3 hs29 [] rfl (WL.nil ?_)))))))
  refine tkN ?_
  obtain ⟨L31, hs32, hb33⟩ := hp25 (mkEFile (k + cnts cntEFile (a.take i)) (gat encFileR a i)) _ ((hs29.fr (L20 ++ L22)).fr L1_26) (by have h_ := ho27; first | exact h_ | (simp only [hg] at h_; exact h_))
  rw [mrkTo_set (F := encFileR) (by omega) rfl] at hb33
  have ho34 := OwnF.recast (ys := mrkTo mkEFile cntEFile k a (i + 1)) ho30 (by rw [mrkTo_len (by omega)]; (try simp only [List.length_set]); exact hfl.symm) (by rw [← mrkTo_set (F := encFileR) (i := i) (by omega) rfl]; try simp only [List.set_set]; exact rows_set_enc (by simp only [hy_2, hy_1, hg]; rfl))
  obtain ⟨L36, hs35, ho37⟩ := OwnN.fold (hs32.fr L28) ho34 hb33
  refine ⟨sbF rfl, _, hs35, _, ?_, i + 1, rfl, ?_, ho37, ⟨rfl, rfl, ?_, trivial⟩⟩
  · omega
  · omega
  · (refine congrArg some (congrArg (Value.int _) ?_); rw [cnts_take (F := encFileR) (by omega)]; simp only [cntEFile, hg]; omega)
 refine WC.exit (hK2 _ _ (WC.r1 hs7 [] rfl (WC.ret (retV1 rfl (resV.tmp rfl) ?_))))
 have hi_ : i = a.length := by omega
 have hx_ := ho6
 rw [mrkTo_full (by omega)] at hx_
 refine ⟨_, ?_, (St.keep1 hs7), hx_⟩
 rw [hi_, List.take_of_length_le (Nat.le_refl _)]
theorem k140_ (A_a : Option Addr) (n_a c_a : Nat) (a : List FileR) (k : Int) (w : World) (f_a : SlN encFileR (okFileR 549755813888) w A_a n_a (mrks mkEFile cntEFile k a)) (h1 : 0 ≤ k) (h2 : k + cnts cntEFile a ≤ 549755813888) (h3 : n_a ≤ 549755813888) :
    Calls Tryz.prog 92 #[.slice A_a n_a c_a, i64 k] w fun e w' => e = .returned (.int .i64 (k + cnts cntEFile a)) ∧ St w [] [] w' := by
 have hl : a.length = n_a := by have h_ := f_a.sl.len; simpa [mrks_len] using h_
 have hcn : ∀ x, 0 ≤ cntEFile x := fun x => by simp only [cntEFile]; omega
 refine enter 40 Tryz.func92 rfl Tryz.ntmps92 rfl rfl ?_
 have hs1 := St.init w
 refine WC.r1 hs1 [] rfl (WC.seq (fun K2 hK2 => WC.r1 hs1 [] rfl (WC.block ?_)))
 refine WC.lS [0] rfl hs1 (fun k_ f w' => ∃ (i : Nat), k_ = n_a - i ∧ (i ≤ n_a) ∧ Sub [(5, .int .i64 i), (1, .int .i64 (k + cnts cntEFile (a.take i)))] f) ((fun (i : Nat) => n_a - i) (0)) ?_ ?_
 ·refine ⟨0, rfl, ?_, ⟨rfl, ?_, trivial⟩⟩
  · exact Nat.zero_le _
  · (refine congrArg some (congrArg (Value.int _) ?_); simp [cnts])
 clear hs1
 rintro _ f w ⟨i, rfl, p0, hG⟩ hF hs3
 refine WC.sub _ (hG.app hF) ?_
 clear hG hF
 have hq0 := cnts_nonneg (c := cntEFile) hcn (a.take i)
 have hq1 := cnts_take_le hcn a i
 refine WC.seq (fun K4 hK4 => WC.r1 hs3 [] rfl ?_)
 refine WC.cD rfl (fun qh5 => ?_) (fun qh5 => ?_)
 ·have hg := mrks_gat (mk := mkEFile) (c := cntEFile) (F := encFileR) (k := k) (xs := a) (i := i) (by omega)
  have hq2 := cnts_take (c := cntEFile) (F := encFileR) (xs := a) (i := i) (by omega)
  have hq3 := cnts_take_le hcn a (i + 1)
  simp only [cntEFile] at hq2
  have hng := (SlN.nth f_a (show i < n_a by omega))
  rw [hg] at hng
  have hnl_Body := hng.Body.len
  have hnn_Body := hng.Body_n
  simp only [mkEFile, marks_len, mrks_len] at hnl_Body hnn_Body
  have hgn_Body : (gat encFileR (mrks mkEFile cntEFile k a) i).Body.n = (gat encFileR a i).Body.n := by rw [hg]; rfl
  have hm_Body : (gat encFileR (mrks mkEFile cntEFile k a) i).Body.xs = marks ub 1 ((k + cnts cntEFile (a.take i)) + 1) (gat encFileR a i).Body.xs.length := by rw [hg]; rfl
  refine WC.skip (hK4 _ _ (WC.seq (fun K6 hK6 => WC.block (WC.seq (fun K7 hK7 => WC.sr (WL.r 2 hs3 [] rfl ?_))))))
  refine WL.val rfl rfl rfl (Run.idxN Tryz.runUnderlying30 Tryz.sizeOf123 rfl rfl rfl ?_ ?_ ?_) ?_
  · exact SlF.some_ (SlF.st0 f_a.sl hs3)
  · omega
  · omega
  refine WL.val rfl rfl rfl (Run.fieldO Tryz.runUnderlying123 rfl rfl rfl Tryz.sizeOf3 rfl) (WL.val rfl rfl rfl (Run.load Tryz.isAgg3 rfl rfl (SlF.fld (SlF.st0 f_a.sl hs3) ?_ rfl)) ?_)
  · omega
  refine WL.r 2 hs3 [] rfl (WL.nil (WC.condF rfl (by simp [hg, mkEFile]) (WC.skip (hK7 _ _ (WC.r1 hs3 [] rfl (WC.sr (WL.r 2 hs3 [] rfl ?_)))))))
  refine WL.val rfl rfl rfl (Run.idxN Tryz.runUnderlying30 Tryz.sizeOf123 rfl rfl rfl ?_ ?_ ?_) ?_
  · exact SlF.some_ (SlF.st0 f_a.sl hs3)
  · omega
  · omega
  refine WL.val rfl rfl rfl (Run.fieldO Tryz.runUnderlying123 rfl rfl rfl Tryz.sizeOf43 rfl) (WL.val rfl rfl rfl (Run.load Tryz.isAgg43 rfl rfl (SlF.fld (SlF.st0 f_a.sl hs3) ?_ rfl)) ?_)
  · omega
  refine WL.r 1 hs3 [] rfl (WL.cl Tryz.call155 rfl (k8_ _ _ _ _ _ _ _ (SlF.st0 (SlN.nth f_a (by omega)).Body hs3) hm_Body ?_ ?_ ?_) ?_)
  iterate 3 first | assumption | rfl | omega
  rintro _ whs9 ⟨rfl, hs9⟩
  replace hs9 := hs3.call0 hs9
  refine ⟨_, rfl, WL.r 1 hs9 [] rfl (WL.nil (WC.seq (fun K10 hK10 => WC.r1 hs9 [] rfl ?_)))⟩
  refine WC.condF rfl (by first | (simp [hg, mkEFile]; done) | (simp [hg, mkEFile]; omega)) (WC.skip (hK10 _ _ (WC.seq (fun K12 hK12 => WC.sr (WL.r 2 hs9 [] rfl ?_)))))
  refine WL.val rfl rfl rfl (Run.idxN Tryz.runUnderlying30 Tryz.sizeOf123 rfl rfl rfl ?_ ?_ ?_) ?_
  · exact SlF.some_ (SlF.st0 f_a.sl hs9)
  · omega
  · omega
  refine WL.val rfl rfl rfl (Run.fieldO Tryz.runUnderlying123 rfl rfl rfl Tryz.sizeOf3 rfl) (WL.val rfl rfl rfl (Run.load Tryz.isAgg3 rfl rfl (SlF.fld (SlF.st0 f_a.sl hs9) ?_ rfl)) ?_)
  · omega
  refine WL.r 2 hs9 [] rfl (WL.nil (WC.condF rfl (by simp [hg, mkEFile]) (WC.skip (hK12 _ _ (WC.region (WL.r 3 hs9 [] rfl (WL.nil ?_)))))))
  refine hK6 _ _ (WC.region (WL.r 3 hs9 [] rfl (WL.nil (tkN ?_))))
  refine ⟨sbF rfl, hs9, _, ?_, i + 1, rfl, ?_, ⟨rfl, ?_, trivial⟩⟩
  · omega
  · omega
  · (refine congrArg some (congrArg (Value.int _) ?_); rw [cnts_take (F := encFileR) (by omega)]; simp only [cntEFile]; omega)
 refine WC.exit (hK2 _ _ (WC.r1 hs3 [] rfl (WC.ret (rtv rfl rfl hs3 ?_))))
 rw [show i = a.length from by omega, List.take_of_length_le (Nat.le_refl _)]
set_option maxHeartbeats 4000000 in
theorem k141_ (a : DiskR) (L_a : Hp) (k : Int) (w : World) (o_a : ownDiskR a L_a) (h_a : Hh w L_a) (hd_ : ((L_a).map (·.1)).Nodup) (h1 : 0 ≤ k) (h2 : endDisk k a ≤ 549755813888) (hb_Files : a.Files.xs.length ≤ 549755813888) :
    Calls Tryz.prog 31 #[.agg #[i64 a.Room, i64 a.Fuse, i64 a.Next, .slice a.Files.A a.Files.n a.Files.c, .slice a.Kept.A a.Kept.n a.Kept.c, .slice a.Turns.A a.Turns.n a.Turns.c], i64 k] w fun e w' => ∃ L1, e = .returned (.int .i64 (endDisk k a)) ∧ St w (L_a.map (·.1)) L1 w' ∧ ownDiskR (markDisk k a) L1 := by
 have hq2 := h2
 simp only [endDisk] at hq2
 have hcn_Files := cnts_nonneg (c := cntEFile) (fun x => by simp only [cntEFile]; omega) a.Files.xs
 refine enter 18 Tryz.func31 rfl Tryz.ntmps31 rfl rfl ?_
 have hs1 := St.takes1 w L_a h_a hd_
 refine WC.sr (WL.bx hs1 rfl (fun b2 _ hs3 => WL.r 1 hs3 [] rfl (WL.nil (WC.sr (WL.r 3 hs3 [0] rfl ?_)))))
 obtain ⟨L5, L6, L7, hs11, ho8, ho9, ho10⟩ := ownDiskR.op hs3 o_a
 have hs12 := (hs11.fb b2)
 refine WL.cl Tryz.call80 rfl (k139_ _ _ _ _ _ ho8 (hs12.ow L5) (St.nodupL (hs12.fr L5)) ?_ ?_ ?_) ?_
 iterate 3 first | assumption | omega | (simp only [endDisk]; omega)
 rintro _ whs4 ⟨L1_13, rfl, hs4, ho14⟩
 replace hs4 := St.lend (hs12.fr L5) hs4
 refine ⟨_, rfl, ?_⟩
 replace hs4 := St.back [_] hs4
 refine WL.r 1 hs4 [] rfl (WL.nil (WC.sr (WL.r 3 hs4 [0] rfl (WL.cl Tryz.call81 rfl (k135_ _ _ _ _ _ ho9 (hs4.ow L6) ?_ ?_ ?_) ?_))))
 iterate 3 first | assumption | rfl | omega | (simp only [endDisk]; omega)
 rintro _ whs15 ⟨L1_16, rfl, hs15, ho17⟩
 replace hs15 := St.lend (hs4.fr L6) hs15
 refine ⟨_, rfl, ?_⟩
 replace hs15 := St.back [_] hs15
 refine WL.r 1 hs15 [] rfl (WL.nil (WC.sr (WL.r 3 hs15 [0] rfl (WL.cl Tryz.call82 rfl (k137_ _ _ _ _ _ ho10 (hs15.ow L7) ?_ ?_ ?_) ?_))))
 iterate 3 first | assumption | rfl | omega | (simp only [endDisk]; omega)
 rintro _ whs18 ⟨L1_19, rfl, hs18, ho20⟩
 replace hs18 := St.lend (hs15.fr L7) hs18
 refine ⟨_, rfl, ?_⟩
 replace hs18 := St.back [_] hs18
 refine WL.r 1 hs18 [] rfl (WL.nil (WC.r1 hs18 [] rfl (WC.ret (retV1 rfl (resV.tmp rfl) ?_))))
 obtain ⟨L22, hs21, ho23⟩ := ownDiskR.fl hs18 ho14 ho17 ho20
 have hs24 := (hs21.fb b2)
 refine ⟨_, congrArg Ending.returned ?_, (St.keep1 (hs24.fr L22)), (by exact ho23)⟩
 first | rfl | (simp [endDisk]; done) | (simp [endDisk]; omega)
set_option maxHeartbeats 4000000 in
theorem k142_ (a : DiskR) (k : Int) (w : World) (f_a : okDiskR 549755813888 w (markDisk k a)) (h1 : 0 ≤ k) (h2 : endDisk k a ≤ 549755813888) :
    Calls Tryz.prog 45 #[.agg #[i64 a.Room, i64 a.Fuse, i64 a.Next, .slice a.Files.A a.Files.n a.Files.c, .slice a.Kept.A a.Kept.n a.Kept.c, .slice a.Turns.A a.Turns.n a.Turns.c], i64 k] w fun e w' => e = .returned (.int .i64 (endDisk k a)) ∧ St w [] [] w' := by
 have nb_Files : a.Files.n ≤ 549755813888 := f_a.Files_n
 have nl_Files : a.Files.xs.length = a.Files.n := by have h_ := f_a.Files.sl.len; simpa [markDisk, marks_len, mrks_len] using h_
 have nb_Kept : a.Kept.n ≤ 549755813888 := f_a.Kept_n
 have nl_Kept : a.Kept.xs.length = a.Kept.n := by have h_ := f_a.Kept.len; simpa [markDisk, marks_len, mrks_len] using h_
 have nb_Turns : a.Turns.n ≤ 549755813888 := f_a.Turns_n
 have nl_Turns : a.Turns.xs.length = a.Turns.n := by have h_ := f_a.Turns.len; simpa [markDisk, marks_len, mrks_len] using h_
 have nb_Files : a.Files.n ≤ 549755813888 := f_a.Files_n
 have nl_Files : a.Files.xs.length = a.Files.n := by have h_ := f_a.Files.sl.len; simpa [markDisk, marks_len, mrks_len] using h_
 have nb_Kept : a.Kept.n ≤ 549755813888 := f_a.Kept_n
 have nl_Kept : a.Kept.xs.length = a.Kept.n := by have h_ := f_a.Kept.len; simpa [markDisk, marks_len, mrks_len] using h_
 have nb_Turns : a.Turns.n ≤ 549755813888 := f_a.Turns_n
 have nl_Turns : a.Turns.xs.length = a.Turns.n := by have h_ := f_a.Turns.len; simpa [markDisk, marks_len, mrks_len] using h_
 have hq2 := h2
 simp only [endDisk] at hq2
 have hcn_Files := cnts_nonneg (c := cntEFile) (fun x => by simp only [cntEFile]; omega) a.Files.xs
 refine enter 24 Tryz.func45 rfl Tryz.ntmps45 rfl rfl ?_
 have hs1 := St.init w
 refine WC.sr (WL.bx hs1 rfl (fun b2 _ hs3 => WL.r 1 hs3 [] rfl (WL.nil (WC.sr (WL.r 3 hs3 [0] rfl ?_)))))
 refine WL.cl Tryz.call92 rfl (k140_ _ _ _ _ _ _ (SlN.st0 okFileR.st0 f_a.Files hs3) ?_ ?_ ?_) ?_
 iterate 3 first | assumption | omega | (simp only [endDisk]; omega)
 rintro _ whs4 ⟨rfl, hs4⟩
 replace hs4 := hs3.call0 hs4
 refine ⟨_, rfl, WL.r 1 hs4 [] rfl (WL.nil (WC.seq (fun K5 hK5 => WC.r1 hs4 [] rfl ?_)))⟩
 refine WC.condF rfl (by first | (simp; omega) | (rw [decide_eq_false_iff_not]; simp only [endDisk]; omega)) (WC.skip (hK5 _ _ (WC.sr (WL.r 3 hs4 [0] rfl ?_))))
 refine WL.cl Tryz.call93 rfl (k136_ _ _ _ _ _ _ _ (SlF.st0 f_a.Kept hs4) rfl ?_ ?_ ?_) ?_
 iterate 3 first | assumption | rfl | omega | (simp only [endDisk]; omega)
 rintro _ whs7 ⟨rfl, hs7⟩
 replace hs7 := hs4.call0 hs7
 refine ⟨_, rfl, WL.r 1 hs7 [] rfl (WL.nil (WC.seq (fun K8 hK8 => WC.r1 hs7 [] rfl ?_)))⟩
 refine WC.condF rfl (by first | (simp; omega) | (rw [decide_eq_false_iff_not]; simp only [endDisk]; omega)) (WC.skip (hK8 _ _ (WC.sr (WL.r 3 hs7 [0] rfl ?_))))
 refine WL.cl Tryz.call94 rfl (k138_ _ _ _ _ _ _ _ (SlF.st0 f_a.Turns hs7) rfl ?_ ?_ ?_) ?_
 iterate 3 first | assumption | rfl | omega | (simp only [endDisk]; omega)
 rintro _ whs10 ⟨rfl, hs10⟩
 replace hs10 := hs7.call0 hs10
 refine ⟨_, rfl, WL.r 1 hs10 [] rfl (WL.nil (WC.seq (fun K11 hK11 => WC.r1 hs10 [] rfl ?_)))⟩
 refine WC.condF rfl (by first | (simp; omega) | (rw [decide_eq_false_iff_not]; simp only [endDisk]; omega)) (WC.skip (hK11 _ _ (WC.r1 hs10 [] rfl (WC.ret (rtv rfl rfl hs10 ?_)))))
 first | rfl | (simp [endDisk, *]; done) | (simp [endDisk, *]; omega)
set_option maxHeartbeats 4000000 in
theorem k143_ (a : DepotR) (L_a : Hp) (k : Int) (w : World) (o_a : ownDepotR a L_a) (h_a : Hh w L_a) (hd_ : ((L_a).map (·.1)).Nodup) (h1 : 0 ≤ k) (h2 : endDepot k a ≤ 549755813888) (hb_Disk_Files : a.Disk.Files.xs.length ≤ 549755813888) :
    Calls Tryz.prog 15 #[.agg #[i64 a.Disk.Room, i64 a.Disk.Fuse, i64 a.Disk.Next, .slice a.Disk.Files.A a.Disk.Files.n a.Disk.Files.c, .slice a.Disk.Kept.A a.Disk.Kept.n a.Disk.Kept.c, .slice a.Disk.Turns.A a.Disk.Turns.n a.Disk.Turns.c, i64 a.Gen, i64 a.Seq, i64 a.Size, .bool a.Stuck], i64 k] w fun e w' => ∃ L1, e = .returned (.int .i64 (endDepot k a)) ∧ St w (L_a.map (·.1)) L1 w' ∧ ownDepotR (markDepot k a) L1 := by
 have hq2 := h2
 simp only [endDepot, endDisk] at hq2
 have hcn_Disk_Files := cnts_nonneg (c := cntEFile) (fun x => by simp only [cntEFile]; omega) a.Disk.Files.xs
 refine enter 10 Tryz.func15 rfl Tryz.ntmps15 rfl rfl ?_
 have hs1 := St.takes1 w L_a h_a hd_
 refine WC.sr (WL.bx hs1 rfl (fun b2 _ hs3 => WL.r 1 hs3 [] rfl (WL.nil (WC.sr (WL.r 3 hs3 [0] rfl ?_)))))
 obtain ⟨L4, L5, L6, hs10, ho7, ho8, ho9⟩ := ownDepotR.op hs3 o_a
 have hs11 := (hs10.fb b2)
 obtain ⟨L13, hs12, ho14⟩ := ownDiskR.fl hs11 ho7 ho8 ho9
 have hs15 := (hs12.fb b2)
 refine WL.cl Tryz.call31 rfl (k141_ ⟨a.Disk.Room, a.Disk.Fuse, a.Disk.Next, SlD.ofN ho7, SlD.of ho8, SlD.of ho9⟩ _ _ _ (by exact ho14) (hs15.ow L13) (St.nodupL (hs15.fr L13)) ?_ ?_ ?_) ?_
 · first | assumption | omega | (simp only [endDepot, endDisk]; omega)
 · first | assumption | omega | (simp only [endDisk]; omega) | (simp only [endDepot, endDisk]; omega)
 · first | assumption | omega | (simp only [endDepot, endDisk]; omega)
 rintro _ whs16 ⟨L1_17, rfl, hs16, ho18⟩
 replace hs16 := St.lend (hs15.fr L13) hs16
 refine ⟨_, rfl, ?_⟩
 replace hs16 := St.back [_] hs16
 refine WL.r 1 hs16 [] rfl (WL.nil (WC.r1 hs16 [] rfl (WC.ret (retV1 rfl (resV.tmp rfl) ?_))))
 obtain ⟨L19, L20, L21, hs25, ho22, ho23, ho24⟩ := ownDiskR.op hs16 ho18
 have hs26 := (hs25.fb b2)
 obtain ⟨L28, hs27, ho29⟩ := ownDepotR.fl hs26 ho22 ho23 ho24
 have hs30 := (hs27.fb b2)
 refine ⟨_, congrArg Ending.returned ?_, (St.keep1 (hs30.fr L28)), (by exact ho29)⟩
 first | rfl | (simp [endDepot]; done) | (simp [endDepot]; omega)
set_option maxHeartbeats 4000000 in
theorem k144_ (a : DepotR) (k : Int) (w : World) (f_a : okDepotR 549755813888 w (markDepot k a)) (h1 : 0 ≤ k) (h2 : endDepot k a ≤ 549755813888) :
    Calls Tryz.prog 16 #[.agg #[i64 a.Disk.Room, i64 a.Disk.Fuse, i64 a.Disk.Next, .slice a.Disk.Files.A a.Disk.Files.n a.Disk.Files.c, .slice a.Disk.Kept.A a.Disk.Kept.n a.Disk.Kept.c, .slice a.Disk.Turns.A a.Disk.Turns.n a.Disk.Turns.c, i64 a.Gen, i64 a.Seq, i64 a.Size, .bool a.Stuck], i64 k] w fun e w' => e = .returned (.int .i64 (endDepot k a)) ∧ St w [] [] w' := by
 have fm_Disk : okDiskR 549755813888 w (markDisk k a.Disk) := f_a.Disk
 have nb_Disk_Files : a.Disk.Files.n ≤ 549755813888 := f_a.Disk.Files_n
 have nl_Disk_Files : a.Disk.Files.xs.length = a.Disk.Files.n := by have h_ := f_a.Disk.Files.sl.len; simpa [markDepot, markDisk, marks_len, mrks_len] using h_
 have nb_Disk_Kept : a.Disk.Kept.n ≤ 549755813888 := f_a.Disk.Kept_n
 have nl_Disk_Kept : a.Disk.Kept.xs.length = a.Disk.Kept.n := by have h_ := f_a.Disk.Kept.len; simpa [markDepot, markDisk, marks_len, mrks_len] using h_
 have nb_Disk_Turns : a.Disk.Turns.n ≤ 549755813888 := f_a.Disk.Turns_n
 have nl_Disk_Turns : a.Disk.Turns.xs.length = a.Disk.Turns.n := by have h_ := f_a.Disk.Turns.len; simpa [markDepot, markDisk, marks_len, mrks_len] using h_
 have fm_Disk : okDiskR 549755813888 w (markDisk k a.Disk) := f_a.Disk
 have nb_Disk_Files : a.Disk.Files.n ≤ 549755813888 := f_a.Disk.Files_n
 have nl_Disk_Files : a.Disk.Files.xs.length = a.Disk.Files.n := by have h_ := f_a.Disk.Files.sl.len; simpa [markDepot, markDisk, marks_len, mrks_len] using h_
 have nb_Disk_Kept : a.Disk.Kept.n ≤ 549755813888 := f_a.Disk.Kept_n
 have nl_Disk_Kept : a.Disk.Kept.xs.length = a.Disk.Kept.n := by have h_ := f_a.Disk.Kept.len; simpa [markDepot, markDisk, marks_len, mrks_len] using h_
 have nb_Disk_Turns : a.Disk.Turns.n ≤ 549755813888 := f_a.Disk.Turns_n
 have nl_Disk_Turns : a.Disk.Turns.xs.length = a.Disk.Turns.n := by have h_ := f_a.Disk.Turns.len; simpa [markDepot, markDisk, marks_len, mrks_len] using h_
 have hq2 := h2
 simp only [endDepot, endDisk] at hq2
 have hcn_Disk_Files := cnts_nonneg (c := cntEFile) (fun x => by simp only [cntEFile]; omega) a.Disk.Files.xs
 refine enter 12 Tryz.func16 rfl Tryz.ntmps16 rfl rfl ?_
 have hs1 := St.init w
 refine WC.sr (WL.bx hs1 rfl (fun b2 _ hs3 => WL.r 1 hs3 [] rfl (WL.nil (WC.sr (WL.r 3 hs3 [0] rfl ?_)))))
 refine WL.cl Tryz.call45 rfl (k142_ _ _ _ (okDiskR.st0 fm_Disk hs3) ?_ ?_) ?_
 · first | assumption | omega | (simp only [endDepot, endDisk]; omega)
 · first | assumption | omega | (simp only [endDisk]; omega) | (simp only [endDepot, endDisk]; omega)
 rintro _ whs4 ⟨rfl, hs4⟩
 replace hs4 := hs3.call0 hs4
 refine ⟨_, rfl, WL.r 1 hs4 [] rfl (WL.nil (WC.seq (fun K5 hK5 => WC.r1 hs4 [] rfl ?_)))⟩
 refine WC.condF rfl (by first | (simp; omega) | (rw [decide_eq_false_iff_not]; simp only [endDepot, endDisk]; omega)) (WC.skip (hK5 _ _ (WC.r1 hs4 [] rfl (WC.ret (rtv rfl rfl hs4 ?_)))))
 first | rfl | (simp [endDepot, endDisk, *]; done) | (simp [endDepot, endDisk, *]; omega)
end Go.Proofs.YtcpnlodkmkfplaaGreatDoor
