/-
  The statement: for every input the law returns true. No condition. (And what it stands on, the last part.)
-/
import Derived.Test.YtcpnlodkmkfplaaGreatDoorKC5
namespace Go.Proofs.YtcpnlodkmkfplaaGreatDoor
open Go Go.RowKit
set_option linter.unusedVariables false
set_option linter.unusedSimpArgs false
theorem k144_ (v_a : Value) (a : List LinkD) (L_a : Hp) (k : Int) (w : World) (o_a : OwnF encLink 101 v_a a L_a) (h_a : Hh w L_a) (h1 : 0 ≤ k) (h2 : k + 2 * (a.length : Int) ≤ 549755813888) (h3 : a.length ≤ 1099511627776) :
    Calls Tryz.prog 81 #[v_a, i64 k] w fun e w' => ∃ L1, e = .returned (.int .i64 (k + 2 * a.length)) ∧ St w (L_a.map (·.1)) L1 w' ∧ OwnF encLink 101 v_a (marks mkLink 2 k a.length) L1 := by
 obtain ⟨A_a, c_a, rfl⟩ := o_a.shape
 refine enter 28 Tryz.func81 rfl Tryz.ntmps81 rfl rfl ?_
 have hs1 := St.lent1 w L_a o_a h_a
 refine WC.r1 hs1 [] rfl (WC.seq (fun K2 hK2 => WC.r1 hs1 [] rfl (WC.block ?_)))
 refine WC.lO [4] rfl hs1 (fun k_ f L_ => ∃ (i : Nat) (q : Int), k_ = a.length - i ∧ (i ≤ a.length) ∧ (q = k + 2 * i) ∧ OwnF encLink 101 (.slice A_a (a.length) c_a) (fillM mkLink 2 k a i) L_ ∧ Sub [(0, .slice A_a (a.length) c_a), (5, .int .i64 i), (1, .int .i64 q)] f) (((fun (i : Nat) (q : Int) => a.length - i) (0) (k))) ?_ ?_
 ·refine ⟨0, k, rfl, ?_, ?_, (fillM_zero.symm ▸ o_a), ⟨rfl, rfl, rfl, trivial⟩⟩
  · exact Nat.zero_le _
  · simp
 clear hs1
 rintro _ f w L5 ⟨i, q, rfl, p0, p1, ho6, hG⟩ hF hs7
 refine WC.sub _ (hG.app hF) ?_
 clear hG hF
 have hfl : (fillM mkLink 2 k a i).length = a.length := fillM_len p0
 have hq : k + ((2 : Nat) : Int) * (i : Int) = q := by omega
 refine WC.seq (fun K8 hK8 => WC.r1 hs7 [] rfl ?_)
 refine WC.cq rfl (fun h9 qh9 => ?_) (fun h9 qh9 => ?_)
 ·refine WC.skip (hK8 _ _ (WC.seq (fun K10 hK10 => WC.block (WC.sr (WL.r 3 hs7 [] rfl ?_)))))
  refine WL.cl Tryz.call138 rfl (k143_ _ _ ?_) ?_
  · first | assumption | rfl | omega
  rintro _ whs11 ⟨rfl, hs11⟩
  replace hs11 := hs7.call0 hs11
  refine ⟨_, rfl, WL.val rfl rfl rfl (Run.idxN Tryz.runUnderlying31 Tryz.sizeOf101 rfl rfl rfl ?_ ?_ ?_) ?_⟩
  · exact SlF.some_ (SlF.ofOwn ho6 (hs11.ow L5))
  · omega
  · omega
  refine WL.val rfl rfl rfl (Run.fieldO Tryz.runUnderlying101 rfl rfl rfl Tryz.sizeOf9 rfl) ?_
  refine WL.storeF (x' := ⟨markText q, (gat encLink (fillM mkLink 2 k a i) i).Id⟩) hs11 ho6 Tryz.sizeOf9 rfl rfl rfl rfl rfl rfl rfl rfl rfl ?_ (by first | rfl | (rw [gat_set (by (try simp only [List.length_set]); omega) rfl]; rfl)) (fun L12 whs13 hs13 ho14 _ => ?_)
  · omega
  refine WL.nil (WC.r1 hs13 [] rfl (WC.sr (WL.r 3 hs13 [] rfl (WL.val rfl rfl rfl (Run.idxN Tryz.runUnderlying31 Tryz.sizeOf101 rfl rfl rfl ?_ ?_ ?_) ?_))))
  · exact SlF.some_ (SlF.ofOwn ho14 (hs13.ow L12))
  · omega
  · omega
  refine WL.val rfl rfl rfl (Run.fieldO Tryz.runUnderlying101 rfl rfl rfl Tryz.sizeOf3 rfl) ?_
  refine WL.storeF (x' := ⟨markText q, (q + 1)⟩) hs13 ho14 Tryz.sizeOf3 rfl rfl rfl rfl rfl rfl rfl rfl rfl ?_ (by first | rfl | (rw [gat_set (by (try simp only [List.length_set]); omega) rfl]; rfl)) (fun L15 whs16 hs16 ho17 _ => ?_)
  · omega
  refine WL.nil (WC.region (WL.r 3 hs16 [] rfl (WL.nil (hK10 _ _ (WC.region (WL.r 3 hs16 [] rfl (WL.nil ?_)))))))
  refine tkN ?_
  try simp only [List.set_set] at ho17
  rw [fillM_set (i := i) (by omega) (by rw [hq]; rfl) (by simp)] at ho17
  refine ⟨sbF rfl, _, hs16, _, ?_, i + 1, _, rfl, ?_, ?_, ho17, ⟨rfl, rfl, rfl, trivial⟩⟩
  · omega
  · omega
  · omega
 refine WC.exit (hK2 _ _ (WC.r1 hs7 [] rfl (WC.ret (retV1 rfl (resV.tmp rfl) ?_))))
 have hx_ := OwnF.eqOf (xs := marks mkLink 2 k a.length) ho6 (fillM_full (by omega))
 have hi_ : i = a.length := by omega
 refine ⟨_, ?_, (St.keep1 hs7), hx_ ▸ ho6⟩
 rw [p1, hi_]
theorem k145_ (A_a : Option Addr) (n_a c_a : Nat) (a : List LinkD) (k : Int) (m : Nat) (w : World) (f_a : SlF encLink w A_a n_a a) (hm : a = marks mkLink 2 k m) (h1 : 0 ≤ k) (h2 : k + 2 * (m : Int) ≤ 549755813888) (h3 : n_a ≤ 1099511627776) :
    Calls Tryz.prog 93 #[.slice A_a n_a c_a, i64 k] w fun e w' => e = .returned (.int .i64 (k + 2 * m)) ∧ St w [] [] w' := by
 have hnm : n_a = m := by rw [← f_a.len, hm, marks_len]
 subst hnm
 refine enter 32 Tryz.func93 rfl Tryz.ntmps93 rfl rfl ?_
 have hs1 := St.init w
 refine WC.r1 hs1 [] rfl (WC.seq (fun K2 hK2 => WC.r1 hs1 [] rfl (WC.block ?_)))
 refine WC.lS [0] rfl hs1 (fun k_ f w' => ∃ (i : Nat) (q : Int), k_ = n_a - i ∧ (i ≤ n_a) ∧ (q = k + 2 * i) ∧ Sub [(5, .int .i64 i), (1, .int .i64 q)] f) ((fun (i : Nat) (q : Int) => n_a - i) (0) (k)) ?_ ?_
 ·refine ⟨0, k, rfl, ?_, ?_, ⟨rfl, rfl, trivial⟩⟩
  · exact Nat.zero_le _
  · simp
 clear hs1
 rintro _ f w ⟨i, q, rfl, p0, p1, hG⟩ hF hs3
 refine WC.sub _ (hG.app hF) ?_
 clear hG hF
 have hq : k + ((2 : Nat) : Int) * (i : Int) = q := by omega
 refine WC.seq (fun K4 hK4 => WC.r1 hs3 [] rfl ?_)
 refine WC.cD rfl (fun qh5 => ?_) (fun qh5 => ?_)
 ·have hg : gat encLink a i = mkLink q := by rw [hm, marks_gat (by omega), hq]
  refine WC.skip (hK4 _ _ (WC.seq (fun K6 hK6 => WC.block (WC.seq (fun K7 hK7 => WC.sq1 hs3 (WQ.r 2 [] rfl ?_))))))
  refine WQ.val rfl rfl rfl (fun w_ hs_ => (Run.idxN Tryz.runUnderlying31 Tryz.sizeOf101 rfl rfl rfl ?_ ?_ ?_)) ?_
  · exact SlF.some_ (SlF.st0 f_a (hs_ : St _ _ _ _))
  · omega
  · omega
  refine WQ.val rfl rfl rfl (fun w_ hs_ => (Run.fieldO Tryz.runUnderlying101 rfl rfl rfl Tryz.sizeOf9 rfl)) ?_
  refine WQ.val rfl rfl rfl (fun w_ hs_ => (Run.load Tryz.isAgg9 rfl rfl (SlF.fld (SlF.st0 f_a (hs_ : St _ _ _ _)) ?_ rfl))) ?_
  · omega
  refine WQ.r 1 [] rfl ?_
  refine WQ.call rfl rfl rfl (fun w_ hs_ => (Run.call Tryz.call138 rfl rfl rfl)) (fun w_ hs_ => (k143_ _ _ ?_).mono fun e_ w_ h_ => ⟨h_.1, (hs_ : St _ _ _ _).call0 h_.2⟩) ?_
  · first | assumption | rfl | omega
  refine WQ.r 1 [] rfl (WQ.nil (fun _ (hs8 : St _ _ _ _) => WC.condF rfl (by simp [hg, mkLink]) (WC.skip (hK7 _ _ (WC.r1 hs8 [] rfl (WC.seq (fun K10 hK10 => WC.sr ?_)))))))
  refine WL.r 2 hs8 [] rfl (WL.val rfl rfl rfl (Run.idxN Tryz.runUnderlying31 Tryz.sizeOf101 rfl rfl rfl ?_ ?_ ?_) ?_)
  · exact SlF.some_ (SlF.st0 f_a hs8)
  · omega
  · omega
  refine WL.val rfl rfl rfl (Run.fieldO Tryz.runUnderlying101 rfl rfl rfl Tryz.sizeOf3 rfl) (WL.val rfl rfl rfl (Run.load Tryz.isAgg3 rfl rfl (SlF.fld (SlF.st0 f_a hs8) ?_ rfl)) ?_)
  · omega
  refine WL.r 2 hs8 [] rfl (WL.nil (WC.condF rfl (by simp [hg, mkLink]) (WC.skip (hK10 _ _ (WC.region (WL.r 3 hs8 [] rfl (WL.nil ?_)))))))
  refine hK6 _ _ (WC.region (WL.r 3 hs8 [] rfl (WL.nil (tkN ?_))))
  refine ⟨sbF rfl, hs8, _, ?_, i + 1, _, rfl, ?_, ?_, ⟨rfl, rfl, trivial⟩⟩
  · omega
  · omega
  · omega
 refine WC.exit (hK2 _ _ (WC.r1 hs3 [] rfl (WC.ret (rtv rfl rfl hs3 ?_))))
 rw [p1, show i = n_a from by omega]
theorem k146_ (v_a : Value) (a : List TurnD) (L_a : Hp) (k : Int) (w : World) (o_a : OwnF encTurn 137 v_a a L_a) (h_a : Hh w L_a) (h1 : 0 ≤ k) (h2 : k + 4 * (a.length : Int) ≤ 549755813888) (h3 : a.length ≤ 1099511627776) :
    Calls Tryz.prog 82 #[v_a, i64 k] w fun e w' => ∃ L1, e = .returned (.int .i64 (k + 4 * a.length)) ∧ St w (L_a.map (·.1)) L1 w' ∧ OwnF encTurn 137 v_a (marks mkTurn 4 k a.length) L1 := by
 obtain ⟨A_a, c_a, rfl⟩ := o_a.shape
 refine enter 43 Tryz.func82 rfl Tryz.ntmps82 rfl rfl ?_
 have hs1 := St.lent1 w L_a o_a h_a
 refine WC.r1 hs1 [] rfl (WC.seq (fun K2 hK2 => WC.r1 hs1 [] rfl (WC.block ?_)))
 refine WC.lO [4] rfl hs1 (fun k_ f L_ => ∃ (i : Nat) (q : Int), k_ = a.length - i ∧ (i ≤ a.length) ∧ (q = k + 4 * i) ∧ OwnF encTurn 137 (.slice A_a (a.length) c_a) (fillM mkTurn 4 k a i) L_ ∧ Sub [(0, .slice A_a (a.length) c_a), (5, .int .i64 i), (1, .int .i64 q)] f) (((fun (i : Nat) (q : Int) => a.length - i) (0) (k))) ?_ ?_
 ·refine ⟨0, k, rfl, ?_, ?_, (fillM_zero.symm ▸ o_a), ⟨rfl, rfl, rfl, trivial⟩⟩
  · exact Nat.zero_le _
  · simp
 clear hs1
 rintro _ f w L5 ⟨i, q, rfl, p0, p1, ho6, hG⟩ hF hs7
 refine WC.sub _ (hG.app hF) ?_
 clear hG hF
 have hfl : (fillM mkTurn 4 k a i).length = a.length := fillM_len p0
 have hq : k + ((4 : Nat) : Int) * (i : Int) = q := by omega
 refine WC.seq (fun K8 hK8 => WC.r1 hs7 [] rfl ?_)
 refine WC.cq rfl (fun h9 qh9 => ?_) (fun h9 qh9 => ?_)
 ·refine WC.skip (hK8 _ _ (WC.seq (fun K10 hK10 => WC.block (WC.sr (WL.r 3 hs7 [] rfl ?_)))))
  refine WL.val rfl rfl rfl (Run.idxN Tryz.runUnderlying32 Tryz.sizeOf137 rfl rfl rfl ?_ ?_ ?_) ?_
  · exact SlF.some_ (SlF.ofOwn ho6 (hs7.ow L5))
  · omega
  · omega
  refine WL.val rfl rfl rfl (Run.fieldO Tryz.runUnderlying137 rfl rfl rfl Tryz.sizeOf3 rfl) ?_
  refine WL.storeF (x' := ⟨q, (gat encTurn (fillM mkTurn 4 k a i) i).Name, (gat encTurn (fillM mkTurn 4 k a i) i).To, (gat encTurn (fillM mkTurn 4 k a i) i).Id⟩) hs7 ho6 Tryz.sizeOf3 rfl rfl rfl rfl rfl rfl rfl rfl rfl ?_ (by first | rfl | (rw [gat_set (by (try simp only [List.length_set]); omega) rfl]; rfl)) (fun L11 whs12 hs12 ho13 _ => ?_)
  · omega
  refine WL.nil (WC.r1 hs12 [] rfl (WC.sr (WL.r 3 hs12 [] rfl (WL.cl Tryz.call138 rfl (k143_ _ _ ?_) ?_))))
  · first | assumption | rfl | omega
  rintro _ whs14 ⟨rfl, hs14⟩
  replace hs14 := hs12.call0 hs14
  refine ⟨_, rfl, WL.val rfl rfl rfl (Run.idxN Tryz.runUnderlying32 Tryz.sizeOf137 rfl rfl rfl ?_ ?_ ?_) ?_⟩
  · exact SlF.some_ (SlF.ofOwn ho13 (hs14.ow L11))
  · omega
  · omega
  refine WL.val rfl rfl rfl (Run.fieldO Tryz.runUnderlying137 rfl rfl rfl Tryz.sizeOf9 rfl) ?_
  refine WL.storeF (x' := ⟨q, markText (q + 1), (gat encTurn (fillM mkTurn 4 k a i) i).To, (gat encTurn (fillM mkTurn 4 k a i) i).Id⟩) hs14 ho13 Tryz.sizeOf9 rfl rfl rfl rfl rfl rfl rfl rfl rfl ?_ (by first | rfl | (rw [gat_set (by (try simp only [List.length_set]); omega) rfl]; rfl)) (fun L15 whs16 hs16 ho17 _ => ?_)
  · omega
  refine WL.nil (WC.r1 hs16 [] rfl (WC.sr (WL.r 3 hs16 [] rfl (WL.cl Tryz.call138 rfl (k143_ _ _ ?_) ?_))))
  · first | assumption | rfl | omega
  rintro _ whs18 ⟨rfl, hs18⟩
  replace hs18 := hs16.call0 hs18
  refine ⟨_, rfl, WL.val rfl rfl rfl (Run.idxN Tryz.runUnderlying32 Tryz.sizeOf137 rfl rfl rfl ?_ ?_ ?_) ?_⟩
  · exact SlF.some_ (SlF.ofOwn ho17 (hs18.ow L15))
  · omega
  · omega
  refine WL.val rfl rfl rfl (Run.fieldO Tryz.runUnderlying137 rfl rfl rfl Tryz.sizeOf9 rfl) ?_
  refine WL.storeF (x' := ⟨q, markText (q + 1), markText (q + 1 + 1), (gat encTurn (fillM mkTurn 4 k a i) i).Id⟩) hs18 ho17 Tryz.sizeOf9 rfl rfl rfl rfl rfl rfl rfl rfl rfl ?_ (by first | rfl | (rw [gat_set (by (try simp only [List.length_set]); omega) rfl]; rfl)) (fun L19 whs20 hs20 ho21 _ => ?_)
  · omega
  refine WL.nil (WC.r1 hs20 [] rfl (WC.sr (WL.r 3 hs20 [] rfl (WL.val rfl rfl rfl (Run.idxN Tryz.runUnderlying32 Tryz.sizeOf137 rfl rfl rfl ?_ ?_ ?_) ?_))))
  · exact SlF.some_ (SlF.ofOwn ho21 (hs20.ow L19))
  · omega
  · omega
  refine WL.val rfl rfl rfl (Run.fieldO Tryz.runUnderlying137 rfl rfl rfl Tryz.sizeOf3 rfl) ?_
  refine WL.storeF (x' := ⟨q, markText (q + 1), markText (q + 1 + 1), (q + 1 + 1 + 1)⟩) hs20 ho21 Tryz.sizeOf3 rfl rfl rfl rfl rfl rfl rfl rfl rfl ?_ (by first | rfl | (rw [gat_set (by (try simp only [List.length_set]); omega) rfl]; rfl)) (fun L22 whs23 hs23 ho24 _ => ?_)
  · omega
  refine WL.nil (WC.region (WL.r 3 hs23 [] rfl (WL.nil (hK10 _ _ (WC.region (WL.r 3 hs23 [] rfl (WL.nil ?_)))))))
  refine tkN ?_
  try simp only [List.set_set] at ho24
  rw [fillM_set (i := i) (by omega) (by rw [hq]; rfl) (by simp)] at ho24
  refine ⟨sbF rfl, _, hs23, _, ?_, i + 1, _, rfl, ?_, ?_, ho24, ⟨rfl, rfl, rfl, trivial⟩⟩
  · omega
  · omega
  · omega
 refine WC.exit (hK2 _ _ (WC.r1 hs7 [] rfl (WC.ret (retV1 rfl (resV.tmp rfl) ?_))))
 have hx_ := OwnF.eqOf (xs := marks mkTurn 4 k a.length) ho6 (fillM_full (by omega))
 have hi_ : i = a.length := by omega
 refine ⟨_, ?_, (St.keep1 hs7), hx_ ▸ ho6⟩
 rw [p1, hi_]
theorem k147_ (A_a : Option Addr) (n_a c_a : Nat) (a : List TurnD) (k : Int) (m : Nat) (w : World) (f_a : SlF encTurn w A_a n_a a) (hm : a = marks mkTurn 4 k m) (h1 : 0 ≤ k) (h2 : k + 4 * (m : Int) ≤ 549755813888) (h3 : n_a ≤ 1099511627776) :
    Calls Tryz.prog 94 #[.slice A_a n_a c_a, i64 k] w fun e w' => e = .returned (.int .i64 (k + 4 * m)) ∧ St w [] [] w' := by
 have hnm : n_a = m := by rw [← f_a.len, hm, marks_len]
 subst hnm
 refine enter 51 Tryz.func94 rfl Tryz.ntmps94 rfl rfl ?_
 have hs1 := St.init w
 refine WC.r1 hs1 [] rfl (WC.seq (fun K2 hK2 => WC.r1 hs1 [] rfl (WC.block ?_)))
 refine WC.lS [0] rfl hs1 (fun k_ f w' => ∃ (i : Nat) (q : Int), k_ = n_a - i ∧ (i ≤ n_a) ∧ (q = k + 4 * i) ∧ Sub [(5, .int .i64 i), (1, .int .i64 q)] f) ((fun (i : Nat) (q : Int) => n_a - i) (0) (k)) ?_ ?_
 ·refine ⟨0, k, rfl, ?_, ?_, ⟨rfl, rfl, trivial⟩⟩
  · exact Nat.zero_le _
  · simp
 clear hs1
 rintro _ f w ⟨i, q, rfl, p0, p1, hG⟩ hF hs3
 refine WC.sub _ (hG.app hF) ?_
 clear hG hF
 have hq : k + ((4 : Nat) : Int) * (i : Int) = q := by omega
 refine WC.seq (fun K4 hK4 => WC.r1 hs3 [] rfl ?_)
 refine WC.cD rfl (fun qh5 => ?_) (fun qh5 => ?_)
 ·have hg : gat encTurn a i = mkTurn q := by rw [hm, marks_gat (by omega), hq]
  refine WC.skip (hK4 _ _ (WC.seq (fun K6 hK6 => WC.block (WC.seq (fun K7 hK7 => WC.sr (WL.r 2 hs3 [] rfl ?_))))))
  refine WL.val rfl rfl rfl (Run.idxN Tryz.runUnderlying32 Tryz.sizeOf137 rfl rfl rfl ?_ ?_ ?_) ?_
  · exact SlF.some_ (SlF.st0 f_a hs3)
  · omega
  · omega
  refine WL.val rfl rfl rfl (Run.fieldO Tryz.runUnderlying137 rfl rfl rfl Tryz.sizeOf3 rfl) (WL.val rfl rfl rfl (Run.load Tryz.isAgg3 rfl rfl (SlF.fld (SlF.st0 f_a hs3) ?_ rfl)) ?_)
  · omega
  refine WL.r 2 hs3 [] rfl (WL.nil (WC.condF rfl (by simp [hg, mkTurn]) (WC.skip (hK7 _ _ (WC.r1 hs3 [] rfl (WC.seq (fun K9 hK9 => WC.sq1 hs3 ?_)))))))
  refine WQ.r 2 [] rfl ?_
  refine WQ.val rfl rfl rfl (fun w_ hs_ => (Run.idxN Tryz.runUnderlying32 Tryz.sizeOf137 rfl rfl rfl ?_ ?_ ?_)) ?_
  · exact SlF.some_ (SlF.st0 f_a (hs_ : St _ _ _ _))
  · omega
  · omega
  refine WQ.val rfl rfl rfl (fun w_ hs_ => (Run.fieldO Tryz.runUnderlying137 rfl rfl rfl Tryz.sizeOf9 rfl)) ?_
  refine WQ.val rfl rfl rfl (fun w_ hs_ => (Run.load Tryz.isAgg9 rfl rfl (SlF.fld (SlF.st0 f_a (hs_ : St _ _ _ _)) ?_ rfl))) ?_
  · omega
  refine WQ.r 1 [] rfl ?_
  refine WQ.call rfl rfl rfl (fun w_ hs_ => (Run.call Tryz.call138 rfl rfl rfl)) (fun w_ hs_ => (k143_ _ _ ?_).mono fun e_ w_ h_ => ⟨h_.1, (hs_ : St _ _ _ _).call0 h_.2⟩) ?_
  · first | assumption | rfl | omega
  refine WQ.r 1 [] rfl (WQ.nil (fun _ (hs10 : St _ _ _ _) => WC.condF rfl (by simp [hg, mkTurn]) (WC.skip (hK9 _ _ (WC.r1 hs10 [] rfl (WC.seq (fun K12 hK12 => WC.sq1 hs10 ?_)))))))
  refine WQ.r 2 [] rfl ?_
  refine WQ.val rfl rfl rfl (fun w_ hs_ => (Run.idxN Tryz.runUnderlying32 Tryz.sizeOf137 rfl rfl rfl ?_ ?_ ?_)) ?_
  · exact SlF.some_ (SlF.st0 f_a (hs_ : St _ _ _ _))
  · omega
  · omega
  refine WQ.val rfl rfl rfl (fun w_ hs_ => (Run.fieldO Tryz.runUnderlying137 rfl rfl rfl Tryz.sizeOf9 rfl)) ?_
  refine WQ.val rfl rfl rfl (fun w_ hs_ => (Run.load Tryz.isAgg9 rfl rfl (SlF.fld (SlF.st0 f_a (hs_ : St _ _ _ _)) ?_ rfl))) ?_
  · omega
  refine WQ.r 1 [] rfl ?_
  refine WQ.call rfl rfl rfl (fun w_ hs_ => (Run.call Tryz.call138 rfl rfl rfl)) (fun w_ hs_ => (k143_ _ _ ?_).mono fun e_ w_ h_ => ⟨h_.1, (hs_ : St _ _ _ _).call0 h_.2⟩) ?_
  · first | assumption | rfl | omega
  refine WQ.r 1 [] rfl (WQ.nil (fun _ (hs13 : St _ _ _ _) => WC.condF rfl (by simp [hg, mkTurn]) (WC.skip (hK12 _ _ (WC.r1 hs13 [] rfl (WC.seq (fun K15 hK15 => WC.sr ?_)))))))
  refine WL.r 2 hs13 [] rfl (WL.val rfl rfl rfl (Run.idxN Tryz.runUnderlying32 Tryz.sizeOf137 rfl rfl rfl ?_ ?_ ?_) ?_)
  · exact SlF.some_ (SlF.st0 f_a hs13)
  · omega
  · omega
  refine WL.val rfl rfl rfl (Run.fieldO Tryz.runUnderlying137 rfl rfl rfl Tryz.sizeOf3 rfl) (WL.val rfl rfl rfl (Run.load Tryz.isAgg3 rfl rfl (SlF.fld (SlF.st0 f_a hs13) ?_ rfl)) ?_)
  · omega
  refine WL.r 2 hs13 [] rfl (WL.nil (WC.condF rfl (by simp [hg, mkTurn]) (WC.skip (hK15 _ _ (WC.region (WL.r 3 hs13 [] rfl (WL.nil ?_)))))))
  refine hK6 _ _ (WC.region (WL.r 3 hs13 [] rfl (WL.nil (tkN ?_))))
  refine ⟨sbF rfl, hs13, _, ?_, i + 1, _, rfl, ?_, ?_, ⟨rfl, rfl, trivial⟩⟩
  · omega
  · omega
  · omega
 refine WC.exit (hK2 _ _ (WC.r1 hs3 [] rfl (WC.ret (rtv rfl rfl hs3 ?_))))
 rw [p1, show i = n_a from by omega]
set_option maxHeartbeats 16000000 in
set_option maxRecDepth 20000 in
theorem k148_ (v_a : Value) (a : List FileR) (L_a : Hp) (k : Int) (w : World) (o_a : OwnN encFileR ownFileR 123 v_a a L_a) (h_a : Hh w L_a) (hd_ : ((L_a).map (·.1)).Nodup) (h1 : 0 ≤ k) (h2 : k + cnts cntEFile a ≤ 549755813888) (h3 : a.length ≤ 549755813888) :
    Calls Tryz.prog 80 #[v_a, i64 k] w fun e w' => ∃ L1, e = .returned (.int .i64 (k + cnts cntEFile a)) ∧ St w (L_a.map (·.1)) L1 w' ∧ OwnN encFileR ownFileR 123 v_a (mrks mkEFile cntEFile k a) L1 := by
 obtain ⟨A_a, c_a, rfl⟩ := o_a.shape
 have hcn : ∀ x, 0 ≤ cntEFile x := cntEFile_ge
 refine enter 34 Tryz.func80 rfl Tryz.ntmps80 rfl rfl ?_
 have hs1 := St.takes1 w L_a h_a hd_
 refine WC.r1 hs1 [] rfl (WC.seq (fun K2 hK2 => WC.r1 hs1 [] rfl (WC.block ?_)))
 refine WC.lO [4] rfl hs1 (fun k_ f L_ => ∃ (i : Nat), k_ = a.length - i ∧ (i ≤ a.length) ∧ OwnN encFileR ownFileR 123 (.slice A_a (a.length) c_a) (mrkTo mkEFile cntEFile k a i) L_ ∧ Sub [(0, .slice A_a (a.length) c_a), (5, .int .i64 i), (1, .int .i64 (k + cnts cntEFile (a.take i)))] f) (((fun (i : Nat) => a.length - i) (0))) ?_ ?_
 ·refine ⟨0, rfl, ?_, (mrkTo_zero.symm ▸ o_a), ⟨rfl, rfl, ?_, trivial⟩⟩
  · exact Nat.zero_le _
  · (refine congrArg some (congrArg (Value.int _) ?_); simp [cnts])
 clear hs1
 rintro _ f w L5 ⟨i, rfl, p0, ho6, hG⟩ hF hs7
 refine WC.sub _ (hG.app hF) ?_
 clear hG hF
 have hfl : (mrkTo mkEFile cntEFile k a i).length = a.length := mrkTo_len p0
 have hq0 := cnts_nonneg (c := cntEFile) hcn (a.take i)
 have hq1 := cnts_take_le hcn a i
 refine WC.seq (fun K8 hK8 => WC.r1 hs7 [] rfl ?_)
 refine WC.cq rfl (fun h9 qh9 => ?_) (fun h9 qh9 => ?_)
 ·have hg := mrkTo_gat (mk := mkEFile) (c := cntEFile) (F := encFileR) (k := k) (xs := a) (i := i) (by omega)
  have hq2 := cnts_take (c := cntEFile) (F := encFileR) (xs := a) (i := i) (by omega)
  have hq3 := cnts_take_le hcn a (i + 1)
  have hq4 := hq2
  simp only [cntEFile, ← hg] at hq4
  refine WC.skip (hK8 _ _ (WC.seq (fun K10 hK10 => WC.block (WC.sr (WL.r 3 hs7 [] rfl ?_)))))
  refine WL.val rfl rfl rfl (Run.idxN Tryz.runUnderlying30 Tryz.sizeOf123 rfl rfl rfl ?_ ?_ ?_) ?_
  · exact SlF.some_ (OwnN.sl ho6 (hs7.ow L5))
  · omega
  · omega
  refine WL.val rfl rfl rfl (Run.fieldO Tryz.runUnderlying123 rfl rfl rfl Tryz.sizeOf3 rfl) ?_
  obtain ⟨L11, L12, hs15, ho13, ho14⟩ := OwnN.open_ hs7 ho6
  obtain ⟨y_1, hy_1⟩ : ∃ z_, z_ = ({ (gat encFileR (mrkTo mkEFile cntEFile k a i) i) with Id := (k + cnts cntEFile (a.take i)) } : FileR) := ⟨_, rfl⟩
  refine WL.storeF (x' := y_1) hs15 ho13 Tryz.sizeOf3 rfl rfl rfl rfl rfl rfl rfl rfl rfl ?_ (by rw [hy_1]; rfl) (fun L16 whs17 hs17 ho18 _ => ?_)
  · omega
  refine WL.nil (WC.r1 hs17 [] rfl (WC.sr (WL.r 2 hs17 [] rfl (WL.val rfl rfl rfl (Run.idxN Tryz.runUnderlying30 Tryz.sizeOf123 rfl rfl rfl ?_ ?_ ?_) ?_))))
  · exact SlF.some_ (SlF.ofOwn ho18 (hs17.ow L16))
  · omega
  · omega
  refine WL.val rfl rfl rfl (Run.fieldO Tryz.runUnderlying123 rfl rfl rfl Tryz.sizeOf43 rfl) (WL.val rfl rfl rfl (Run.load Tryz.isAgg43 rfl rfl (SlF.fld (v := .slice (gat encFileR (mrkTo mkEFile cntEFile k a i) i).Body.A (gat encFileR (mrkTo mkEFile cntEFile k a i) i).Body.n (gat encFileR (mrkTo mkEFile cntEFile k a i) i).Body.c) (SlF.ofOwn ho18 (hs17.ow L16)) ?_ ?_)) ?_)
  · omega
  · first | (rw [gat_set (by (try simp only [List.length_set]); omega) rfl]; simp only [hy_1]; done) | (rw [gat_set (by (try simp only [List.length_set]); omega) rfl]; simp only [hy_1]; rfl) | rfl
  refine WL.r 1 hs17 [] rfl ?_
  obtain ⟨L20, L21, L22, hs23, ho24, hp25⟩ := Bag.out (F := encFileR) (i := i) (hs17.fr L12) ho14 (by rw [mrkTo_len (by omega)]; omega)
  refine WL.cl Tryz.call21 rfl (k7_ _ _ _ _ _ ho24 (hs23.ow L21) ?_ ?_ ?_) ?_
  iterate 3 first | assumption | rfl | omega
  rintro _ whs19 ⟨L1_26, rfl, hs19, ho27⟩
  replace hs19 := St.lend hs23 hs19
  refine ⟨_, rfl, WL.r 1 hs19 [] rfl (WL.nil (WC.sr (WL.r 3 hs19 [] rfl (WL.val rfl rfl rfl (Run.idxN Tryz.runUnderlying30 Tryz.sizeOf123 rfl rfl rfl ?_ ?_ ?_) ?_))))⟩
  · exact SlF.some_ (SlF.ofOwn ho18 (hs19.ow L16))
  · omega
  · omega
  refine WL.val rfl rfl rfl (Run.fieldO Tryz.runUnderlying123 rfl rfl rfl Tryz.sizeOf3 rfl) ?_
  obtain ⟨y_2, hy_2⟩ : ∃ z_, z_ = ({ y_1 with Safe := (((k + cnts cntEFile (a.take i)) + 1) + 1 * ((gat encFileR (mrkTo mkEFile cntEFile k a i) i).Body.xs.length : Int)) } : FileR) := ⟨_, rfl⟩
  refine WL.storeF (x' := y_2) (hs19.fr L16) ho18 Tryz.sizeOf3 rfl rfl rfl rfl rfl rfl rfl rfl rfl ?_ (by first | (rw [hy_2, gat_set (by (try simp only [List.length_set]); omega) rfl]; rfl) | (rw [hy_2]; rfl)) (fun L28 whs29 hs29 ho30 _ => ?_)
  · omega
  refine WL.nil (WC.region (WL.r 3 hs29 [] rfl (WL.nil (hK10 _ _ (WC.region (WL.r 3 hs29 [] rfl (WL.nil ?_)))))))
  refine tkN ?_
  obtain ⟨L31, hs32, hb33⟩ := hp25 (mkEFile (k + cnts cntEFile (a.take i)) (gat encFileR a i)) _ ((hs29.fr (L20 ++ L22)).fr L1_26) (by have h_ := ho27; first | exact h_ | (simp only [hg] at h_; exact h_))
  rw [mrkTo_set (F := encFileR) (by omega) rfl] at hb33
  have ho34 := OwnF.recast (ys := mrkTo mkEFile cntEFile k a (i + 1)) ho30 (by rw [mrkTo_len (by omega)]; (try simp only [List.length_set]); exact hfl.symm) (by rw [← mrkTo_set (F := encFileR) (i := i) (by omega) rfl]; try simp only [List.set_set]; exact rows_set_enc (by simp only [hy_2, hy_1, hg]; rfl))
  obtain ⟨L36, hs35, ho37⟩ := OwnN.fold (hs32.fr L28) ho34 hb33
  refine ⟨sbF rfl, _, hs35, _, ?_, i + 1, rfl, ?_, ho37, ⟨rfl, rfl, ?_, trivial⟩⟩
  · omega
  · omega
  · (refine congrArg some (congrArg (Value.int _) ?_); rw [cnts_take (F := encFileR) (by omega)]; simp only [cntEFile, hg]; omega)
 refine WC.exit (hK2 _ _ (WC.r1 hs7 [] rfl (WC.ret (retV1 rfl (resV.tmp rfl) ?_))))
 have hi_ : i = a.length := by omega
 have hx_ := ho6
 rw [mrkTo_full (by omega)] at hx_
 refine ⟨_, ?_, (St.keep1 hs7), hx_⟩
 rw [hi_, List.take_of_length_le (Nat.le_refl _)]
theorem k149_ (A_a : Option Addr) (n_a c_a : Nat) (a : List FileR) (k : Int) (w : World) (f_a : SlN encFileR (okFileR 549755813888) w A_a n_a (mrks mkEFile cntEFile k a)) (h1 : 0 ≤ k) (h2 : k + cnts cntEFile a ≤ 549755813888) (h3 : n_a ≤ 549755813888) :
    Calls Tryz.prog 92 #[.slice A_a n_a c_a, i64 k] w fun e w' => e = .returned (.int .i64 (k + cnts cntEFile a)) ∧ St w [] [] w' := by
 have hl : a.length = n_a := by have h_ := f_a.sl.len; simpa [mrks_len] using h_
 have hcn : ∀ x, 0 ≤ cntEFile x := fun x => by simp only [cntEFile]; omega
 refine enter 40 Tryz.func92 rfl Tryz.ntmps92 rfl rfl ?_
 have hs1 := St.init w
 refine WC.r1 hs1 [] rfl (WC.seq (fun K2 hK2 => WC.r1 hs1 [] rfl (WC.block ?_)))
 refine WC.lS [0] rfl hs1 (fun k_ f w' => ∃ (i : Nat), k_ = n_a - i ∧ (i ≤ n_a) ∧ Sub [(5, .int .i64 i), (1, .int .i64 (k + cnts cntEFile (a.take i)))] f) ((fun (i : Nat) => n_a - i) (0)) ?_ ?_
 ·refine ⟨0, rfl, ?_, ⟨rfl, ?_, trivial⟩⟩
  · exact Nat.zero_le _
  · (refine congrArg some (congrArg (Value.int _) ?_); simp [cnts])
 clear hs1
 rintro _ f w ⟨i, rfl, p0, hG⟩ hF hs3
 refine WC.sub _ (hG.app hF) ?_
 clear hG hF
 have hq0 := cnts_nonneg (c := cntEFile) hcn (a.take i)
 have hq1 := cnts_take_le hcn a i
 refine WC.seq (fun K4 hK4 => WC.r1 hs3 [] rfl ?_)
 refine WC.cD rfl (fun qh5 => ?_) (fun qh5 => ?_)
 ·have hg := mrks_gat (mk := mkEFile) (c := cntEFile) (F := encFileR) (k := k) (xs := a) (i := i) (by omega)
  have hq2 := cnts_take (c := cntEFile) (F := encFileR) (xs := a) (i := i) (by omega)
  have hq3 := cnts_take_le hcn a (i + 1)
  simp only [cntEFile] at hq2
  have hng := (SlN.nth f_a (show i < n_a by omega))
  rw [hg] at hng
  have hnl_Body := hng.Body.len
  have hnn_Body := hng.Body_n
  simp only [mkEFile, marks_len, mrks_len] at hnl_Body hnn_Body
  have hgn_Body : (gat encFileR (mrks mkEFile cntEFile k a) i).Body.n = (gat encFileR a i).Body.n := by rw [hg]; rfl
  have hm_Body : (gat encFileR (mrks mkEFile cntEFile k a) i).Body.xs = marks ub 1 ((k + cnts cntEFile (a.take i)) + 1) (gat encFileR a i).Body.xs.length := by rw [hg]; rfl
  refine WC.skip (hK4 _ _ (WC.seq (fun K6 hK6 => WC.block (WC.seq (fun K7 hK7 => WC.sr (WL.r 2 hs3 [] rfl ?_))))))
  refine WL.val rfl rfl rfl (Run.idxN Tryz.runUnderlying30 Tryz.sizeOf123 rfl rfl rfl ?_ ?_ ?_) ?_
  · exact SlF.some_ (SlF.st0 f_a.sl hs3)
  · omega
  · omega
  refine WL.val rfl rfl rfl (Run.fieldO Tryz.runUnderlying123 rfl rfl rfl Tryz.sizeOf3 rfl) (WL.val rfl rfl rfl (Run.load Tryz.isAgg3 rfl rfl (SlF.fld (SlF.st0 f_a.sl hs3) ?_ rfl)) ?_)
  · omega
  refine WL.r 2 hs3 [] rfl (WL.nil (WC.condF rfl (by simp [hg, mkEFile]) (WC.skip (hK7 _ _ (WC.r1 hs3 [] rfl (WC.sr (WL.r 2 hs3 [] rfl ?_)))))))
  refine WL.val rfl rfl rfl (Run.idxN Tryz.runUnderlying30 Tryz.sizeOf123 rfl rfl rfl ?_ ?_ ?_) ?_
  · exact SlF.some_ (SlF.st0 f_a.sl hs3)
  · omega
  · omega
  refine WL.val rfl rfl rfl (Run.fieldO Tryz.runUnderlying123 rfl rfl rfl Tryz.sizeOf43 rfl) (WL.val rfl rfl rfl (Run.load Tryz.isAgg43 rfl rfl (SlF.fld (SlF.st0 f_a.sl hs3) ?_ rfl)) ?_)
  · omega
  refine WL.r 1 hs3 [] rfl (WL.cl Tryz.call155 rfl (k8_ _ _ _ _ _ _ _ (SlF.st0 (SlN.nth f_a (by omega)).Body hs3) hm_Body ?_ ?_ ?_) ?_)
  iterate 3 first | assumption | rfl | omega
  rintro _ whs9 ⟨rfl, hs9⟩
  replace hs9 := hs3.call0 hs9
  refine ⟨_, rfl, WL.r 1 hs9 [] rfl (WL.nil (WC.seq (fun K10 hK10 => WC.r1 hs9 [] rfl ?_)))⟩
  refine WC.condF rfl (by first | (simp [hg, mkEFile]; done) | (simp [hg, mkEFile]; omega)) (WC.skip (hK10 _ _ (WC.seq (fun K12 hK12 => WC.sr (WL.r 2 hs9 [] rfl ?_)))))
  refine WL.val rfl rfl rfl (Run.idxN Tryz.runUnderlying30 Tryz.sizeOf123 rfl rfl rfl ?_ ?_ ?_) ?_
  · exact SlF.some_ (SlF.st0 f_a.sl hs9)
  · omega
  · omega
  refine WL.val rfl rfl rfl (Run.fieldO Tryz.runUnderlying123 rfl rfl rfl Tryz.sizeOf3 rfl) (WL.val rfl rfl rfl (Run.load Tryz.isAgg3 rfl rfl (SlF.fld (SlF.st0 f_a.sl hs9) ?_ rfl)) ?_)
  · omega
  refine WL.r 2 hs9 [] rfl (WL.nil (WC.condF rfl (by simp [hg, mkEFile]) (WC.skip (hK12 _ _ (WC.region (WL.r 3 hs9 [] rfl (WL.nil ?_)))))))
  refine hK6 _ _ (WC.region (WL.r 3 hs9 [] rfl (WL.nil (tkN ?_))))
  refine ⟨sbF rfl, hs9, _, ?_, i + 1, rfl, ?_, ⟨rfl, ?_, trivial⟩⟩
  · omega
  · omega
  · (refine congrArg some (congrArg (Value.int _) ?_); rw [cnts_take (F := encFileR) (by omega)]; simp only [cntEFile]; omega)
 refine WC.exit (hK2 _ _ (WC.r1 hs3 [] rfl (WC.ret (rtv rfl rfl hs3 ?_))))
 rw [show i = a.length from by omega, List.take_of_length_le (Nat.le_refl _)]
set_option maxHeartbeats 4000000 in
theorem k150_ (a : DiskR) (L_a : Hp) (k : Int) (w : World) (o_a : ownDiskR a L_a) (h_a : Hh w L_a) (hd_ : ((L_a).map (·.1)).Nodup) (h1 : 0 ≤ k) (h2 : endDisk k a ≤ 549755813888) (hb_Files : a.Files.xs.length ≤ 549755813888) :
    Calls Tryz.prog 31 #[.agg #[i64 a.Room, i64 a.Fuse, i64 a.Next, .slice a.Files.A a.Files.n a.Files.c, .slice a.Kept.A a.Kept.n a.Kept.c, .slice a.Turns.A a.Turns.n a.Turns.c], i64 k] w fun e w' => ∃ L1, e = .returned (.int .i64 (endDisk k a)) ∧ St w (L_a.map (·.1)) L1 w' ∧ ownDiskR (markDisk k a) L1 := by
 have hq2 := h2
 simp only [endDisk] at hq2
 have hcn_Files := cnts_nonneg (c := cntEFile) (fun x => by simp only [cntEFile]; omega) a.Files.xs
 refine enter 18 Tryz.func31 rfl Tryz.ntmps31 rfl rfl ?_
 have hs1 := St.takes1 w L_a h_a hd_
 refine WC.sr (WL.bx hs1 rfl (fun b2 _ hs3 => WL.r 1 hs3 [] rfl (WL.nil (WC.sr (WL.r 3 hs3 [0] rfl ?_)))))
 obtain ⟨L5, L6, L7, hs11, ho8, ho9, ho10⟩ := ownDiskR.op hs3 o_a
 have hs12 := (hs11.fb b2)
 refine WL.cl Tryz.call80 rfl (k148_ _ _ _ _ _ ho8 (hs12.ow L5) (St.nodupL (hs12.fr L5)) ?_ ?_ ?_) ?_
 iterate 3 first | assumption | omega | (simp only [endDisk]; omega)
 rintro _ whs4 ⟨L1_13, rfl, hs4, ho14⟩
 replace hs4 := St.lend (hs12.fr L5) hs4
 refine ⟨_, rfl, ?_⟩
 replace hs4 := St.back [_] hs4
 refine WL.r 1 hs4 [] rfl (WL.nil (WC.sr (WL.r 3 hs4 [0] rfl (WL.cl Tryz.call81 rfl (k144_ _ _ _ _ _ ho9 (hs4.ow L6) ?_ ?_ ?_) ?_))))
 iterate 3 first | assumption | rfl | omega | (simp only [endDisk]; omega)
 rintro _ whs15 ⟨L1_16, rfl, hs15, ho17⟩
 replace hs15 := St.lend (hs4.fr L6) hs15
 refine ⟨_, rfl, ?_⟩
 replace hs15 := St.back [_] hs15
 refine WL.r 1 hs15 [] rfl (WL.nil (WC.sr (WL.r 3 hs15 [0] rfl (WL.cl Tryz.call82 rfl (k146_ _ _ _ _ _ ho10 (hs15.ow L7) ?_ ?_ ?_) ?_))))
 iterate 3 first | assumption | rfl | omega | (simp only [endDisk]; omega)
 rintro _ whs18 ⟨L1_19, rfl, hs18, ho20⟩
 replace hs18 := St.lend (hs15.fr L7) hs18
 refine ⟨_, rfl, ?_⟩
 replace hs18 := St.back [_] hs18
 refine WL.r 1 hs18 [] rfl (WL.nil (WC.r1 hs18 [] rfl (WC.ret (retV1 rfl (resV.tmp rfl) ?_))))
 obtain ⟨L22, hs21, ho23⟩ := ownDiskR.fl hs18 ho14 ho17 ho20
 have hs24 := (hs21.fb b2)
 refine ⟨_, congrArg Ending.returned ?_, (St.keep1 (hs24.fr L22)), (by exact ho23)⟩
 first | rfl | (simp [endDisk]; done) | (simp [endDisk]; omega)
set_option maxHeartbeats 4000000 in
theorem k151_ (a : DiskR) (k : Int) (w : World) (f_a : okDiskR 549755813888 w (markDisk k a)) (h1 : 0 ≤ k) (h2 : endDisk k a ≤ 549755813888) :
    Calls Tryz.prog 45 #[.agg #[i64 a.Room, i64 a.Fuse, i64 a.Next, .slice a.Files.A a.Files.n a.Files.c, .slice a.Kept.A a.Kept.n a.Kept.c, .slice a.Turns.A a.Turns.n a.Turns.c], i64 k] w fun e w' => e = .returned (.int .i64 (endDisk k a)) ∧ St w [] [] w' := by
 have nb_Files : a.Files.n ≤ 549755813888 := f_a.Files_n
 have nl_Files : a.Files.xs.length = a.Files.n := by have h_ := f_a.Files.sl.len; simpa [markDisk, marks_len, mrks_len] using h_
 have nb_Kept : a.Kept.n ≤ 549755813888 := f_a.Kept_n
 have nl_Kept : a.Kept.xs.length = a.Kept.n := by have h_ := f_a.Kept.len; simpa [markDisk, marks_len, mrks_len] using h_
 have nb_Turns : a.Turns.n ≤ 549755813888 := f_a.Turns_n
 have nl_Turns : a.Turns.xs.length = a.Turns.n := by have h_ := f_a.Turns.len; simpa [markDisk, marks_len, mrks_len] using h_
 have nb_Files : a.Files.n ≤ 549755813888 := f_a.Files_n
 have nl_Files : a.Files.xs.length = a.Files.n := by have h_ := f_a.Files.sl.len; simpa [markDisk, marks_len, mrks_len] using h_
 have nb_Kept : a.Kept.n ≤ 549755813888 := f_a.Kept_n
 have nl_Kept : a.Kept.xs.length = a.Kept.n := by have h_ := f_a.Kept.len; simpa [markDisk, marks_len, mrks_len] using h_
 have nb_Turns : a.Turns.n ≤ 549755813888 := f_a.Turns_n
 have nl_Turns : a.Turns.xs.length = a.Turns.n := by have h_ := f_a.Turns.len; simpa [markDisk, marks_len, mrks_len] using h_
 have hq2 := h2
 simp only [endDisk] at hq2
 have hcn_Files := cnts_nonneg (c := cntEFile) (fun x => by simp only [cntEFile]; omega) a.Files.xs
 refine enter 24 Tryz.func45 rfl Tryz.ntmps45 rfl rfl ?_
 have hs1 := St.init w
 refine WC.sr (WL.bx hs1 rfl (fun b2 _ hs3 => WL.r 1 hs3 [] rfl (WL.nil (WC.sr (WL.r 3 hs3 [0] rfl ?_)))))
 refine WL.cl Tryz.call92 rfl (k149_ _ _ _ _ _ _ (SlN.st0 okFileR.st0 f_a.Files hs3) ?_ ?_ ?_) ?_
 iterate 3 first | assumption | omega | (simp only [endDisk]; omega)
 rintro _ whs4 ⟨rfl, hs4⟩
 replace hs4 := hs3.call0 hs4
 refine ⟨_, rfl, WL.r 1 hs4 [] rfl (WL.nil (WC.seq (fun K5 hK5 => WC.r1 hs4 [] rfl ?_)))⟩
 refine WC.condF rfl (by first | (simp; omega) | (rw [decide_eq_false_iff_not]; simp only [endDisk]; omega)) (WC.skip (hK5 _ _ (WC.sr (WL.r 3 hs4 [0] rfl ?_))))
 refine WL.cl Tryz.call93 rfl (k145_ _ _ _ _ _ _ _ (SlF.st0 f_a.Kept hs4) rfl ?_ ?_ ?_) ?_
 iterate 3 first | assumption | rfl | omega | (simp only [endDisk]; omega)
 rintro _ whs7 ⟨rfl, hs7⟩
 replace hs7 := hs4.call0 hs7
 refine ⟨_, rfl, WL.r 1 hs7 [] rfl (WL.nil (WC.seq (fun K8 hK8 => WC.r1 hs7 [] rfl ?_)))⟩
 refine WC.condF rfl (by first | (simp; omega) | (rw [decide_eq_false_iff_not]; simp only [endDisk]; omega)) (WC.skip (hK8 _ _ (WC.sr (WL.r 3 hs7 [0] rfl ?_))))
 refine WL.cl Tryz.call94 rfl (k147_ _ _ _ _ _ _ _ (SlF.st0 f_a.Turns hs7) rfl ?_ ?_ ?_) ?_
 iterate 3 first | assumption | rfl | omega | (simp only [endDisk]; omega)
 rintro _ whs10 ⟨rfl, hs10⟩
 replace hs10 := hs7.call0 hs10
 refine ⟨_, rfl, WL.r 1 hs10 [] rfl (WL.nil (WC.seq (fun K11 hK11 => WC.r1 hs10 [] rfl ?_)))⟩
 refine WC.condF rfl (by first | (simp; omega) | (rw [decide_eq_false_iff_not]; simp only [endDisk]; omega)) (WC.skip (hK11 _ _ (WC.r1 hs10 [] rfl (WC.ret (rtv rfl rfl hs10 ?_)))))
 first | rfl | (simp [endDisk, *]; done) | (simp [endDisk, *]; omega)
set_option maxHeartbeats 4000000 in
theorem k152_ (a : DepotR) (L_a : Hp) (k : Int) (w : World) (o_a : ownDepotR a L_a) (h_a : Hh w L_a) (hd_ : ((L_a).map (·.1)).Nodup) (h1 : 0 ≤ k) (h2 : endDepot k a ≤ 549755813888) (hb_Disk_Files : a.Disk.Files.xs.length ≤ 549755813888) :
    Calls Tryz.prog 15 #[.agg #[i64 a.Disk.Room, i64 a.Disk.Fuse, i64 a.Disk.Next, .slice a.Disk.Files.A a.Disk.Files.n a.Disk.Files.c, .slice a.Disk.Kept.A a.Disk.Kept.n a.Disk.Kept.c, .slice a.Disk.Turns.A a.Disk.Turns.n a.Disk.Turns.c, i64 a.Gen, i64 a.Seq, i64 a.Size, .bool a.Stuck], i64 k] w fun e w' => ∃ L1, e = .returned (.int .i64 (endDepot k a)) ∧ St w (L_a.map (·.1)) L1 w' ∧ ownDepotR (markDepot k a) L1 := by
 have hq2 := h2
 simp only [endDepot, endDisk] at hq2
 have hcn_Disk_Files := cnts_nonneg (c := cntEFile) (fun x => by simp only [cntEFile]; omega) a.Disk.Files.xs
 refine enter 10 Tryz.func15 rfl Tryz.ntmps15 rfl rfl ?_
 have hs1 := St.takes1 w L_a h_a hd_
 refine WC.sr (WL.bx hs1 rfl (fun b2 _ hs3 => WL.r 1 hs3 [] rfl (WL.nil (WC.sr (WL.r 3 hs3 [0] rfl ?_)))))
 obtain ⟨L4, L5, L6, hs10, ho7, ho8, ho9⟩ := ownDepotR.op hs3 o_a
 have hs11 := (hs10.fb b2)
 obtain ⟨L13, hs12, ho14⟩ := ownDiskR.fl hs11 ho7 ho8 ho9
 have hs15 := (hs12.fb b2)
 refine WL.cl Tryz.call31 rfl (k150_ ⟨a.Disk.Room, a.Disk.Fuse, a.Disk.Next, SlD.ofN ho7, SlD.of ho8, SlD.of ho9⟩ _ _ _ (by exact ho14) (hs15.ow L13) (St.nodupL (hs15.fr L13)) ?_ ?_ ?_) ?_
 · first | assumption | omega | (simp only [endDepot, endDisk]; omega)
 · first | assumption | omega | (simp only [endDisk]; omega) | (simp only [endDepot, endDisk]; omega)
 · first | assumption | omega | (simp only [endDepot, endDisk]; omega)
 rintro _ whs16 ⟨L1_17, rfl, hs16, ho18⟩
 replace hs16 := St.lend (hs15.fr L13) hs16
 refine ⟨_, rfl, ?_⟩
 replace hs16 := St.back [_] hs16
 refine WL.r 1 hs16 [] rfl (WL.nil (WC.r1 hs16 [] rfl (WC.ret (retV1 rfl (resV.tmp rfl) ?_))))
 obtain ⟨L19, L20, L21, hs25, ho22, ho23, ho24⟩ := ownDiskR.op hs16 ho18
 have hs26 := (hs25.fb b2)
 obtain ⟨L28, hs27, ho29⟩ := ownDepotR.fl hs26 ho22 ho23 ho24
 have hs30 := (hs27.fb b2)
 refine ⟨_, congrArg Ending.returned ?_, (St.keep1 (hs30.fr L28)), (by exact ho29)⟩
 first | rfl | (simp [endDepot]; done) | (simp [endDepot]; omega)
set_option maxHeartbeats 4000000 in
theorem k153_ (a : DepotR) (k : Int) (w : World) (f_a : okDepotR 549755813888 w (markDepot k a)) (h1 : 0 ≤ k) (h2 : endDepot k a ≤ 549755813888) :
    Calls Tryz.prog 16 #[.agg #[i64 a.Disk.Room, i64 a.Disk.Fuse, i64 a.Disk.Next, .slice a.Disk.Files.A a.Disk.Files.n a.Disk.Files.c, .slice a.Disk.Kept.A a.Disk.Kept.n a.Disk.Kept.c, .slice a.Disk.Turns.A a.Disk.Turns.n a.Disk.Turns.c, i64 a.Gen, i64 a.Seq, i64 a.Size, .bool a.Stuck], i64 k] w fun e w' => e = .returned (.int .i64 (endDepot k a)) ∧ St w [] [] w' := by
 have fm_Disk : okDiskR 549755813888 w (markDisk k a.Disk) := f_a.Disk
 have nb_Disk_Files : a.Disk.Files.n ≤ 549755813888 := f_a.Disk.Files_n
 have nl_Disk_Files : a.Disk.Files.xs.length = a.Disk.Files.n := by have h_ := f_a.Disk.Files.sl.len; simpa [markDepot, markDisk, marks_len, mrks_len] using h_
 have nb_Disk_Kept : a.Disk.Kept.n ≤ 549755813888 := f_a.Disk.Kept_n
 have nl_Disk_Kept : a.Disk.Kept.xs.length = a.Disk.Kept.n := by have h_ := f_a.Disk.Kept.len; simpa [markDepot, markDisk, marks_len, mrks_len] using h_
 have nb_Disk_Turns : a.Disk.Turns.n ≤ 549755813888 := f_a.Disk.Turns_n
 have nl_Disk_Turns : a.Disk.Turns.xs.length = a.Disk.Turns.n := by have h_ := f_a.Disk.Turns.len; simpa [markDepot, markDisk, marks_len, mrks_len] using h_
 have fm_Disk : okDiskR 549755813888 w (markDisk k a.Disk) := f_a.Disk
 have nb_Disk_Files : a.Disk.Files.n ≤ 549755813888 := f_a.Disk.Files_n
 have nl_Disk_Files : a.Disk.Files.xs.length = a.Disk.Files.n := by have h_ := f_a.Disk.Files.sl.len; simpa [markDepot, markDisk, marks_len, mrks_len] using h_
 have nb_Disk_Kept : a.Disk.Kept.n ≤ 549755813888 := f_a.Disk.Kept_n
 have nl_Disk_Kept : a.Disk.Kept.xs.length = a.Disk.Kept.n := by have h_ := f_a.Disk.Kept.len; simpa [markDepot, markDisk, marks_len, mrks_len] using h_
 have nb_Disk_Turns : a.Disk.Turns.n ≤ 549755813888 := f_a.Disk.Turns_n
 have nl_Disk_Turns : a.Disk.Turns.xs.length = a.Disk.Turns.n := by have h_ := f_a.Disk.Turns.len; simpa [markDepot, markDisk, marks_len, mrks_len] using h_
 have hq2 := h2
 simp only [endDepot, endDisk] at hq2
 have hcn_Disk_Files := cnts_nonneg (c := cntEFile) (fun x => by simp only [cntEFile]; omega) a.Disk.Files.xs
 refine enter 12 Tryz.func16 rfl Tryz.ntmps16 rfl rfl ?_
 have hs1 := St.init w
 refine WC.sr (WL.bx hs1 rfl (fun b2 _ hs3 => WL.r 1 hs3 [] rfl (WL.nil (WC.sr (WL.r 3 hs3 [0] rfl ?_)))))
 refine WL.cl Tryz.call45 rfl (k151_ _ _ _ (okDiskR.st0 fm_Disk hs3) ?_ ?_) ?_
 · first | assumption | omega | (simp only [endDepot, endDisk]; omega)
 · first | assumption | omega | (simp only [endDisk]; omega) | (simp only [endDepot, endDisk]; omega)
 rintro _ whs4 ⟨rfl, hs4⟩
 replace hs4 := hs3.call0 hs4
 refine ⟨_, rfl, WL.r 1 hs4 [] rfl (WL.nil (WC.seq (fun K5 hK5 => WC.r1 hs4 [] rfl ?_)))⟩
 refine WC.condF rfl (by first | (simp; omega) | (rw [decide_eq_false_iff_not]; simp only [endDepot, endDisk]; omega)) (WC.skip (hK5 _ _ (WC.r1 hs4 [] rfl (WC.ret (rtv rfl rfl hs4 ?_)))))
 first | rfl | (simp [endDepot, endDisk, *]; done) | (simp [endDepot, endDisk, *]; omega)
set_option maxHeartbeats 8000000 in
theorem k154_ (aP : DepotR) (A_aData : Option Addr) (n_aData c_aData : Nat) (aData : List UInt8) (w : World) (f_aP : okDepotR 9223372036854775807 w aP) (f_aData : SlF encB w A_aData n_aData aData) (hl9 : LibOk w) :
    Calls Tryz.prog 7 #[.agg #[i64 aP.Disk.Room, i64 aP.Disk.Fuse, i64 aP.Disk.Next, .slice aP.Disk.Files.A aP.Disk.Files.n aP.Disk.Files.c, .slice aP.Disk.Kept.A aP.Disk.Kept.n aP.Disk.Kept.c, .slice aP.Disk.Turns.A aP.Disk.Turns.n aP.Disk.Turns.c, i64 aP.Gen, i64 aP.Seq, i64 aP.Size, .bool aP.Stuck], .slice A_aData n_aData c_aData] w fun e w' => e = .returned (.bool true) ∧ St w [] [] w' := by
 have nb_aP_Disk_Files := f_aP.Disk.Files_n
 have nl_aP_Disk_Files := f_aP.Disk.Files.sl.len
 have nb_aP_Disk_Kept := f_aP.Disk.Kept_n
 have nl_aP_Disk_Kept := f_aP.Disk.Kept.len
 have nb_aP_Disk_Turns := f_aP.Disk.Turns_n
 have nl_aP_Disk_Turns := f_aP.Disk.Turns.len
 refine enter 117 Tryz.func7 rfl Tryz.ntmps7 rfl rfl ?_
 have hs1 := St.init w
 refine WC.sr (WL.bx hs1 rfl (fun b2 _ hs3 => WL.r 1 hs3 [] rfl (WL.nil (WC.seq (fun K4 hK4 => WC.r1 hs3 [] rfl ?_)))))
 refine WC.cD rfl (fun qh5 => ?_) (fun qh5 => ?_)
 ·refine WC.r1 hs3 [] rfl (WC.ret (tkR ?_))
  clear hK4
  refine rtv rfl rfl hs3 ?_
  rfl
 have hn : n_aData ≤ 1048576 := by have h9 := qh5; first | omega | (simp at h9; omega)
 have hbl := f_aData.len
 refine WC.skip (hK4 _ _ (WC.r1 hs3 [] rfl (WC.sr (WL.r 2 hs3 [0] rfl ?_))))
 refine WL.cl Tryz.call10 rfl (k140_ aP _ _ (okDepotR.st0 f_aP hs3) ?_ ?_) ?_
 · first | assumption | omega | exact lib_st hl9 (by assumption) | (simp only [endDepot, endDisk]; first | done | assumption | omega)
 · first | assumption | omega | exact szR_b (by assumption) (by omega) (by first | assumption | omega) | exact lib_st hl9 (by assumption) | (simp only [endDepot, endDisk]; first | done | assumption | omega)
 rintro _ whs6 ⟨rfl, hs6⟩
 replace hs6 := hs3.call0 hs6
 refine ⟨_, rfl, WL.r 1 hs6 [] rfl (WL.nil (WC.seq (fun K7 hK7 => WC.r1 hs6 [] rfl ?_)))⟩
 refine WC.cD rfl (fun qh8 => ?_) (fun qh8 => ?_)
 ·refine WC.r1 hs6 [] rfl (WC.ret (tkR ?_))
  clear hK7
  refine rtv rfl rfl hs6 ?_
  rfl
 simp only [szR] at qh8
 have hb_aP : totDepot aP.dat ≤ 1048576 := by split at qh8 <;> omega
 have hsm_aP : smDepot 1048576 aP.dat := totDepot_sm hb_aP
 have hsB_aP : smDepot 549755813888 aP.dat := totDepot_sm (by omega)
 have f_aP := f_aP.to hsB_aP
 have hbD : totDisk aP.dat.Disk ≤ 1048576 := hb_aP
 have hT : totDepot (compD aP.dat aData) ≤ 1048576 := comp_tot hbD
 have hTB : smDepot 549755813888 (compD aP.dat aData) := totDepot_sm (by omega)
 refine WC.skip (hK7 _ _ (WC.sr (WL.r 1 hs6 [0] rfl (WL.cl Tryz.call12 rfl (k141_ aP _ (okDepotR.st0 f_aP hs6)) ?_))))
 rintro _ whs9 ⟨r10, L1_11, rfl, hs9, ho12, hd13⟩
 replace hs9 := hs6.callF hs9
 refine ⟨_, rfl, ?_⟩
 replace hs9 := St.back [_] hs9
 refine WL.r 1 hs9 [] rfl (WL.cl Tryz.call18 rfl (k5_ _ _ _ _ _ (SlF.st0 f_aData hs9) ?_) ?_)
 · first | assumption | rfl | omega | exact lib_st hl9 (by assumption) | (simp only [hd13, endDepot, endDisk]; first | done | assumption | omega)
 rintro _ whs14 ⟨A15, c16, L1_17, rfl, hs14, ho18⟩
 replace hs14 := hs9.callF hs14
 refine ⟨_, rfl, ?_⟩
 replace hs14 := St.back [_] hs14
 refine WL.cl Tryz.call32 rfl (k139_ r10 _ _ _ _ _ (ownDepotR.ok (B := 549755813888) ho12 (hs14.ow L1_11) (by rw [hd13]; assumption)) (SlF.ofOwn ho18 (hs14.ow L1_17)) ?_ ?_) ?_
 iterate 2 focus first | assumption | rfl | omega | exact lib_st hl9 (by assumption) | (simp only [hd13, endDepot, endDisk]; first | done | assumption | omega)
 rintro _ whs19 ⟨r20, L1_21, rfl, hs19, ho22, hd23⟩
 try simp only [hd13] at hd23
 replace hs19 := hs14.callF hs19
 refine ⟨_, rfl, ?_⟩
 replace hs19 := St.back [_] hs19
 refine WL.r 3 hs19 [] rfl (WL.al hs19 Tryz.zeroValue36 rfl rfl (fun b24 _ hs25 => WL.st tbk hs25 0 rfl rfl (fun _ hs26 => WL.r 1 hs26 [] rfl (WL.nil (WC.sr (WL.r 1 hs26 [1] rfl (WL.cl Tryz.call12 rfl (k141_ aP _ (okDepotR.st0 f_aP hs26)) ?_)))))))
 rintro _ whs27 ⟨r28, L1_29, rfl, hs27, ho30, hd31⟩
 try simp only [hd13, hd23] at hd31
 replace hs27 := hs26.callF hs27
 refine ⟨_, rfl, ?_⟩
 replace hs27 := St.back [_, _] hs27
 have el0 := endDepot_le 1 r28
 rw [hd31] at el0
 have eg0 := endDepot_ge 1 r28
 have eb0 : endDepot 1 r28 ≤ 549755813888 := by omega
 have en0_Disk_Files : r28.Disk.Files.xs.length ≤ 549755813888 := by have h1 := tots_len totFile (r28.Disk.Files.xs.map FileR.dat); rw [List.length_map] at h1; have h2 : totDepot r28.dat ≤ 1048576 := (by rw [hd31]; exact hb_aP); simp only [DepotR.dat, DiskR.dat, totDepot, totDisk] at h2; omega
 refine WL.al hs27 Tryz.zeroValue36 rfl rfl (fun b32 _ hs33 => WL.st tbk hs33 0 rfl rfl (fun _ hs34 => WL.nil (WC.sr (WL.r 1 hs34 [] rfl ?_))))
 refine WL.cl Tryz.call18 rfl (k5_ _ _ _ _ _ (SlF.st0 f_aData hs34) ?_) ?_
 · first | assumption | rfl | omega | exact lib_st hl9 (by assumption) | (simp only [hd13, hd23, hd31, endDepot, endDisk]; first | done | assumption | omega)
 rintro _ whs35 ⟨A36, c37, L1_38, rfl, hs35, ho39⟩
 replace hs35 := hs34.callF hs35
 refine ⟨_, rfl, ?_⟩
 replace hs35 := St.back [_, _, _] hs35
 refine WL.r 1 hs35 [] rfl (WL.nil (WC.sr (WL.r 2 hs35 [0] rfl ?_)))
 refine WL.cl Tryz.call33 rfl (k120_ r28 _ _ _ _ _ (ownDepotR.ok (B := 549755813888) ho30 (hs35.ow L1_29) (by rw [hd31]; assumption)) (SlF.ofOwn ho39 (hs35.ow L1_38)) ?_ ?_ ?_) ?_
 iterate 3 focus first | assumption | rfl | omega | exact lib_st hl9 (by assumption) | (simp only [hd13, hd23, hd31, endDepot, endDisk]; first | done | assumption | omega)
 rintro _ whs40 ⟨r41, L1_42, rfl, hs40, ho43, hd44⟩
 try simp only [hd13, hd23, hd31] at hd44
 replace hs40 := hs35.callF hs40
 refine ⟨_, rfl, ?_⟩
 replace hs40 := St.back [_, _, _] hs40
 have el1 := endDepot_le 1 r41
 rw [hd44] at el1
 have eg1 := endDepot_ge 1 r41
 have eb1 : endDepot 1 r41 ≤ 549755813888 := by omega
 have en1_Disk_Files : r41.Disk.Files.xs.length ≤ 549755813888 := by have h1 := tots_len totFile (r41.Disk.Files.xs.map FileR.dat); rw [List.length_map] at h1; have h2 : totDepot r41.dat ≤ 1048576 := (by rw [hd44]; exact hT); simp only [DepotR.dat, DiskR.dat, totDepot, totDisk] at h2; omega
 refine WL.r 3 hs40 [] rfl (WL.al hs40 Tryz.zeroValue36 rfl rfl (fun b45 _ hs46 => WL.st tbk hs46 0 rfl rfl (fun _ hs47 => WL.r 1 hs47 [] rfl (WL.nil (WC.seq (fun K48 hK48 => WC.sr (WL.r 2 hs47 [0, 2] rfl ?_)))))))
 refine WL.cl Tryz.call14 rfl (k142_ r41 r20 _ (ownDepotR.ok (B := 549755813888) ho43 (hs47.ow L1_42) (by rw [hd44]; assumption)) (ownDepotR.ok (B := 549755813888) ho22 (hs47.ow L1_21) (by rw [hd23]; assumption)) ?_) ?_
 · first | assumption | rfl | omega | exact lib_st hl9 (by assumption) | (simp only [hd13, hd23, hd31, hd44, endDepot, endDisk]; first | done | assumption | omega)
 rintro _ whs49 ⟨rfl, hs49⟩
 replace hs49 := hs47.call0 hs49
 refine ⟨_, rfl, WL.r 2 hs49 [] rfl (WL.pO tbk 3 Acts.nil hs49 [] rfl rfl rfl rfl (fun g_ => trivial) (WL.nil ?_))⟩
 refine WC.condF rfl (by first | (simp; done) | (simp; omega) | (simp [hd13, hd23, hd31, hd44]; done) | (simp [hd13, hd23, hd31, hd44]; omega) | (simp only [endDepot, endDisk]; simp; omega)) (WC.skip (hK48 _ _ (WC.seq (fun K51 hK51 => WC.seq (fun K52 hK52 => WC.rH hs49 hs49 (fun _ hs53 => ?_))))))
 refine WH.rn [0, 1] hs53 [1, 3] rfl rfl (WH.o1 2 rfl (WL.cl Tryz.call12 rfl (k141_ aP _ (okDepotR.st0 f_aP hs53)) ?_))
 rintro _ whs54 ⟨r55, L1_56, rfl, hs54, ho57, hd58⟩
 try simp only [hd13, hd23, hd31, hd44] at hd58
 replace hs54 := hs53.callF hs54
 refine ⟨_, rfl, ?_⟩
 replace hs54 := St.back [_, _, _, _] hs54
 refine WL.nil ⟨(hs54.rm L1_56), WH.o1 3 rfl ?_⟩
 refine WL.cl Tryz.call14 rfl (k142_ r28 r55 _ (ownDepotR.ok (B := 549755813888) ho30 (hs54.ow L1_29) (by rw [hd31]; assumption)) (ownDepotR.ok (B := 549755813888) ho57 (hs54.ow L1_56) (by rw [hd58]; assumption)) ?_) ?_
 · first | assumption | rfl | omega | exact lib_st hl9 (by assumption) | (simp only [hd13, hd23, hd31, hd44, hd58, endDepot, endDisk]; first | done | assumption | omega)
 rintro _ whs59 ⟨rfl, hs59⟩
 replace hs59 := hs54.call0 hs59
 refine ⟨_, rfl, WL.nil ⟨(hs59.rm L1_56), WH.rn [4] (hs59.rm L1_56) [] rfl rfl (WH.dn (hK52 _ _ ?_))⟩⟩
 refine WC.condF rfl (by first | (simp; done) | (simp; omega) | (simp [hd13, hd23, hd31, hd44, hd58]; done) | (simp [hd13, hd23, hd31, hd44, hd58]; omega) | (simp only [endDepot, endDisk]; simp; omega)) (WC.skip (hK51 _ _ (WC.seq (fun K61 hK61 => WC.sr (WL.r 2 hs59 [] rfl ?_)))))
 refine WL.cl Tryz.call18 rfl (k5_ _ _ _ _ _ (SlF.st0 f_aData hs59) ?_) ?_
 · first | assumption | rfl | omega | exact lib_st hl9 (by assumption) | (simp only [hd13, hd23, hd31, hd44, hd58, endDepot, endDisk]; first | done | assumption | omega)
 rintro _ whs62 ⟨A63, c64, L1_65, rfl, hs62, ho66⟩
 replace hs62 := hs59.callF hs62
 refine ⟨_, rfl, ?_⟩
 replace hs62 := St.back [_, _, _, _] hs62
 refine WL.cl Tryz.call20 rfl (k6_ _ _ _ _ _ _ _ _ _ (SlF.ofOwn ho39 (hs62.ow L1_38)) (SlF.ofOwn ho66 (hs62.ow L1_65)) ?_ ?_) ?_
 iterate 2 focus first | assumption | rfl | omega | exact lib_st hl9 (by assumption) | (simp only [hd13, hd23, hd31, hd44, hd58, endDepot, endDisk]; first | done | assumption | omega)
 rintro _ whs67 ⟨rfl, hs67⟩
 replace hs67 := hs62.call0 hs67
 refine ⟨_, rfl, WL.r 1 hs67 [] rfl (WL.nil ?_)⟩
 refine WC.condF rfl (by first | (simp; done) | (simp; omega) | (simp [hd13, hd23, hd31, hd44, hd58]; done) | (simp [hd13, hd23, hd31, hd44, hd58]; omega) | (simp only [endDepot, endDisk]; simp; omega)) (WC.skip (hK61 _ _ (WC.r1 hs67 [] rfl (WC.sr (WL.r 2 hs67 [1] rfl ?_)))))
 refine WL.cl Tryz.call15 rfl (k152_ r28 _ _ _ ho30 (hs67.ow L1_29) (St.nodupL (hs67.fr L1_29)) ?_ ?_ ?_) ?_
 · first | assumption | omega | exact lib_st hl9 (by assumption) | (simp only [hd13, hd23, hd31, hd44, hd58, endDepot, endDisk]; first | done | assumption | omega)
 · first | assumption | omega | (simp only [endDepot, endDisk]; omega) | exact lib_st hl9 (by assumption) | (simp only [hd13, hd23, hd31, hd44, hd58, endDepot, endDisk]; first | done | assumption | omega)
 · first | assumption | omega | exact lib_st hl9 (by assumption) | (simp only [hd13, hd23, hd31, hd44, hd58, endDepot, endDisk]; first | done | assumption | omega)
 rintro _ whs69 ⟨L1_70, rfl, hs69, ho71⟩
 replace hs69 := St.lend (hs67.fr L1_29) hs69
 refine ⟨_, rfl, ?_⟩
 replace hs69 := St.back [_, _, _, _] hs69
 refine WL.r 1 hs69 [] rfl (WL.nil (WC.sr (WL.r 2 hs69 [] rfl (WL.cl Tryz.call21 rfl (k7_ _ _ _ _ _ ho39 (hs69.ow L1_38) ?_ ?_ ?_) ?_))))
 iterate 3 focus first | assumption | rfl | omega | exact lib_st hl9 (by assumption) | (simp only [hd13, hd23, hd31, hd44, hd58, endDepot, endDisk]; first | done | assumption | omega)
 rintro _ whs72 ⟨L1_73, rfl, hs72, ho74⟩
 replace hs72 := St.lend (hs69.fr L1_38) hs72
 refine ⟨_, rfl, ?_⟩
 replace hs72 := St.back [_, _, _, _] hs72
 refine WL.r 1 hs72 [] rfl (WL.nil (WC.seq (fun K75 hK75 => WC.sr (WL.r 3 hs72 [] rfl ?_))))
 apply WL.gO 4 Acts.nil hs72 rfl
 ·intro g76 J77
  have qg76 := g76
  try simp only [bf, within_iff, within_not] at qg76
  refine WL.runA tbk 2 (Acts.nil.cons (j := 2) rfl g76) hs72 [0, 2] rfl ⟨rfl, rfl, trivial⟩ ?_
  refine WL.call (wantF rfl g76) rfl rfl (Run.call Tryz.call14 rfl rfl rfl) (k142_ r41 r20 _ (ownDepotR.ok (B := 549755813888) ho43 (hs72.ow L1_42) (by rw [hd44]; assumption)) (ownDepotR.ok (B := 549755813888) ho22 (hs72.ow L1_21) (by rw [hd23]; assumption)) ?_) ?_
  · first | assumption | rfl | omega | exact lib_st hl9 (by assumption) | (simp only [hd13, hd23, hd31, hd44, hd58, endDepot, endDisk]; first | done | assumption | omega)
  rintro _ whs78 ⟨rfl, hs78⟩
  replace hs78 := hs72.call0 hs78
  refine ⟨_, rfl, WL.runA tbk 1 (Acts.nil.cons (j := 2) rfl g76) hs78 [] rfl trivial (WL.eO 4 Acts.nil J77 hs78 g76 rfl rfl)⟩
 intro _ hs79
 refine WL.r 1 hs79 [] rfl (WL.pO tbk 3 Acts.nil hs79 [] rfl rfl rfl rfl (fun g_ => trivial) (WL.nil ?_))
 refine WC.condF rfl (by first | (simp; done) | (simp; omega) | (simp [hd13, hd23, hd31, hd44, hd58]; done) | (simp [hd13, hd23, hd31, hd44, hd58]; omega) | (simp only [endDepot, endDisk]; simp; omega)) (WC.skip (hK75 _ _ (WC.r1 hs79 [] rfl (WC.sr (WL.r 2 hs79 [0] rfl ?_)))))
 refine WL.cl Tryz.call15 rfl (k152_ r41 _ _ _ ho43 (hs79.ow L1_42) (St.nodupL (hs79.fr L1_42)) ?_ ?_ ?_) ?_
 · first | assumption | omega | exact lib_st hl9 (by assumption) | (simp only [hd13, hd23, hd31, hd44, hd58, endDepot, endDisk]; first | done | assumption | omega)
 · first | assumption | omega | (simp only [endDepot, endDisk]; omega) | exact lib_st hl9 (by assumption) | (simp only [hd13, hd23, hd31, hd44, hd58, endDepot, endDisk]; first | done | assumption | omega)
 · first | assumption | omega | exact lib_st hl9 (by assumption) | (simp only [hd13, hd23, hd31, hd44, hd58, endDepot, endDisk]; first | done | assumption | omega)
 rintro _ whs81 ⟨L1_82, rfl, hs81, ho83⟩
 replace hs81 := St.lend (hs79.fr L1_42) hs81
 refine ⟨_, rfl, ?_⟩
 replace hs81 := St.back [_, _, _, _] hs81
 refine WL.r 1 hs81 [] rfl (WL.nil (WC.r1 hs81 [] rfl (WC.sr (WL.r 2 hs81 [0] rfl ?_))))
 refine WL.cl Tryz.call16 rfl (k153_ _ _ _ (ownDepotR.ok (B := 549755813888) ho83 (hs81.ow L1_82) (markDepot_sm (by rw [hd44]; assumption))) ?_ ?_) ?_
 · first | assumption | omega | exact lib_st hl9 (by assumption) | (simp only [hd13, hd23, hd31, hd44, hd58, endDepot, endDisk]; first | done | assumption | omega)
 · first | assumption | omega | (simp only [endDepot, endDisk]; omega) | exact lib_st hl9 (by assumption) | (simp only [hd13, hd23, hd31, hd44, hd58, endDepot, endDisk]; first | done | assumption | omega)
 rintro _ whs84 ⟨rfl, hs84⟩
 replace hs84 := hs81.call0 hs84
 refine ⟨_, rfl, WL.r 1 hs84 [] rfl (WL.nil (WC.seq (fun K85 hK85 => WC.r1 hs84 [] rfl ?_)))⟩
 refine WC.condF rfl (by first | (simp; done) | (simp; omega) | (simp [hd13, hd23, hd31, hd44, hd58]; done) | (simp [hd13, hd23, hd31, hd44, hd58]; omega) | (simp only [endDepot, endDisk]; simp; omega)) (WC.skip (hK85 _ _ (WC.seq (fun K87 hK87 => WC.r1 hs84 [] rfl ?_))))
 refine WC.condF rfl (by first | (simp; done) | (simp; omega) | (simp [hd13, hd23, hd31, hd44, hd58]; done) | (simp [hd13, hd23, hd31, hd44, hd58]; omega) | (simp only [endDepot, endDisk]; simp; omega)) (WC.skip (hK87 _ _ (WC.sr (WL.r 1 hs84 [3] rfl (WL.cl Tryz.call12 rfl (k141_ aP _ (okDepotR.st0 f_aP hs84)) ?_)))))
 rintro _ whs89 ⟨r90, L1_91, rfl, hs89, ho92, hd93⟩
 try simp only [hd13, hd23, hd31, hd44, hd58] at hd93
 replace hs89 := hs84.callF hs89
 refine ⟨_, rfl, ?_⟩
 replace hs89 := St.back [_, _, _, _] hs89
 refine WL.r 1 hs89 [] rfl (WL.cl Tryz.call18 rfl (k5_ _ _ _ _ _ (SlF.st0 f_aData hs89) ?_) ?_)
 · first | assumption | rfl | omega | exact lib_st hl9 (by assumption) | (simp only [hd13, hd23, hd31, hd44, hd58, hd93, endDepot, endDisk]; first | done | assumption | omega)
 rintro _ whs94 ⟨A95, c96, L1_97, rfl, hs94, ho98⟩
 replace hs94 := hs89.callF hs94
 refine ⟨_, rfl, ?_⟩
 replace hs94 := St.back [_, _, _, _] hs94
 refine WL.cl Tryz.call33 rfl (k120_ r90 _ _ _ _ _ (ownDepotR.ok (B := 549755813888) ho92 (hs94.ow L1_91) (by rw [hd93]; assumption)) (SlF.ofOwn ho98 (hs94.ow L1_97)) ?_ ?_ ?_) ?_
 iterate 3 focus first | assumption | rfl | omega | exact lib_st hl9 (by assumption) | (simp only [hd13, hd23, hd31, hd44, hd58, hd93, endDepot, endDisk]; first | done | assumption | omega)
 rintro _ whs99 ⟨r100, L1_101, rfl, hs99, ho102, hd103⟩
 try simp only [hd13, hd23, hd31, hd44, hd58, hd93] at hd103
 replace hs99 := hs94.callF hs99
 refine ⟨_, rfl, ?_⟩
 replace hs99 := St.back [_, _, _, _] hs99
 refine WL.r 3 hs99 [] rfl (WL.al hs99 Tryz.zeroValue36 rfl rfl (fun b104 _ hs105 => WL.st tbk hs105 0 rfl rfl (fun _ hs106 => WL.r 1 hs106 [] rfl (WL.nil (WC.seq (fun K107 hK107 => WC.sr (WL.r 2 hs106 [0, 3] rfl ?_)))))))
 refine WL.cl Tryz.call14 rfl (k142_ r100 r20 _ (ownDepotR.ok (B := 549755813888) ho102 (hs106.ow L1_101) (by rw [hd103]; assumption)) (ownDepotR.ok (B := 549755813888) ho22 (hs106.ow L1_21) (by rw [hd23]; assumption)) ?_) ?_
 · first | assumption | rfl | omega | exact lib_st hl9 (by assumption) | (simp only [hd13, hd23, hd31, hd44, hd58, hd93, hd103, endDepot, endDisk]; first | done | assumption | omega)
 rintro _ whs108 ⟨rfl, hs108⟩
 replace hs108 := hs106.call0 hs108
 refine ⟨_, rfl, WL.r 2 hs108 [] rfl (WL.pO tbk 3 Acts.nil hs108 [] rfl rfl rfl rfl (fun g_ => trivial) (WL.nil ?_))⟩
 refine WC.condF rfl (by first | (simp; done) | (simp; omega) | (simp [hd13, hd23, hd31, hd44, hd58, hd93, hd103]; done) | (simp [hd13, hd23, hd31, hd44, hd58, hd93, hd103]; omega) | (simp only [endDepot, endDisk]; simp; omega)) (WC.skip (hK107 _ _ (WC.r1 hs108 [] rfl (WC.sr (WL.r 2 hs108 [1] rfl ?_)))))
 refine WL.cl Tryz.call16 rfl (k153_ _ _ _ (ownDepotR.ok (B := 549755813888) ho83 (hs108.ow L1_82) (markDepot_sm (by rw [hd44]; assumption))) ?_ ?_) ?_
 · first | assumption | omega | exact lib_st hl9 (by assumption) | (simp only [hd13, hd23, hd31, hd44, hd58, hd93, hd103, endDepot, endDisk]; first | done | assumption | omega)
 · first | assumption | omega | (simp only [endDepot, endDisk]; omega) | exact lib_st hl9 (by assumption) | (simp only [hd13, hd23, hd31, hd44, hd58, hd93, hd103, endDepot, endDisk]; first | done | assumption | omega)
 rintro _ whs110 ⟨rfl, hs110⟩
 replace hs110 := hs108.call0 hs110
 refine ⟨_, rfl, WL.r 1 hs110 [] rfl (WL.nil (WC.seq (fun K111 hK111 => WC.r1 hs110 [] rfl ?_)))⟩
 refine WC.condF rfl (by first | (simp; done) | (simp; omega) | (simp [hd13, hd23, hd31, hd44, hd58, hd93, hd103]; done) | (simp [hd13, hd23, hd31, hd44, hd58, hd93, hd103]; omega) | (simp only [endDepot, endDisk]; simp; omega)) (WC.skip (hK111 _ _ (WC.seq (fun K113 hK113 => WC.r1 hs110 [] rfl ?_))))
 refine WC.condF rfl (by first | (simp; done) | (simp; omega) | (simp [hd13, hd23, hd31, hd44, hd58, hd93, hd103]; done) | (simp [hd13, hd23, hd31, hd44, hd58, hd93, hd103]; omega) | (simp only [endDepot, endDisk]; simp; omega)) (WC.skip (hK113 _ _ (WC.r1 hs110 [] rfl (WC.ret (rtv rfl rfl hs110 ?_)))))
 rfl
open Go Go.RowKit Go.ChangeShapes Go.WideShapes Go.ChangeAt Go.Deep
theorem list_succ {n : Nat} {l : List Value} (h : l.length = n + 1) : ∃ c r, l = c :: r ∧ r.length = n := by
 cases l with
 | nil => simp at h
 | cons c r => exact ⟨c, r, rfl, by simpa using h⟩
theorem list_zero {l : List Value} (h : l.length = 0) : l = [] := List.eq_nil_of_length_eq_zero h
section
variable {H : Type} {enc : TypeId × Value → H} {P : Program} {w : World} {base : Nat} {spare : Nat → Bool} {held : Bool} {fuel : Nat} {t e : TypeId} {cs : List Value} {x : DataW H × List MemPlace}
theorem trod_flds {fs : Array Field} (ht : P.underlying t = some (.struct fs)) (h : DataW.trod enc P w base spare held fuel t cs = some x) :
  cs.length = P.cellsOf t ∧ ∃ n, ∀ (i : Nat) (f : Field), fs.toList[i]? = some f → ∃ y, DataW.trod enc P w base spare held n f.type ((cs.drop f.offset).take (P.cellsOf f.type)) = some y := by
 obtain ⟨xs, n, _, _, hl, hlen, hg⟩ := DataW.trod_struct ht h
 refine ⟨hl, n, fun i f hf => ?_⟩
 have hf' : fs[i]? = some f := by simpa using hf
 have hi : i < xs.length := by rw [hlen]; exact (Array.getElem?_eq_some_iff.1 hf').1
 exact ⟨xs[i], (hg i f hf').trans (List.getElem?_eq_getElem hi)⟩
theorem open_i64 (ht : P.underlying t = some (.int .i64)) (h : DataW.trod enc P w base spare held fuel t cs = some x) : ∃ n, cs = [i64 n] ∧ In64 n := by
 obtain ⟨n, rfl, _, hw⟩ := DataW.trod_int ht h
 refine ⟨n, rfl, ?_⟩
 simp [Lit.wf, IntKind.min, IntKind.max, IntKind.signed, IntKind.bits] at hw
 exact hw
theorem open_str (ht : P.underlying t = some .string) (h : DataW.trod enc P w base spare held fuel t cs = some x) : ∃ s, cs = [.string s] ∧ s.size ≤ 9223372036854775807 := by
 obtain ⟨s, rfl, _, hw⟩ := DataW.trod_string ht h
 exact ⟨s, rfl, by simpa [maxLen] using hw⟩
theorem open_bool' (ht : P.underlying t = some .bool) (h : DataW.trod enc P w base spare held fuel t cs = some x) : ∃ b, cs = [.bool b] := by
 obtain ⟨b, rfl, _⟩ := DataW.trod_bool ht h
 exact ⟨b, rfl⟩
theorem open_SlB (ht : P.underlying t = some (.slice e)) (he : P.underlying e = some (.int .u8)) (hc : P.cellsOf e = 1) (h : DataW.trod enc P w base spare held fuel t cs = some x) :
  ∃ A n c xs, cs = [.slice A n c] ∧ SlB w A n xs ∧ n ≤ 9223372036854775807 := by
 rcases open_ints ht he hc h with ⟨rfl, _⟩ | ⟨a, l, c, zs, rfl, _, hl, hm, hz, _, hcell, hwz⟩
 ·exact ⟨none, 0, 0, [], rfl, ⟨rfl, SlR.nil _ _ _⟩, by omega⟩
 ·have hlz : l ≤ zs.length := by rw [hz]; split <;> omega
  refine ⟨some a, l, c, (zs.take l).map (fun z => UInt8.ofNat z.toNat), rfl, ⟨by simp; omega, ⟨by rw [rows_len]; simp [encB]; omega, fun _ => rfl, fun j v hv => ?_⟩⟩, by simp only [maxLen] at hm; omega⟩
  have hj : j < l := by
   have := (List.getElem?_eq_some_iff.1 hv).1
   simp [bytesV_len] at this; omega
  have hc1 := hcell j (by omega)
  have hw := hwz (zs.getD j 0) (by rw [List.getD_eq_getElem?_getD, List.getElem?_eq_getElem (show j < zs.length by omega)]; exact List.getElem_mem _)
  simp [Lit.wf, IntKind.min, IntKind.max, IntKind.signed, IntKind.bits] at hw
  show w.cell? (a.add j) = some v
  rw [hc1, ← hv]
  have hlt : j < zs.length := by omega
  have e1 : zs.getD j 0 = zs[j] := by rw [List.getD_eq_getElem?_getD, List.getElem?_eq_getElem hlt]; rfl
  rw [e1]
  simp only [List.getElem?_eq_getElem hlt, Option.getD_some] at hw
  simp [bytesV_map, hj, List.getElem?_eq_getElem hlt, UInt8.toNat_ofNat']
  omega
theorem open_SlF {α : Type} {F : Enc α} {good : α → Prop} (ht : P.underlying t = some (.slice e)) (hc : P.cellsOf e = F.sz)
  (hE : ∀ n cs' y, DataW.trod enc P w base spare held n e cs' = some y → ∃ d, cs' = F.enc d ∧ good d) (h : DataW.trod enc P w base spare held fuel t cs = some x) :
  ∃ A n c xs, cs = [.slice A n c] ∧ SlF F w A n xs ∧ n ≤ 9223372036854775807 ∧ ∀ d, d ∈ xs → good d := by
 rcases open_slice ht h with ⟨rfl, _⟩ | ⟨a, l, c, m, n, D, Pl, rfl, _, hl, hm, hmm, _, hx⟩
 ·exact ⟨none, 0, 0, [], rfl, ⟨rfl, SlR.nil _ _ _⟩, by omega, fun z h => by cases h⟩
 ·have hlm : l ≤ m := by rw [hmm]; split <;> omega
  have : Inhabited α := ⟨F.dflt⟩
  have each : ∀ i, i < l → ∃ d : α, good d ∧ ∀ r, r < F.sz → w.cell? (a.add (i * F.sz + r)) = (F.enc d)[r]? := by
   intro i hi
   obtain ⟨cs', h1, h2⟩ := hx i (by omega)
   obtain ⟨d, rfl, hg⟩ := hE _ _ _ h2
   obtain ⟨_, _, h3⟩ := World.cells?_some h1
   refine ⟨d, hg, fun r hr => ?_⟩
   have := h3 r (by rw [hc]; exact hr)
   rw [← this, hc]
   congr 1
   rw [Addr.add_add']
  obtain ⟨d, hd⟩ := choose_lt each
  have hlen : ((List.range l).map d).length = l := by simp
  refine ⟨some a, l, c, (List.range l).map d, rfl, ⟨hlen, ⟨by rw [rows_len, hlen], fun _ => rfl, fun j v hv => ?_⟩⟩, by simp only [maxLen] at hm; omega, fun z hz => ?_⟩
  ·have hj := (List.getElem?_eq_some_iff.1 hv).1
   rw [rows_len, hlen] at hj
   have hp := F.pos
   have hi : j / F.sz < l := Nat.div_lt_of_lt_mul (by rw [Nat.mul_comm]; exact hj)
   have hr : j % F.sz < F.sz := Nat.mod_lt _ hp
   have ej : j / F.sz * F.sz + j % F.sz = j := by rw [Nat.mul_comm]; exact Nat.div_add_mod _ _
   have e1 := (hd (j / F.sz) hi).2 (j % F.sz) hr
   rw [ej] at e1
   show w.cell? (a.add j) = some v
   rw [e1, ← hv]
   have e2 := rows_get (F := F) (xs := (List.range l).map d) (k := j / F.sz) (by rw [hlen]; exact hi) hr
   rw [ej] at e2
   rw [e2]
   have e3 : gat F ((List.range l).map d) (j / F.sz) = d (j / F.sz) := by
    have := gat_get (F := F) (xs := (List.range l).map d) (k := j / F.sz) (by rw [hlen]; exact hi)
    rw [List.getElem?_map, List.getElem?_range hi] at this
    exact (Option.some.inj this).symm
   rw [e3]
  ·obtain ⟨i, hi, rfl⟩ := List.mem_map.1 hz
   exact (hd i (by simpa using hi)).1
theorem open_u8 (ht : P.underlying t = some (.int .u8)) (h : DataW.trod enc P w base spare held fuel t cs = some x) : ∃ b : UInt8, cs = encB.enc b ∧ True := by
 obtain ⟨n, rfl, _, hw⟩ := DataW.trod_int ht h
 simp [Lit.wf, IntKind.min, IntKind.max, IntKind.signed, IntKind.bits] at hw
 refine ⟨UInt8.ofNat n.toNat, ?_, trivial⟩
 show [Value.int .u8 n] = [Value.int .u8 (UInt8.ofNat n.toNat).toNat]
 congr 2
 rw [UInt8.toNat_ofNat']
 omega
theorem open_SlE {α : Type} {F : Enc α} {good : α → Prop} (ht : P.underlying t = some (.slice e)) (hc : P.cellsOf e = F.sz)
  (hE : ∀ n cs' y, DataW.trod enc P w base spare held n e cs' = some y → ∃ d, cs' = F.enc d ∧ good d) (h : DataW.trod enc P w base spare held fuel t cs = some x) :
  ∃ A n c xs, cs = [.slice A n c] ∧ SlF F w A n xs ∧ n ≤ c ∧ n ≤ 9223372036854775807 ∧ ∀ d, d ∈ xs → good d := by
 obtain ⟨A, n, c, xs, e1, f, hn, hg⟩ := open_SlF ht hc hE h
 refine ⟨A, n, c, xs, e1, f, ?_, hn, hg⟩
 rcases open_slice ht h with ⟨e2, _⟩ | ⟨a, l, c', m, n', D, Pl, e2, _, hl, _⟩
 ·rw [e1] at e2
  cases e2
  exact Nat.le_refl _
 ·rw [e1] at e2
  cases e2
  exact hl
end
theorem cells_3 : Tryz.prog.cellsOf 3 = 1 := by kernel_rfl
theorem cells_5 : Tryz.prog.cellsOf 5 = 1 := by kernel_rfl
theorem cells_43 : Tryz.prog.cellsOf 43 = 1 := by kernel_rfl
theorem cells_148 : Tryz.prog.cellsOf 148 = 3 := by kernel_rfl
theorem open_FileR {H : Type} {enc : TypeId × Value → H} {w : World} {base : Nat} {spare : Nat → Bool} {held : Bool} {fuel : Nat} {cs : List Value} {x : DataW H × List MemPlace} (h : DataW.trod enc Tryz.prog w base spare held fuel 148 cs = some x) : ∃ d, cs = encFileR.enc d ∧ okFileR 9223372036854775807 w d := by
  obtain ⟨hl, n, hg⟩ := trod_flds Tryz.underlying148 h
  rw [cells_148] at hl
  obtain ⟨c0, l0, rfl, z0⟩ := list_succ hl
  obtain ⟨c1, l1, rfl, z1⟩ := list_succ z0
  obtain ⟨c2, l2, rfl, z2⟩ := list_succ z1
  obtain rfl := list_zero z2
  obtain ⟨y0, g0⟩ := hg 0 _ rfl
  rw [show Tryz.prog.cellsOf _ = 1 from cells_3] at g0
  replace g0 : DataW.trod _ _ _ _ _ _ _ 3 [c0] = _ := g0
  obtain ⟨x0, e0, w0⟩ := open_i64 Tryz.underlying3 g0
  obtain ⟨y1, g1⟩ := hg 1 _ rfl
  rw [show Tryz.prog.cellsOf _ = 1 from cells_43] at g1
  replace g1 : DataW.trod _ _ _ _ _ _ _ 43 [c1] = _ := g1
  obtain ⟨A1, n1, k1, x1, e1, f1, hc1, hn1, hg1⟩ := open_SlE (F := encB) (good := fun _ => True) Tryz.underlying43 cells_5 (fun _ _ _ h_ => open_u8 Tryz.underlying5 h_) g1
  obtain ⟨y2, g2⟩ := hg 2 _ rfl
  rw [show Tryz.prog.cellsOf _ = 1 from cells_3] at g2
  replace g2 : DataW.trod _ _ _ _ _ _ _ 3 [c2] = _ := g2
  obtain ⟨x2, e2, w2⟩ := open_i64 Tryz.underlying3 g2
  cases e0
  cases e1
  cases e2
  exact ⟨⟨x0, ⟨A1, n1, k1, x1⟩, x2⟩, rfl, ⟨f1, hc1, hn1⟩⟩
theorem cells_9 : Tryz.prog.cellsOf 9 = 1 := by kernel_rfl
theorem cells_150 : Tryz.prog.cellsOf 150 = 2 := by kernel_rfl
def goodLink (d : LinkD) : Prop := d.Name.size ≤ 9223372036854775807 ∧ In64 d.Id
theorem open_Link {H : Type} {enc : TypeId × Value → H} {w : World} {base : Nat} {spare : Nat → Bool} {held : Bool} {fuel : Nat} {cs : List Value} {x : DataW H × List MemPlace} (h : DataW.trod enc Tryz.prog w base spare held fuel 150 cs = some x) : ∃ d, cs = encLink.enc d ∧ goodLink d := by
  obtain ⟨hl, n, hg⟩ := trod_flds Tryz.underlying150 h
  rw [cells_150] at hl
  obtain ⟨c0, l0, rfl, z0⟩ := list_succ hl
  obtain ⟨c1, l1, rfl, z1⟩ := list_succ z0
  obtain rfl := list_zero z1
  obtain ⟨y0, g0⟩ := hg 0 _ rfl
  rw [show Tryz.prog.cellsOf _ = 1 from cells_9] at g0
  replace g0 : DataW.trod _ _ _ _ _ _ _ 9 [c0] = _ := g0
  obtain ⟨x0, e0, w0⟩ := open_str Tryz.underlying9 g0
  obtain ⟨y1, g1⟩ := hg 1 _ rfl
  rw [show Tryz.prog.cellsOf _ = 1 from cells_3] at g1
  replace g1 : DataW.trod _ _ _ _ _ _ _ 3 [c1] = _ := g1
  obtain ⟨x1, e1, w1⟩ := open_i64 Tryz.underlying3 g1
  cases e0
  cases e1
  exact ⟨⟨x0, x1⟩, rfl, ⟨w0, w1⟩⟩
theorem smLink_good {d : LinkD} (h : goodLink d) : smLink 9223372036854775807 d := h.1
theorem cells_152 : Tryz.prog.cellsOf 152 = 4 := by kernel_rfl
def goodTurn (d : TurnD) : Prop := In64 d.Kind ∧ d.Name.size ≤ 9223372036854775807 ∧ d.To.size ≤ 9223372036854775807 ∧ In64 d.Id
theorem open_Turn {H : Type} {enc : TypeId × Value → H} {w : World} {base : Nat} {spare : Nat → Bool} {held : Bool} {fuel : Nat} {cs : List Value} {x : DataW H × List MemPlace} (h : DataW.trod enc Tryz.prog w base spare held fuel 152 cs = some x) : ∃ d, cs = encTurn.enc d ∧ goodTurn d := by
  obtain ⟨hl, n, hg⟩ := trod_flds Tryz.underlying152 h
  rw [cells_152] at hl
  obtain ⟨c0, l0, rfl, z0⟩ := list_succ hl
  obtain ⟨c1, l1, rfl, z1⟩ := list_succ z0
  obtain ⟨c2, l2, rfl, z2⟩ := list_succ z1
  obtain ⟨c3, l3, rfl, z3⟩ := list_succ z2
  obtain rfl := list_zero z3
  obtain ⟨y0, g0⟩ := hg 0 _ rfl
  rw [show Tryz.prog.cellsOf _ = 1 from cells_3] at g0
  replace g0 : DataW.trod _ _ _ _ _ _ _ 3 [c0] = _ := g0
  obtain ⟨x0, e0, w0⟩ := open_i64 Tryz.underlying3 g0
  obtain ⟨y1, g1⟩ := hg 1 _ rfl
  rw [show Tryz.prog.cellsOf _ = 1 from cells_9] at g1
  replace g1 : DataW.trod _ _ _ _ _ _ _ 9 [c1] = _ := g1
  obtain ⟨x1, e1, w1⟩ := open_str Tryz.underlying9 g1
  obtain ⟨y2, g2⟩ := hg 2 _ rfl
  rw [show Tryz.prog.cellsOf _ = 1 from cells_9] at g2
  replace g2 : DataW.trod _ _ _ _ _ _ _ 9 [c2] = _ := g2
  obtain ⟨x2, e2, w2⟩ := open_str Tryz.underlying9 g2
  obtain ⟨y3, g3⟩ := hg 3 _ rfl
  rw [show Tryz.prog.cellsOf _ = 1 from cells_3] at g3
  replace g3 : DataW.trod _ _ _ _ _ _ _ 3 [c3] = _ := g3
  obtain ⟨x3, e3, w3⟩ := open_i64 Tryz.underlying3 g3
  cases e0
  cases e1
  cases e2
  cases e3
  exact ⟨⟨x0, x1, x2, x3⟩, rfl, ⟨w0, w1, w2, w3⟩⟩
theorem smTurn_good {d : TurnD} (h : goodTurn d) : smTurn 9223372036854775807 d := ⟨h.2.1, h.2.2.1⟩
theorem cells_22 : Tryz.prog.cellsOf 22 = 1 := by kernel_rfl
theorem cells_23 : Tryz.prog.cellsOf 23 = 1 := by kernel_rfl
theorem cells_24 : Tryz.prog.cellsOf 24 = 1 := by kernel_rfl
theorem cells_26 : Tryz.prog.cellsOf 26 = 6 := by kernel_rfl
theorem open_DiskR {H : Type} {enc : TypeId × Value → H} {w : World} {base : Nat} {spare : Nat → Bool} {held : Bool} {fuel : Nat} {cs : List Value} {x : DataW H × List MemPlace} (h : DataW.trod enc Tryz.prog w base spare held fuel 26 cs = some x) : ∃ d, cs = encDiskR.enc d ∧ okDiskR 9223372036854775807 w d := by
  obtain ⟨hl, n, hg⟩ := trod_flds Tryz.underlying26 h
  rw [cells_26] at hl
  obtain ⟨c0, l0, rfl, z0⟩ := list_succ hl
  obtain ⟨c1, l1, rfl, z1⟩ := list_succ z0
  obtain ⟨c2, l2, rfl, z2⟩ := list_succ z1
  obtain ⟨c3, l3, rfl, z3⟩ := list_succ z2
  obtain ⟨c4, l4, rfl, z4⟩ := list_succ z3
  obtain ⟨c5, l5, rfl, z5⟩ := list_succ z4
  obtain rfl := list_zero z5
  obtain ⟨y0, g0⟩ := hg 0 _ rfl
  rw [show Tryz.prog.cellsOf _ = 1 from cells_3] at g0
  replace g0 : DataW.trod _ _ _ _ _ _ _ 3 [c0] = _ := g0
  obtain ⟨x0, e0, w0⟩ := open_i64 Tryz.underlying3 g0
  obtain ⟨y1, g1⟩ := hg 1 _ rfl
  rw [show Tryz.prog.cellsOf _ = 1 from cells_3] at g1
  replace g1 : DataW.trod _ _ _ _ _ _ _ 3 [c1] = _ := g1
  obtain ⟨x1, e1, w1⟩ := open_i64 Tryz.underlying3 g1
  obtain ⟨y2, g2⟩ := hg 2 _ rfl
  rw [show Tryz.prog.cellsOf _ = 1 from cells_3] at g2
  replace g2 : DataW.trod _ _ _ _ _ _ _ 3 [c2] = _ := g2
  obtain ⟨x2, e2, w2⟩ := open_i64 Tryz.underlying3 g2
  obtain ⟨y3, g3⟩ := hg 3 _ rfl
  rw [show Tryz.prog.cellsOf _ = 1 from cells_22] at g3
  replace g3 : DataW.trod _ _ _ _ _ _ _ 22 [c3] = _ := g3
  obtain ⟨A3, n3, k3, x3, e3, f3, hc3, hn3, hg3⟩ := open_SlE (F := encFileR) (good := fun d => okFileR 9223372036854775807 w d) Tryz.underlying22 cells_148 (fun _ _ _ h_ => open_FileR h_) g3
  obtain ⟨y4, g4⟩ := hg 4 _ rfl
  rw [show Tryz.prog.cellsOf _ = 1 from cells_23] at g4
  replace g4 : DataW.trod _ _ _ _ _ _ _ 23 [c4] = _ := g4
  obtain ⟨A4, n4, k4, x4, e4, f4, hc4, hn4, hg4⟩ := open_SlE (F := encLink) (good := goodLink) Tryz.underlying23 cells_150 (fun _ _ _ h_ => open_Link h_) g4
  obtain ⟨y5, g5⟩ := hg 5 _ rfl
  rw [show Tryz.prog.cellsOf _ = 1 from cells_24] at g5
  replace g5 : DataW.trod _ _ _ _ _ _ _ 24 [c5] = _ := g5
  obtain ⟨A5, n5, k5, x5, e5, f5, hc5, hn5, hg5⟩ := open_SlE (F := encTurn) (good := goodTurn) Tryz.underlying24 cells_152 (fun _ _ _ h_ => open_Turn h_) g5
  cases e0
  cases e1
  cases e2
  cases e3
  cases e4
  cases e5
  exact ⟨⟨x0, x1, x2, ⟨A3, n3, k3, x3⟩, ⟨A4, n4, k4, x4⟩, ⟨A5, n5, k5, x5⟩⟩, rfl, ⟨⟨f3, hg3⟩, hc3, hn3, f4, hc4, hn4, fun y hy => smLink_good (hg4 y hy), f5, hc5, hn5, fun y hy => smTurn_good (hg5 y hy)⟩⟩
theorem cells_4 : Tryz.prog.cellsOf 4 = 1 := by kernel_rfl
theorem cells_28 : Tryz.prog.cellsOf 28 = 10 := by kernel_rfl
theorem open_DepotR {H : Type} {enc : TypeId × Value → H} {w : World} {base : Nat} {spare : Nat → Bool} {held : Bool} {fuel : Nat} {cs : List Value} {x : DataW H × List MemPlace} (h : DataW.trod enc Tryz.prog w base spare held fuel 28 cs = some x) : ∃ d, cs = encDepotR.enc d ∧ okDepotR 9223372036854775807 w d := by
  obtain ⟨hl, n, hg⟩ := trod_flds Tryz.underlying28 h
  rw [cells_28] at hl
  obtain ⟨c0, l0, rfl, z0⟩ := list_succ hl
  obtain ⟨c1, l1, rfl, z1⟩ := list_succ z0
  obtain ⟨c2, l2, rfl, z2⟩ := list_succ z1
  obtain ⟨c3, l3, rfl, z3⟩ := list_succ z2
  obtain ⟨c4, l4, rfl, z4⟩ := list_succ z3
  obtain ⟨c5, l5, rfl, z5⟩ := list_succ z4
  obtain ⟨c6, l6, rfl, z6⟩ := list_succ z5
  obtain ⟨c7, l7, rfl, z7⟩ := list_succ z6
  obtain ⟨c8, l8, rfl, z8⟩ := list_succ z7
  obtain ⟨c9, l9, rfl, z9⟩ := list_succ z8
  obtain rfl := list_zero z9
  obtain ⟨y0, g0⟩ := hg 0 _ rfl
  rw [show Tryz.prog.cellsOf _ = 6 from cells_26] at g0
  replace g0 : DataW.trod _ _ _ _ _ _ _ 26 [c0, c1, c2, c3, c4, c5] = _ := g0
  obtain ⟨x0, e0, o0⟩ := open_DiskR g0
  replace e0 : [c0, c1, c2, c3, c4, c5] = [i64 x0.Room, i64 x0.Fuse, i64 x0.Next, .slice x0.Files.A x0.Files.n x0.Files.c, .slice x0.Kept.A x0.Kept.n x0.Kept.c, .slice x0.Turns.A x0.Turns.n x0.Turns.c] := e0
  obtain ⟨y1, g1⟩ := hg 1 _ rfl
  rw [show Tryz.prog.cellsOf _ = 1 from cells_3] at g1
  replace g1 : DataW.trod _ _ _ _ _ _ _ 3 [c6] = _ := g1
  obtain ⟨x1, e1, w1⟩ := open_i64 Tryz.underlying3 g1
  obtain ⟨y2, g2⟩ := hg 2 _ rfl
  rw [show Tryz.prog.cellsOf _ = 1 from cells_3] at g2
  replace g2 : DataW.trod _ _ _ _ _ _ _ 3 [c7] = _ := g2
  obtain ⟨x2, e2, w2⟩ := open_i64 Tryz.underlying3 g2
  obtain ⟨y3, g3⟩ := hg 3 _ rfl
  rw [show Tryz.prog.cellsOf _ = 1 from cells_3] at g3
  replace g3 : DataW.trod _ _ _ _ _ _ _ 3 [c8] = _ := g3
  obtain ⟨x3, e3, w3⟩ := open_i64 Tryz.underlying3 g3
  obtain ⟨y4, g4⟩ := hg 4 _ rfl
  rw [show Tryz.prog.cellsOf _ = 1 from cells_4] at g4
  replace g4 : DataW.trod _ _ _ _ _ _ _ 4 [c9] = _ := g4
  obtain ⟨x4, e4⟩ := open_bool' Tryz.underlying4 g4
  cases e0
  cases e1
  cases e2
  cases e3
  cases e4
  exact ⟨⟨x0, x1, x2, x3, x4⟩, rfl, ⟨o0⟩⟩
namespace fnExactCompact
open Go.ChangeShapes Go.WideShapes Go.ChangeAt Go.WideMaps Go.WideElems Go.RowKit
theorem own : ownKnob Tryz.prog.godebug = none := by kernel_rfl
theorem laidOut : laidOutB Tryz.prog = true := by kernel_rfl
def laid3 : List (String × DataW Unit) := [("math/bits.deBruijn32tab", Rows.laid_math_bits_deBruijn32tab), ("math/bits.deBruijn64tab", Rows.laid_math_bits_deBruijn64tab), ("internal/strconv.uint64pow10", Rows.laid_internal_strconv_uint64pow10), ("strconv.ErrRange", Rows.laid_strconv_ErrRange), ("strconv.ErrSyntax", Rows.laid_strconv_ErrSyntax)]
theorem door_met (os : Os) (args : Array Value) : laidMetH Tryz.prog laid3 ((World.doorLaid Tryz.prog 400 os).forCall (fun _ _ => 0) ⟨#[], args, []⟩).memory :=
  laidMetH_of_parts3 (fuel := 8) (laidMet_of_run' 8 (by kernel_rfl) (by kernel_rfl)) (by kernel_rfl) (by kernel_rfl)
theorem tabData_is : (Rows.laid_internal_strconv_uint64pow10 : DataW Unit) = Go.Lib.tabData .u64 Go.Lib.pow10Tab := by kernel_rfl
theorem tab_of {W : World} (h : laidMetH Tryz.prog laid3 W) : TabOk W := by
  rw [MakeChecks.laidMetH_plain _ _ _ (by kernel_rfl)] at h
  obtain ⟨ps, ⟨_, _, _, _, _, _, _, _, _, _, ⟨_, _, _, _, _, _, _, _, _, _, ⟨g, t, cs, fuel, p, q, hg, ht, hvar, hd, _, _⟩, _⟩, _⟩, _, _⟩ := h
  obtain rfl := Option.some.inj ((show Tryz.prog.globalNamed "internal/strconv.uint64pow10" = some 1 by kernel_rfl).symm.trans hg)
  have hty : (Tryz.prog.globals[1]?).map (·.type) = some t := ht
  obtain rfl := Option.some.inj ((show (Tryz.prog.globals[1]?).map (·.type) = some 240 by kernel_rfl).symm.trans hty)
  rw [tabData_is] at hd
  unfold TabOk Go.Lib.TabIs
  rw [hvar, ← Go.Lib.cells_of_tab Tryz.underlying240 Tryz.underlying219 (show Tryz.prog.cellsOf 219 = 1 by kernel_rfl) (show Tryz.prog.cellsOf 240 = 20 by kernel_rfl) hd]
theorem err_of {W : World} (h : laidMetH Tryz.prog laid3 W) : ∃ ev, W.cell? ⟨2, 0, none⟩ = some ev ∧ (ev = .nilIface ∨ ∃ te pe, ev = .iface te pe) := by
  rw [MakeChecks.laidMetH_plain _ _ _ (by kernel_rfl)] at h
  obtain ⟨ps, ⟨_, _, _, _, _, _, _, _, _, _, ⟨_, _, _, _, _, _, _, _, _, _, ⟨_, _, _, _, _, _, _, _, _, _, ⟨_, _, _, _, _, _, _, _, _, _, ⟨g, t, cs, fuel, p, q, hg, ht, hvar, hd, _, _⟩, _⟩, _⟩, _⟩, _⟩, _, _⟩ := h
  have hg2 : Tryz.prog.globalNamed "strconv.ErrSyntax" = some 2 := by kernel_rfl
  obtain rfl := Option.some.inj (hg2.symm.trans hg)
  have hty : (Tryz.prog.globals[2]?).map (·.type) = some t := ht
  obtain rfl := Option.some.inj ((show (Tryz.prog.globals[2]?).map (·.type) = some 199 by kernel_rfl).symm.trans hty)
  obtain ⟨_, u, v, hcs, _, _⟩ := iface_of_trod Tryz.underlying199 hd
  refine ⟨.iface u v, ?_, .inr ⟨u, v, rfl⟩⟩
  rw [World.var?_cell hg hvar 0]
  have e1 : cs[0]? = cs.toList[0]? := by simp
  rw [e1, hcs]; rfl
theorem lib_of {W : World} (h : laidMetH Tryz.prog laid3 W) (hs : W.ShapedOpen Tryz.prog) : LibOk W := ⟨tab_of h, Tryz.laysM145.s1_3 W hs, err_of h⟩
set_option maxRecDepth 100000 in
set_option maxHeartbeats 1000000 in
theorem lifted (os : Os) (started : os.Started) (H : Type) (enc : TypeId × Value → H) :
    ReturnsInHanded {} Tryz.checked os 7 .any (fun w args => (Rows.fnExactCompactSpec.pre enc Tryz.prog Tryz.f7 [] false w args ∧ laidMetH Tryz.prog laid3 w) ∧ sizedMet enc Tryz.prog Tryz.f7 (OpenSpec.ofChange Rows.fnExactCompactSpec) false w args) (Rows.fnExactCompactSpec.post enc Tryz.prog Tryz.f7 false true false false) := by
  refine returnsInHanded_of_calls (C := Tryz.checked) own started (by kernel_rfl)
    (ChangeSpec.witness_shaped (enc := enc) (C := Tryz.checked) (os := os) (X := fun w _ => laidMetH Tryz.prog laid3 w) false (World.doorLaid Tryz.prog 400 os) #[(Value.agg #[Value.int IntKind.i64 0, Value.int IntKind.i64 0, Value.int IntKind.i64 0, Value.slice none 0 0, Value.slice none 0 0, Value.slice none 0 0, Value.int IntKind.i64 0, Value.int IntKind.i64 0, Value.int IntKind.i64 0, Value.bool false]), .slice none 0 0] 8 rfl (World.shaped_of_RefB (by kernel_rfl) (by kernel_rfl)) (by kernel_rfl) (by kernel_rfl) (by kernel_rfl) (door_met os _)) ?_
  intro w tape i _ hsh _ hok hpre _
  obtain ⟨_, _, _, fn', hfn', _, _, _, _, hval0⟩ := hok
  obtain rfl : fn' = Tryz.f7 := Option.some.inj (hfn'.symm.trans Tryz.func7)
  obtain ⟨⟨⟨ds, gs, before, hw, hc⟩, hx⟩, hz⟩ := hpre
  have hW := DataW.Whole.of_heap (w' := w.forCall tape i) (by rfl) hw
  have hL : laidMetH Tryz.prog laid3 (w.forCall tape i) := hx.of_heap (by rfl)
  suffices hmain : Calls Tryz.prog 7 i.args (w.forCall tape i) (fun e W' => ∃ v, e = .returned v ∧ Rows.fnExactCompactSpec.post enc Tryz.prog Tryz.f7 false true false false (w.forCall tape i) i.args v W') from hmain.mono fun e W' ⟨v, he, hp⟩ => by subst he; exact ChangeSpec.post_blind hp
  clear hw hx hz hc hfn'
  revert hW hL hsh hval0
  generalize w.forCall tape i = W
  generalize i.args = args
  generalize w.heap.size = base
  intro hsh hval0 hW hL
  have hval : ∀ (j : Nat) t v, Tryz.f7.params[j]? = some t → args[j]? = some v → Value.okWide Tryz.prog W .any base t v := hval0
  have hW' := hW
  obtain ⟨p, q, hA0, hV, rfl, hfz, hnd⟩ := hW
  have hA : DataW.TrodAll enc Tryz.prog W 0 (fun _ => true) true Tryz.f7.params.toList args.toList ds p := hA0
  rw [Tryz.params7] at hA hval
  obtain ⟨v0, vs0, d0, ds0, p0, q0, hargs, rfl, rfl, h0, r0⟩ := trodAll_cons hA
  obtain ⟨v1, vs1, d1, ds1, p1, q1, rfl, rfl, rfl, h1, r1⟩ := trodAll_cons r0
  obtain ⟨rfl, rfl, rfl⟩ := trodAll_nil r1
  obtain rfl : args = #[v0, v1] := by cases args; simp_all
  obtain ⟨rfl, rfl⟩ := trodVars_none hV
  have k0 := h0
  have lt0 : ∀ x ∈ p0, x.block < W.heap.size := by obtain ⟨m, hm⟩ := k0; exact DataW.trod_lt m _ _ _ hm
  have k1 := h1
  have lt1 : ∀ x ∈ p1, x.block < W.heap.size := by obtain ⟨m, hm⟩ := k1; exact DataW.trod_lt m _ _ _ hm
  obtain ⟨cs0, rfl, hsz0⟩ := okWide_struct Tryz.underlying28 (hval 0 28 v0 rfl rfl)
  obtain ⟨l0⟩ := cs0
  obtain ⟨fuel0, hf0⟩ := h0
  replace hf0 : DataW.trod _ _ _ _ _ _ _ 28 l0 = _ := hf0
  obtain ⟨aP, rfl, f_aP⟩ := open_DepotR hf0
  obtain ⟨a1, l1, q1, rfl⟩ := okWide_slice Tryz.underlying43 (hval 1 43 v1 rfl rfl)
  obtain ⟨fuel1, hf1⟩ := h1
  replace hf1 : DataW.trod _ _ _ _ _ _ _ 43 [.slice a1 l1 q1] = _ := hf1
  obtain ⟨A_aData, n_aData, c_aData, aData, e1, f_aData, w_aData⟩ := open_SlB Tryz.underlying43 Tryz.underlying5 (by kernel_rfl) hf1
  obtain ⟨rfl, rfl, rfl⟩ : A_aData = a1 ∧ n_aData = l1 ∧ c_aData = q1 := by cases e1; exact ⟨rfl, rfl, rfl⟩
  have htab := lib_of hL hsh
  clear hA0 hval0
  refine (k154_ aP A_aData n_aData c_aData aData W f_aP f_aData htab).mono fun e W' ⟨he, hst⟩ => ?_
  have bel := hst.toBelow
  subst he
  exact ⟨_, rfl, _, _, _, [], _, [], hW', trodAll_mk1 (shut_bool Tryz.underlying4 _), (trodAll_cons_mk (Below.trod laidOut (by kernel_rfl) (of_decide_eq_true (by kernel_rfl)) k0 bel lt0) (trodAll_cons_mk (Below.trod laidOut (by kernel_rfl) (of_decide_eq_true (by kernel_rfl)) k1 bel lt1) trodAll_mk0)), rfl, bel.frame _, fun h => by cases h⟩
theorem over : Rows.FnExactCompactSaid :=
  OpenClaim.holds_of_wide 7 Tryz.f7 rfl rfl rfl rfl rfl rfl rfl ⟨rfl, rfl, rfl, rfl, rfl⟩ rfl rfl rfl rfl rfl (by kernel_rfl) Tryz.func7 (by kernel_rfl)
    (of_decide_eq_true (by kernel_rfl)) (by unfold Func.isWrapper; first | (rw [if_pos (by decide +kernel)]; kernel_rfl) | (rw [if_neg (by decide +kernel)]; exact ⟨rfl, rfl⟩))
    (fun os started H enc _ => lifted os started H enc)
end fnExactCompact
theorem fnExactCompact_holds : Rows.FnExactCompactCardSaid :=
  Claim7.holds_tied_plain_at .later [] [.data, .data, .data, .sentinel, .sentinel] true (true, "519186e7b6d5c76881cdc02540f2bf6a1d5bdcfe8883cd8906e5a41617715c50") true
    fnExactCompact.over (fun _ h => by cases h) (by kernel_rfl) (fun _ h => by cases h) fnExactCompact_row_tie rfl ⟨rfl, rfl⟩ (by kernel_rfl) rfl
    (fun f fn hf hfn => by
      obtain rfl : f = 7 := Option.some.inj ((show Tryz.prog.funcNamed "loop.example/g00661/laws.FnExactCompact" = some 7 by kernel_rfl).symm.trans hf) |>.symm
      obtain rfl : fn = Tryz.f7 := (Option.some.inj (Tryz.func7.symm.trans hfn)).symm
      exact ⟨by kernel_rfl, fun j t ht => by
        rw [Tryz.params7] at ht
        have hm : t ∈ [28, 43] := by simpa using Array.mem_of_getElem? ht
        have hall : ([28, 43].all fun u => !Tryz.prog.wantsStandIn u) = true := by kernel_rfl
        exact (show Tryz.prog.wantsStandIn t = false by simpa using List.all_eq_true.1 hall t hm)⟩)
    (by kernel_rfl)
end Go.Proofs.YtcpnlodkmkfplaaGreatDoor
