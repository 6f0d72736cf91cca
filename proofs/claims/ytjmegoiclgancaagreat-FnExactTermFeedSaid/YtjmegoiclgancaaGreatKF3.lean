/-
  What the proof stands on, part 3.
-/
import Derived.Test.YtjmegoiclgancaaGreatKF2
namespace Go.Proofs.YtjmegoiclgancaaGreat
open Go Go.RowKit
set_option linter.unusedVariables false
set_option linter.unusedSimpArgs false
theorem mixed : Tryz.prog.follows .mixedOrders = true := by kernel_rfl
instance boolPW {n lo hi : Int} : BoolP (within n lo hi) (lo ≤ n ∧ n ≤ hi) (¬ (lo ≤ n ∧ n ≤ hi)) := ⟨within_iff.1, within_not.1⟩
theorem inf3 : Tryz.prog.info? 3 = some Tryz.t3 := by kernel_rfl
theorem inf5 : Tryz.prog.info? 5 = some Tryz.t5 := by kernel_rfl
theorem inf75 : Tryz.prog.info? 75 = some Tryz.t75 := by kernel_rfl
theorem k0_ (n lo hi : Int) (w : World) :
    Calls Tryz.prog 97 #[i64 n, i64 lo, i64 hi] w fun e w' => e = .returned (.bool (within n lo hi)) ∧ St w [] [] w' := by
 refine enter 15 Tryz.func97 rfl Tryz.ntmps97 rfl rfl ?_
 have hs1 := St.init w
 refine WC.r1 hs1 [] rfl (WC.sr (WL.r 4 hs1 [] rfl (WL.pA tbk 3 Acts.nil hs1 [] rfl rfl rfl rfl (fun g_ => trivial) (WL.r 1 hs1 [] rfl (WL.nil (WC.ret (retV1 rfl (resV.tmp rfl) ?_)))))))
 refine ⟨congrArg Ending.returned ?_, hs1.nil⟩
 rfl
theorem k1_ (n : Int) (w : World) :
    Calls Tryz.prog 171 #[i64 n] w fun e w' => e = .returned (.bool (shows n)) ∧ St w [] [] w' := by
 refine enter 14 Tryz.func171 rfl Tryz.ntmps171 rfl rfl ?_
 have hs1 := St.init w
 refine WC.r1 hs1 [] rfl (WC.sr (WL.r 1 hs1 [] rfl (WL.cl Tryz.call97 rfl (k0_ _ _ _ _) ?_)))
 rintro _ whs2 ⟨rfl, hs2⟩
 replace hs2 := hs1.call0 hs2
 refine ⟨_, rfl, WL.r 1 hs2 [] rfl ?_⟩
 apply WL.gO 7 Acts.nil hs2 rfl
 ·intro g3 J4
  have qg3 := g3
  try simp only [bf, within_iff, within_not] at qg3
  refine WL.runA tbk 1 (Acts.nil.cons (j := 2) rfl g3) hs2 [] rfl trivial (WL.call (wantF rfl g3) rfl rfl (Run.call Tryz.call97 rfl rfl rfl) (k0_ _ _ _ _) ?_)
  rintro _ whs5 ⟨rfl, hs5⟩
  replace hs5 := hs2.call0 hs5
  refine ⟨_, rfl, WL.runA tbk 1 (Acts.nil.cons (j := 2) rfl g3) hs5 [] rfl trivial ?_⟩
  apply WL.gA 3 (Acts.nil.cons (j := 2) rfl g3) hs5 rfl
  ·intro g6 J7
   have qg6 := g6
   try simp only [bf, within_iff, within_not] at qg6
   refine WL.runA tbk 1 (Acts.nil.cons (j := 5) rfl g6) hs5 [] rfl trivial (WL.call (wantT rfl g6) rfl rfl (Run.call Tryz.call97 rfl rfl rfl) (k0_ _ _ _ _) ?_)
   rintro _ whs8 ⟨rfl, hs8⟩
   replace hs8 := hs5.call0 hs8
   refine ⟨_, rfl, WL.runA tbk 1 (Acts.nil.cons (j := 5) rfl g6) hs8 [] rfl trivial (WL.eA 3 (Acts.nil.cons (j := 2) rfl g3) J7 hs8 g6 rfl rfl)⟩
  intro _ hs9
  exact WL.eO 4 Acts.nil J4 hs9 g3 rfl rfl
 intro _ hs10
 refine WL.r 1 hs10 [] rfl (WL.nil (WC.ret (rtv rfl rfl hs10 ?_)))
 rfl
theorem k2_ (A_a : Option Addr) (n_a c_a : Nat) (a : List UInt8) (left : Int) (w : World) (f_a : SlF encB w A_a n_a a) (h1 : 0 ≤ left) (h2 : left ≤ 1048576) (h3 : n_a ≤ 9223372036854775807) :
    Calls Tryz.prog 202 #[.slice A_a n_a c_a, i64 left] w fun e w' => e = .returned (.int .i64 (szR left n_a)) ∧ St w [] [] w' := by
 refine enter 12 Tryz.func202 rfl Tryz.ntmps202 rfl rfl ?_
 have hs1 := St.init w
 refine WC.r1 hs1 [] rfl (WC.r1 hs1 [] rfl (WC.seq (fun K2 hK2 => WC.r1 hs1 [] rfl ?_)))
 refine WC.cD rfl (fun qh3 => ?_) (fun qh3 => ?_)
 ·refine WC.r1 hs1 [] rfl (WC.ret (tkR ?_))
  clear hK2
  refine rtv rfl rfl hs1 ?_
  simp only [szR]; rw [if_neg (by omega)]
 refine WC.skip (hK2 _ _ (WC.r1 hs1 [] rfl (WC.ret (rtv rfl rfl hs1 ?_))))
 simp only [szR]; rw [if_pos (by omega)]
theorem k3_ (A_a : Option Addr) (n_a c_a : Nat) (a : List UInt8) (w : World) (f_a : SlF encB w A_a n_a a) (hn : n_a ≤ 1099511627776) :
    Calls Tryz.prog 12 #[.slice A_a n_a c_a] w fun e w' => ∃ A c L1, e = .returned (.slice A (a).length c) ∧ St w [] L1 w' ∧ OwnF encB 5 (.slice A (a).length c) (a) L1 := by
 refine enter 22 Tryz.func12 rfl Tryz.ntmps12 rfl rfl ?_
 have hs1 := St.init w
 refine WC.r1 hs1 [] rfl (WC.sr (WL.r 2 hs1 [] rfl (WL.makeF (F := encB) hs1 Tryz.underlying22 inf5 rfl rfl rfl rfl rfl rfl rfl rfl rfl ?_ ?_ (fun A5 c6 L2 whs3 hs3 ho4 => ?_))))
 · have e_ : Tryz.t5.bytes = 1 := rfl
   rw [e_]; omega
 · omega
 refine WL.r 1 hs3 [] rfl (WL.nil (WC.seq (fun K7 hK7 => WC.r1 hs3 [] rfl (WC.block ?_))))
 refine WC.lO [0, 2] rfl hs3 (fun k_ f L_ => ∃ (i : Nat) (A8 : Option Addr) (c9 : Nat), k_ = n_a - i ∧ (i ≤ n_a) ∧ OwnF encB 5 (.slice A8 (n_a) c9) (fillG encB a i) L_ ∧ Sub [(3, .slice A8 (n_a) c9), (4, .int .i64 i)] f) (((fun (i : Nat) => n_a - i) (0))) ?_ ?_
 ·refine ⟨0, _, _, rfl, ?_, (fillG_zero f_a.len ▸ ho4), ⟨rfl, rfl, trivial⟩⟩
  · exact Nat.zero_le _
 clear hs3
 rintro _ f w L10 ⟨i, A8, c9, rfl, p0, ho11, hG⟩ hF hs12
 refine WC.sub _ (hG.app hF) ?_
 clear hG hF
 refine WC.seq (fun K13 hK13 => WC.r1 hs12 [] rfl ?_)
 refine WC.cq rfl (fun h14 qh14 => ?_) (fun h14 qh14 => ?_)
 ·refine WC.skip (hK13 _ _ (WC.seq (fun K15 hK15 => WC.block (WC.region (WL.r 4 hs12 [] rfl ?_)))))
  refine WL.val rfl rfl rfl (Run.idxN Tryz.runUnderlying22 Tryz.sizeOf5 rfl rfl rfl ?_ ?_ ?_) ?_
  · exact SlF.some_ (SlF.st0 f_a hs12)
  · omega
  · omega
  refine WL.val rfl rfl rfl (Run.load Tryz.isAgg5 rfl rfl (SlF.one1 (SlF.st0 f_a hs12) ?_ rfl)) ?_
  · omega
  refine WL.val rfl rfl rfl (Run.idxN Tryz.runUnderlying22 Tryz.sizeOf5 rfl rfl rfl ?_ ?_ ?_) ?_
  · exact SlF.some_ (SlF.ofOwn ho11 (hs12.ow L10))
  · omega
  · omega
  refine WL.storeF1 (x' := _) hs12 ho11 Tryz.sizeOf5 rfl rfl rfl rfl rfl rfl rfl rfl rfl ?_ rfl (fun L16 whs17 hs17 ho18 _ => ?_)
  · omega
  refine WL.nil (hK15 _ _ (WC.region (WL.r 3 hs17 [] rfl (WL.nil (tkN ?_)))))
  rw [fillG_set (i := i) (by rw [f_a.len]; omega) (by simp) (by simp)] at ho18
  refine ⟨sbF rfl, _, hs17, _, ?_, i + 1, _, _, rfl, ?_, ho18, ⟨rfl, rfl, trivial⟩⟩
  · omega
  · omega
 refine WC.exit (hK7 _ _ (WC.r1 hs12 [] rfl (WC.ret (retV1 rfl (resV.tmp rfl) ?_))))
 have hx_ := OwnF.eqOf (xs := a) ho11 (fillG_full (by rw [f_a.len]; omega))
 have hy_ := ho11
 rw [hx_] at hy_
 obtain ⟨A_, c_, hz_⟩ := hy_.shape
 exact ⟨A_, c_, _, congrArg Ending.returned hz_, (St.keep1 hs12), hz_ ▸ hy_⟩
theorem k4_ (A_a : Option Addr) (n_a c_a : Nat) (a : List UInt8) (A_b : Option Addr) (n_b c_b : Nat) (b : List UInt8) (w : World) (f_a : SlF encB w A_a n_a a) (f_b : SlF encB w A_b n_b b) (hn : n_a ≤ 1099511627776) (hab : a = b) :
    Calls Tryz.prog 15 #[.slice A_a n_a c_a, .slice A_b n_b c_b] w fun e w' => e = .returned (.bool true) ∧ St w [] [] w' := by
 subst hab
 obtain rfl : n_a = n_b := f_a.len.symm.trans f_b.len
 refine enter 26 Tryz.func15 rfl Tryz.ntmps15 rfl rfl ?_
 have hs1 := St.init w
 refine WC.r1 hs1 [] rfl (WC.seq (fun K2 hK2 => WC.r1 hs1 [] rfl (WC.condF rfl (by simp) (WC.skip (hK2 _ _ (WC.seq (fun K4 hK4 => WC.r1 hs1 [] rfl ?_)))))))
 refine WC.block (WC.lS [0, 1, 10] rfl hs1 (fun k_ f w' => ∃ (i : Nat), k_ = n_a - i ∧ (i ≤ n_a) ∧ Sub [(5, .int .i64 i)] f) ((fun (i : Nat) => n_a - i) (0)) ?_ ?_)
 ·refine ⟨0, rfl, ?_, ⟨rfl, trivial⟩⟩
  · exact Nat.zero_le _
 clear hs1
 rintro _ f w ⟨i, rfl, p0, hG⟩ hF hs5
 refine WC.sub _ (hG.app hF) ?_
 clear hG hF
 refine WC.seq (fun K6 hK6 => WC.r1 hs5 [] rfl ?_)
 refine WC.cD rfl (fun qh7 => ?_) (fun qh7 => ?_)
 ·refine WC.skip (hK6 _ _ (WC.seq (fun K8 hK8 => WC.block (WC.sq1 hs5 (WQ.r 2 [] rfl ?_)))))
  refine WQ.val rfl rfl rfl (fun w_ hs_ => (Run.idxN Tryz.runUnderlying22 Tryz.sizeOf5 rfl rfl rfl ?_ ?_ ?_)) ?_
  · exact SlF.some_ (SlF.st0 f_a (hs_ : St _ _ _ _))
  · omega
  · omega
  refine WQ.val rfl rfl rfl (fun w_ hs_ => (Run.load Tryz.isAgg5 rfl rfl (SlF.one1 (SlF.st0 f_a (hs_ : St _ _ _ _)) ?_ rfl))) ?_
  · omega
  refine WQ.r 2 [] rfl ?_
  refine WQ.val rfl rfl rfl (fun w_ hs_ => (Run.idxN Tryz.runUnderlying22 Tryz.sizeOf5 rfl rfl rfl ?_ ?_ ?_)) ?_
  · exact SlF.some_ (SlF.st0 f_b (hs_ : St _ _ _ _))
  · omega
  · omega
  refine WQ.val rfl rfl rfl (fun w_ hs_ => (Run.load Tryz.isAgg5 rfl rfl (SlF.one1 (SlF.st0 f_b (hs_ : St _ _ _ _)) ?_ rfl))) ?_
  · omega
  refine WQ.r 1 [] rfl (WQ.nil (fun _ (hs9 : St _ _ _ _) => WC.condF rfl (by simp) (WC.skip (hK8 _ _ (WC.region (WL.r 3 hs9 [] rfl (WL.nil ?_)))))))
  refine tkN (⟨sbF rfl, hs9, _, ?_, i + 1, rfl, ?_, ⟨rfl, trivial⟩⟩)
  · omega
  · omega
 refine WC.exit (hK4 _ _ (WC.r1 hs5 [] rfl (WC.ret (rtv rfl rfl hs5 ?_))))
 rfl
theorem k5_ (a_Fg : Int) (a_Bg : Int) (a_Bold : Bool) (a_Under : Bool) (a_Turn : Bool) (w : World) :
    Calls Tryz.prog 72 #[.agg #[i64 a_Fg, i64 a_Bg, .bool a_Bold, .bool a_Under, .bool a_Turn]] w fun e w' => e = .returned (.agg #[i64 a_Fg, i64 a_Bg, .bool a_Bold, .bool a_Under, .bool a_Turn]) ∧ St w [] [] w' := by
 refine enter 20 Tryz.func72 rfl Tryz.ntmps72 rfl rfl ?_
 have hs1 := St.init w
 refine WC.sr (WL.bx hs1 rfl (fun b2 _ hs3 => WL.al hs3 Tryz.zeroValue30 rfl rfl (fun b4 _ hs5 => WL.nil (WC.sr (WL.al hs5 Tryz.zeroValue30 rfl rfl (fun b6 _ hs7 => WL.nil (WC.sr ?_)))))))
 refine WL.r 3 hs7 [2] rfl (WL.st tbk hs7 0 rfl rfl (fun _ hs8 => WL.nil (WC.sr (WL.r 3 hs8 [2] rfl (WL.st tbk hs8 0 rfl rfl (fun _ hs9 => WL.nil (WC.sr ?_)))))))
 refine WL.r 3 hs9 [2] rfl (WL.st tbk hs9 0 rfl rfl (fun _ hs10 => WL.nil (WC.sr (WL.r 3 hs10 [2] rfl (WL.st tbk hs10 0 rfl rfl (fun _ hs11 => WL.nil (WC.sr ?_)))))))
 refine WL.r 3 hs11 [2] rfl (WL.st tbk hs11 0 rfl rfl (fun _ hs12 => WL.nil (WC.sr (WL.r 1 hs12 [0] rfl (WL.st tbk hs12 1 rfl rfl (fun _ hs13 => WL.nil (WC.ret ?_)))))))
 refine retV1 rfl (resV.cellA tbk hs13 1 rfl rfl rfl rfl) (⟨congrArg Ending.returned ?_, hs13.nil⟩)
 rfl
theorem k6_ (a_R : Int) (a_A_Fg : Int) (a_A_Bg : Int) (a_A_Bold : Bool) (a_A_Under : Bool) (a_A_Turn : Bool) (w : World) :
    Calls Tryz.prog 205 #[.agg #[i64 a_R, i64 a_A_Fg, i64 a_A_Bg, .bool a_A_Bold, .bool a_A_Under, .bool a_A_Turn]] w fun e w' => e = .returned (.agg #[i64 a_R, i64 a_A_Fg, i64 a_A_Bg, .bool a_A_Bold, .bool a_A_Under, .bool a_A_Turn]) ∧ St w [] [] w' := by
 refine enter 12 Tryz.func205 rfl Tryz.ntmps205 rfl rfl ?_
 have hs1 := St.init w
 refine WC.sr (WL.bx hs1 rfl (fun b2 _ hs3 => WL.al hs3 Tryz.zeroValue75 rfl rfl (fun b4 _ hs5 => WL.nil (WC.sr (WL.al hs5 Tryz.zeroValue75 rfl rfl (fun b6 _ hs7 => WL.nil (WC.sr ?_)))))))
 refine WL.r 3 hs7 [2] rfl (WL.st tbk hs7 0 rfl rfl (fun _ hs8 => WL.nil (WC.sr (WL.r 2 hs8 [2] rfl (WL.cl Tryz.call72 rfl (k5_ _ _ _ _ _ _) ?_)))))
 rintro _ whs9 ⟨rfl, hs9⟩
 replace hs9 := hs8.call0 hs9
 refine ⟨_, rfl, WL.r 1 hs9 [] rfl (WL.st tbk hs9 0 rfl rfl (fun _ hs10 => WL.nil (WC.sr (WL.r 1 hs10 [0] rfl (WL.st tbk hs10 1 rfl rfl (fun _ hs11 => WL.nil ?_))))))⟩
 refine WC.ret (retV1 rfl (resV.cellA tbk hs11 1 rfl rfl rfl rfl) (⟨congrArg Ending.returned ?_, hs11.nil⟩))
 rfl
theorem k7_ (a_Fg : Int) (a_Bg : Int) (a_Bold : Bool) (a_Under : Bool) (a_Turn : Bool) (b_Fg : Int) (b_Bg : Int) (b_Bold : Bool) (b_Under : Bool) (b_Turn : Bool) (w : World) (hab : (⟨a_Fg, a_Bg, a_Bold, a_Under, a_Turn⟩ : AttrD) = (⟨b_Fg, b_Bg, b_Bold, b_Under, b_Turn⟩ : AttrD)) :
    Calls Tryz.prog 78 #[.agg #[i64 a_Fg, i64 a_Bg, .bool a_Bold, .bool a_Under, .bool a_Turn], .agg #[i64 b_Fg, i64 b_Bg, .bool b_Bold, .bool b_Under, .bool b_Turn]] w fun e w' => e = .returned (.bool true) ∧ St w [] [] w' := by
 cases hab
 refine enter 30 Tryz.func78 rfl Tryz.ntmps78 rfl rfl ?_
 have hs1 := St.init w
 refine WC.sr (WL.bx hs1 rfl (fun b2 _ hs3 => WL.bx hs3 rfl (fun b4 _ hs5 => WL.r 1 hs5 [] rfl (WL.nil (WC.seq (fun K6 hK6 => WC.r1 hs5 [1, 0] rfl (WC.condF rfl (by simp) ?_)))))))
 refine WC.skip (hK6 _ _ (WC.seq (fun K8 hK8 => WC.r1 hs5 [1, 0] rfl (WC.condF rfl (by simp) (WC.skip (hK8 _ _ (WC.seq (fun K10 hK10 => ?_))))))))
 refine WC.r1 hs5 [1, 0] rfl (WC.condF rfl (by simp) (WC.skip (hK10 _ _ (WC.seq (fun K12 hK12 => WC.r1 hs5 [1, 0] rfl (WC.condF rfl (by simp) (WC.skip ?_)))))))
 refine hK12 _ _ (WC.seq (fun K14 hK14 => WC.r1 hs5 [1, 0] rfl (WC.condF rfl (by simp) (WC.skip (hK14 _ _ (WC.r1 hs5 [] rfl (WC.ret ?_)))))))
 refine rtv rfl rfl hs5 ?_
 rfl
theorem k8_ (a_R : Int) (a_A_Fg : Int) (a_A_Bg : Int) (a_A_Bold : Bool) (a_A_Under : Bool) (a_A_Turn : Bool) (b_R : Int) (b_A_Fg : Int) (b_A_Bg : Int) (b_A_Bold : Bool) (b_A_Under : Bool) (b_A_Turn : Bool) (w : World) (hab : (⟨a_R, ⟨a_A_Fg, a_A_Bg, a_A_Bold, a_A_Under, a_A_Turn⟩⟩ : CellD) = (⟨b_R, ⟨b_A_Fg, b_A_Bg, b_A_Bold, b_A_Under, b_A_Turn⟩⟩ : CellD)) :
    Calls Tryz.prog 217 #[.agg #[i64 a_R, i64 a_A_Fg, i64 a_A_Bg, .bool a_A_Bold, .bool a_A_Under, .bool a_A_Turn], .agg #[i64 b_R, i64 b_A_Fg, i64 b_A_Bg, .bool b_A_Bold, .bool b_A_Under, .bool b_A_Turn]] w fun e w' => e = .returned (.bool true) ∧ St w [] [] w' := by
 cases hab
 refine enter 16 Tryz.func217 rfl Tryz.ntmps217 rfl rfl ?_
 have hs1 := St.init w
 refine WC.sr (WL.bx hs1 rfl (fun b2 _ hs3 => WL.bx hs3 rfl (fun b4 _ hs5 => WL.r 1 hs5 [] rfl (WL.nil (WC.seq (fun K6 hK6 => WC.r1 hs5 [1, 0] rfl (WC.condF rfl (by simp) ?_)))))))
 refine WC.skip (hK6 _ _ (WC.seq (fun K8 hK8 => WC.sr (WL.r 4 hs5 [1, 0] rfl ?_))))
 refine WL.cl Tryz.call78 rfl (k7_ _ _ _ _ _ _ _ _ _ _ _ ?_) ?_
 · first | assumption | rfl | omega
 rintro _ whs9 ⟨rfl, hs9⟩
 replace hs9 := hs5.call0 hs9
 refine ⟨_, rfl, WL.r 1 hs9 [] rfl (WL.nil (WC.condF rfl (by simp) (WC.skip (hK8 _ _ (WC.r1 hs9 [] rfl (WC.ret ?_))))))⟩
 refine rtv rfl rfl hs9 ?_
 rfl
theorem k9_ (A_a : Option Addr) (n_a c_a : Nat) (a : List CellD) (w : World) (f_a : SlF encCell w A_a n_a a) (hn : n_a ≤ 1099511627776) :
    Calls Tryz.prog 148 #[.slice A_a n_a c_a] w fun e w' => ∃ A c L1, e = .returned (.slice A (a).length c) ∧ St w [] L1 w' ∧ OwnF encCell 75 (.slice A (a).length c) (a) L1 := by
 refine enter 23 Tryz.func148 rfl Tryz.ntmps148 rfl rfl ?_
 have hs1 := St.init w
 refine WC.r1 hs1 [] rfl (WC.sr (WL.r 2 hs1 [] rfl (WL.makeF (F := encCell) hs1 Tryz.underlying26 inf75 rfl rfl rfl rfl rfl rfl rfl rfl rfl ?_ ?_ (fun A5 c6 L2 whs3 hs3 ho4 => ?_))))
 · have e_ : Tryz.t75.bytes = 32 := rfl
   rw [e_]; omega
 · omega
 refine WL.r 1 hs3 [] rfl (WL.nil (WC.seq (fun K7 hK7 => WC.r1 hs3 [] rfl (WC.block ?_))))
 refine WC.lO [0, 2] rfl hs3 (fun k_ f L_ => ∃ (i : Nat) (A8 : Option Addr) (c9 : Nat), k_ = n_a - i ∧ (i ≤ n_a) ∧ OwnF encCell 75 (.slice A8 (n_a) c9) (fillG encCell a i) L_ ∧ Sub [(3, .slice A8 (n_a) c9), (4, .int .i64 i)] f) (((fun (i : Nat) => n_a - i) (0))) ?_ ?_
 ·refine ⟨0, _, _, rfl, ?_, (fillG_zero f_a.len ▸ ho4), ⟨rfl, rfl, trivial⟩⟩
  · exact Nat.zero_le _
 clear hs3
 rintro _ f w L10 ⟨i, A8, c9, rfl, p0, ho11, hG⟩ hF hs12
 refine WC.sub _ (hG.app hF) ?_
 clear hG hF
 refine WC.seq (fun K13 hK13 => WC.r1 hs12 [] rfl ?_)
 refine WC.cq rfl (fun h14 qh14 => ?_) (fun h14 qh14 => ?_)
 ·refine WC.skip (hK13 _ _ (WC.seq (fun K15 hK15 => WC.block (WC.region (WL.r 4 hs12 [] rfl ?_)))))
  refine WL.val rfl rfl rfl (Run.idxN Tryz.runUnderlying44 Tryz.sizeOf216 rfl rfl rfl ?_ ?_ ?_) ?_
  · exact SlF.some_ (SlF.st0 f_a hs12)
  · omega
  · omega
  refine WL.val rfl rfl rfl (Run.loadA Tryz.isAgg216 Tryz.sizeOf216 rfl rfl (SlF.whole (SlF.st0 f_a hs12) ?_)) ?_
  · omega
  refine WL.cl Tryz.call205 rfl (k6_ _ _ _ _ _ _ _) ?_
  rintro _ whs16 ⟨rfl, hs16⟩
  replace hs16 := hs12.call0 hs16
  refine ⟨_, rfl, WL.val rfl rfl rfl (Run.idxN Tryz.runUnderlying26 Tryz.sizeOf75 rfl rfl rfl ?_ ?_ ?_) ?_⟩
  · exact SlF.some_ (SlF.ofOwn ho11 (hs16.ow L10))
  · omega
  · omega
  refine WL.storeF1 (x' := _) hs16 ho11 Tryz.sizeOf75 rfl rfl rfl rfl rfl rfl rfl rfl rfl ?_ rfl (fun L17 whs18 hs18 ho19 _ => ?_)
  · omega
  refine WL.nil (hK15 _ _ (WC.region (WL.r 3 hs18 [] rfl (WL.nil (tkN ?_)))))
  rw [fillG_set (i := i) (by rw [f_a.len]; omega) (by simp) (by simp)] at ho19
  refine ⟨sbF rfl, _, hs18, _, ?_, i + 1, _, _, rfl, ?_, ho19, ⟨rfl, rfl, trivial⟩⟩
  · omega
  · omega
 refine WC.exit (hK7 _ _ (WC.r1 hs12 [] rfl (WC.ret (retV1 rfl (resV.tmp rfl) ?_))))
 have hx_ := OwnF.eqOf (xs := a) ho11 (fillG_full (by rw [f_a.len]; omega))
 have hy_ := ho11
 rw [hx_] at hy_
 obtain ⟨A_, c_, hz_⟩ := hy_.shape
 exact ⟨A_, c_, _, congrArg Ending.returned hz_, (St.keep1 hs12), hz_ ▸ hy_⟩
theorem k10_ (A_a : Option Addr) (n_a c_a : Nat) (a : List CellD) (A_b : Option Addr) (n_b c_b : Nat) (b : List CellD) (w : World) (f_a : SlF encCell w A_a n_a a) (f_b : SlF encCell w A_b n_b b) (hn : n_a ≤ 1099511627776) (hab : a = b) :
    Calls Tryz.prog 158 #[.slice A_a n_a c_a, .slice A_b n_b c_b] w fun e w' => e = .returned (.bool true) ∧ St w [] [] w' := by
 subst hab
 obtain rfl : n_a = n_b := f_a.len.symm.trans f_b.len
 refine enter 27 Tryz.func158 rfl Tryz.ntmps158 rfl rfl ?_
 have hs1 := St.init w
 refine WC.r1 hs1 [] rfl (WC.seq (fun K2 hK2 => WC.r1 hs1 [] rfl (WC.condF rfl (by simp) (WC.skip (hK2 _ _ (WC.seq (fun K4 hK4 => WC.r1 hs1 [] rfl ?_)))))))
 refine WC.block (WC.lS [0, 1, 10] rfl hs1 (fun k_ f w' => ∃ (i : Nat), k_ = n_a - i ∧ (i ≤ n_a) ∧ Sub [(5, .int .i64 i)] f) ((fun (i : Nat) => n_a - i) (0)) ?_ ?_)
 ·refine ⟨0, rfl, ?_, ⟨rfl, trivial⟩⟩
  · exact Nat.zero_le _
 clear hs1
 rintro _ f w ⟨i, rfl, p0, hG⟩ hF hs5
 refine WC.sub _ (hG.app hF) ?_
 clear hG hF
 refine WC.seq (fun K6 hK6 => WC.r1 hs5 [] rfl ?_)
 refine WC.cD rfl (fun qh7 => ?_) (fun qh7 => ?_)
 ·refine WC.skip (hK6 _ _ (WC.seq (fun K8 hK8 => WC.block (WC.sq1 hs5 (WQ.r 2 [] rfl ?_)))))
  refine WQ.val rfl rfl rfl (fun w_ hs_ => (Run.idxN Tryz.runUnderlying26 Tryz.sizeOf75 rfl rfl rfl ?_ ?_ ?_)) ?_
  · exact SlF.some_ (SlF.st0 f_a (hs_ : St _ _ _ _))
  · omega
  · omega
  refine WQ.val rfl rfl rfl (fun w_ hs_ => (Run.loadA Tryz.isAgg75 Tryz.sizeOf75 rfl rfl (SlF.whole (SlF.st0 f_a (hs_ : St _ _ _ _)) ?_))) ?_
  · omega
  refine WQ.r 2 [] rfl ?_
  refine WQ.val rfl rfl rfl (fun w_ hs_ => (Run.idxN Tryz.runUnderlying26 Tryz.sizeOf75 rfl rfl rfl ?_ ?_ ?_)) ?_
  · exact SlF.some_ (SlF.st0 f_b (hs_ : St _ _ _ _))
  · omega
  · omega
  refine WQ.val rfl rfl rfl (fun w_ hs_ => (Run.loadA Tryz.isAgg75 Tryz.sizeOf75 rfl rfl (SlF.whole (SlF.st0 f_b (hs_ : St _ _ _ _)) ?_))) ?_
  · omega
  refine WQ.call rfl rfl rfl (fun w_ hs_ => (Run.call Tryz.call217 rfl rfl rfl)) (fun w_ hs_ => (k8_ _ _ _ _ _ _ _ _ _ _ _ _ _ ?_).mono fun e_ w_ h_ => ⟨h_.1, (hs_ : St _ _ _ _).call0 h_.2⟩) ?_
  · first | assumption | rfl | omega
  refine WQ.r 1 [] rfl (WQ.nil (fun _ (hs9 : St _ _ _ _) => WC.condF rfl (by simp) (WC.skip (hK8 _ _ (WC.region (WL.r 3 hs9 [] rfl (WL.nil ?_)))))))
  refine tkN (⟨sbF rfl, hs9, _, ?_, i + 1, rfl, ?_, ⟨rfl, trivial⟩⟩)
  · omega
  · omega
 refine WC.exit (hK4 _ _ (WC.r1 hs5 [] rfl (WC.ret (rtv rfl rfl hs5 ?_))))
 rfl
theorem k11_ (A_a : Option Addr) (n_a c_a : Nat) (a : List CellD) (left : Int) (w : World) (f_a : SlF encCell w A_a n_a a) (h1 : 0 ≤ left) (h2 : left ≤ 1048576) (h3 : n_a ≤ 9223372036854775807) :
    Calls Tryz.prog 136 #[.slice A_a n_a c_a, i64 left] w fun e w' => e = .returned (.int .i64 (szR left n_a)) ∧ St w [] [] w' := by
 refine enter 12 Tryz.func136 rfl Tryz.ntmps136 rfl rfl ?_
 have hs1 := St.init w
 refine WC.r1 hs1 [] rfl (WC.r1 hs1 [] rfl (WC.seq (fun K2 hK2 => WC.r1 hs1 [] rfl ?_)))
 refine WC.cD rfl (fun qh3 => ?_) (fun qh3 => ?_)
 ·refine WC.r1 hs1 [] rfl (WC.ret (tkR ?_))
  clear hK2
  refine rtv rfl rfl hs1 ?_
  simp only [szR]; rw [if_neg (by omega)]
 refine WC.skip (hK2 _ _ (WC.r1 hs1 [] rfl (WC.ret (rtv rfl rfl hs1 ?_))))
 simp only [szR]; rw [if_pos (by omega)]
theorem k12_ (A_a : Option Addr) (n_a c_a : Nat) (a : List Int) (A_b : Option Addr) (n_b c_b : Nat) (b : List Int) (w : World) (f_a : SlF encI w A_a n_a a) (f_b : SlF encI w A_b n_b b) (hn : n_a ≤ 1099511627776) (hab : a = b) :
    Calls Tryz.prog 33 #[.slice A_a n_a c_a, .slice A_b n_b c_b] w fun e w' => e = .returned (.bool true) ∧ St w [] [] w' := by
 subst hab
 obtain rfl : n_a = n_b := f_a.len.symm.trans f_b.len
 refine enter 26 Tryz.func33 rfl Tryz.ntmps33 rfl rfl ?_
 have hs1 := St.init w
 refine WC.r1 hs1 [] rfl (WC.seq (fun K2 hK2 => WC.r1 hs1 [] rfl (WC.condF rfl (by simp) (WC.skip (hK2 _ _ (WC.seq (fun K4 hK4 => WC.r1 hs1 [] rfl ?_)))))))
 refine WC.block (WC.lS [0, 1, 10] rfl hs1 (fun k_ f w' => ∃ (i : Nat), k_ = n_a - i ∧ (i ≤ n_a) ∧ Sub [(5, .int .i64 i)] f) ((fun (i : Nat) => n_a - i) (0)) ?_ ?_)
 ·refine ⟨0, rfl, ?_, ⟨rfl, trivial⟩⟩
  · exact Nat.zero_le _
 clear hs1
 rintro _ f w ⟨i, rfl, p0, hG⟩ hF hs5
 refine WC.sub _ (hG.app hF) ?_
 clear hG hF
 refine WC.seq (fun K6 hK6 => WC.r1 hs5 [] rfl ?_)
 refine WC.cD rfl (fun qh7 => ?_) (fun qh7 => ?_)
 ·refine WC.skip (hK6 _ _ (WC.seq (fun K8 hK8 => WC.block (WC.sq1 hs5 (WQ.r 2 [] rfl ?_)))))
  refine WQ.val rfl rfl rfl (fun w_ hs_ => (Run.idxN Tryz.runUnderlying23 Tryz.sizeOf3 rfl rfl rfl ?_ ?_ ?_)) ?_
  · exact SlF.some_ (SlF.st0 f_a (hs_ : St _ _ _ _))
  · omega
  · omega
  refine WQ.val rfl rfl rfl (fun w_ hs_ => (Run.load Tryz.isAgg3 rfl rfl (SlF.one1 (SlF.st0 f_a (hs_ : St _ _ _ _)) ?_ rfl))) ?_
  · omega
  refine WQ.r 2 [] rfl ?_
  refine WQ.val rfl rfl rfl (fun w_ hs_ => (Run.idxN Tryz.runUnderlying23 Tryz.sizeOf3 rfl rfl rfl ?_ ?_ ?_)) ?_
  · exact SlF.some_ (SlF.st0 f_b (hs_ : St _ _ _ _))
  · omega
  · omega
  refine WQ.val rfl rfl rfl (fun w_ hs_ => (Run.load Tryz.isAgg3 rfl rfl (SlF.one1 (SlF.st0 f_b (hs_ : St _ _ _ _)) ?_ rfl))) ?_
  · omega
  refine WQ.r 1 [] rfl (WQ.nil (fun _ (hs9 : St _ _ _ _) => WC.condF rfl (by simp) (WC.skip (hK8 _ _ (WC.region (WL.r 3 hs9 [] rfl (WL.nil ?_)))))))
  refine tkN (⟨sbF rfl, hs9, _, ?_, i + 1, rfl, ?_, ⟨rfl, trivial⟩⟩)
  · omega
  · omega
 refine WC.exit (hK4 _ _ (WC.r1 hs5 [] rfl (WC.ret (rtv rfl rfl hs5 ?_))))
 rfl
theorem k13_ (A_a : Option Addr) (n_a c_a : Nat) (a : List Int) (left : Int) (w : World) (f_a : SlF encI w A_a n_a a) (h1 : 0 ≤ left) (h2 : left ≤ 1048576) (h3 : n_a ≤ 9223372036854775807) :
    Calls Tryz.prog 61 #[.slice A_a n_a c_a, i64 left] w fun e w' => e = .returned (.int .i64 (szR left n_a)) ∧ St w [] [] w' := by
 refine enter 12 Tryz.func61 rfl Tryz.ntmps61 rfl rfl ?_
 have hs1 := St.init w
 refine WC.r1 hs1 [] rfl (WC.r1 hs1 [] rfl (WC.seq (fun K2 hK2 => WC.r1 hs1 [] rfl ?_)))
 refine WC.cD rfl (fun qh3 => ?_) (fun qh3 => ?_)
 ·refine WC.r1 hs1 [] rfl (WC.ret (tkR ?_))
  clear hK2
  refine rtv rfl rfl hs1 ?_
  simp only [szR]; rw [if_neg (by omega)]
 refine WC.skip (hK2 _ _ (WC.r1 hs1 [] rfl (WC.ret (rtv rfl rfl hs1 ?_))))
 simp only [szR]; rw [if_pos (by omega)]
theorem k14_ (A_a : Option Addr) (n_a c_a : Nat) (a : List Int) (w : World) (f_a : SlF encI w A_a n_a a) (hn : n_a ≤ 1099511627776) :
    Calls Tryz.prog 31 #[.slice A_a n_a c_a] w fun e w' => ∃ A c L1, e = .returned (.slice A (a).length c) ∧ St w [] L1 w' ∧ OwnF encI 3 (.slice A (a).length c) (a) L1 := by
 refine enter 22 Tryz.func31 rfl Tryz.ntmps31 rfl rfl ?_
 have hs1 := St.init w
 refine WC.r1 hs1 [] rfl (WC.sr (WL.r 2 hs1 [] rfl (WL.makeF (F := encI) hs1 Tryz.underlying23 inf3 rfl rfl rfl rfl rfl rfl rfl rfl rfl ?_ ?_ (fun A5 c6 L2 whs3 hs3 ho4 => ?_))))
 · have e_ : Tryz.t3.bytes = 8 := rfl
   rw [e_]; omega
 · omega
 refine WL.r 1 hs3 [] rfl (WL.nil (WC.seq (fun K7 hK7 => WC.r1 hs3 [] rfl (WC.block ?_))))
 refine WC.lO [0, 2] rfl hs3 (fun k_ f L_ => ∃ (i : Nat) (A8 : Option Addr) (c9 : Nat), k_ = n_a - i ∧ (i ≤ n_a) ∧ OwnF encI 3 (.slice A8 (n_a) c9) (fillG encI a i) L_ ∧ Sub [(3, .slice A8 (n_a) c9), (4, .int .i64 i)] f) (((fun (i : Nat) => n_a - i) (0))) ?_ ?_
 ·refine ⟨0, _, _, rfl, ?_, (fillG_zero f_a.len ▸ ho4), ⟨rfl, rfl, trivial⟩⟩
  · exact Nat.zero_le _
 clear hs3
 rintro _ f w L10 ⟨i, A8, c9, rfl, p0, ho11, hG⟩ hF hs12
 refine WC.sub _ (hG.app hF) ?_
 clear hG hF
 refine WC.seq (fun K13 hK13 => WC.r1 hs12 [] rfl ?_)
 refine WC.cq rfl (fun h14 qh14 => ?_) (fun h14 qh14 => ?_)
 ·refine WC.skip (hK13 _ _ (WC.seq (fun K15 hK15 => WC.block (WC.region (WL.r 4 hs12 [] rfl ?_)))))
  refine WL.val rfl rfl rfl (Run.idxN Tryz.runUnderlying23 Tryz.sizeOf3 rfl rfl rfl ?_ ?_ ?_) ?_
  · exact SlF.some_ (SlF.st0 f_a hs12)
  · omega
  · omega
  refine WL.val rfl rfl rfl (Run.load Tryz.isAgg3 rfl rfl (SlF.one1 (SlF.st0 f_a hs12) ?_ rfl)) ?_
  · omega
  refine WL.val rfl rfl rfl (Run.idxN Tryz.runUnderlying23 Tryz.sizeOf3 rfl rfl rfl ?_ ?_ ?_) ?_
  · exact SlF.some_ (SlF.ofOwn ho11 (hs12.ow L10))
  · omega
  · omega
  refine WL.storeF1 (x' := _) hs12 ho11 Tryz.sizeOf3 rfl rfl rfl rfl rfl rfl rfl rfl rfl ?_ rfl (fun L16 whs17 hs17 ho18 _ => ?_)
  · omega
  refine WL.nil (hK15 _ _ (WC.region (WL.r 3 hs17 [] rfl (WL.nil (tkN ?_)))))
  rw [fillG_set (i := i) (by rw [f_a.len]; omega) (by simp) (by simp)] at ho18
  refine ⟨sbF rfl, _, hs17, _, ?_, i + 1, _, _, rfl, ?_, ho18, ⟨rfl, rfl, trivial⟩⟩
  · omega
  · omega
 refine WC.exit (hK7 _ _ (WC.r1 hs12 [] rfl (WC.ret (retV1 rfl (resV.tmp rfl) ?_))))
 have hx_ := OwnF.eqOf (xs := a) ho11 (fillG_full (by rw [f_a.len]; omega))
 have hy_ := ho11
 rw [hx_] at hy_
 obtain ⟨A_, c_, hz_⟩ := hy_.shape
 exact ⟨A_, c_, _, congrArg Ending.returned hz_, (St.keep1 hs12), hz_ ▸ hy_⟩
theorem k15_ (v_a : Value) (a : List UInt8) (L_a : Hp) (k : Int) (w : World) (o_a : OwnF encB 5 v_a a L_a) (h_a : Hh w L_a) (h1 : 0 ≤ k) (h2 : k ≤ 1099511627776) (h3 : a.length ≤ 1099511627776) :
    Calls Tryz.prog 16 #[v_a, i64 k] w fun e w' => ∃ L1, e = .returned (.int .i64 (k + 1 * a.length)) ∧ St w (L_a.map (·.1)) L1 w' ∧ OwnF encB 5 v_a (marks ub 1 k a.length) L1 := by
 obtain ⟨A_a, c_a, rfl⟩ := o_a.shape
 refine enter 20 Tryz.func16 rfl Tryz.ntmps16 rfl rfl ?_
 have hs1 := St.lent1 w L_a o_a h_a
 refine WC.r1 hs1 [] rfl (WC.seq (fun K2 hK2 => WC.r1 hs1 [] rfl (WC.block ?_)))
 refine WC.lO [4] rfl hs1 (fun k_ f L_ => ∃ (i : Nat) (q : Int), k_ = a.length - i ∧ (i ≤ a.length) ∧ (q = k + 1 * i) ∧ OwnF encB 5 (.slice A_a (a.length) c_a) (fillM ub 1 k a i) L_ ∧ Sub [(0, .slice A_a (a.length) c_a), (5, .int .i64 i), (1, .int .i64 q)] f) (((fun (i : Nat) (q : Int) => a.length - i) (0) (k))) ?_ ?_
 ·refine ⟨0, k, rfl, ?_, ?_, (fillM_zero.symm ▸ o_a), ⟨rfl, rfl, rfl, trivial⟩⟩
  · exact Nat.zero_le _
  · simp
 clear hs1
 rintro _ f w L5 ⟨i, q, rfl, p0, p1, ho6, hG⟩ hF hs7
 refine WC.sub _ (hG.app hF) ?_
 clear hG hF
 have hfl : (fillM ub 1 k a i).length = a.length := fillM_len p0
 have hq : k + ((1 : Nat) : Int) * (i : Int) = q := by omega
 refine WC.seq (fun K8 hK8 => WC.r1 hs7 [] rfl ?_)
 refine WC.cq rfl (fun h9 qh9 => ?_) (fun h9 qh9 => ?_)
 ·refine WC.skip (hK8 _ _ (WC.seq (fun K10 hK10 => WC.block (WC.sr (WL.r 4 hs7 [] rfl ?_)))))
  refine WL.val rfl rfl rfl (Run.idxN Tryz.runUnderlying22 Tryz.sizeOf5 rfl rfl rfl ?_ ?_ ?_) ?_
  · exact SlF.some_ (SlF.ofOwn ho6 (hs7.ow L5))
  · omega
  · omega
  refine WL.storeF1 (x' := _) hs7 ho6 Tryz.sizeOf5 rfl rfl rfl rfl rfl rfl rfl rfl rfl ?_ (by first | rfl | (rw [gat_set (by (try simp only [List.length_set]); omega) rfl]; rfl)) (fun L11 whs12 hs12 ho13 _ => ?_)
  · omega
  refine WL.nil (WC.region (WL.r 3 hs12 [] rfl (WL.nil (hK10 _ _ (WC.region (WL.r 3 hs12 [] rfl (WL.nil ?_)))))))
  refine tkN ?_
  try simp only [List.set_set] at ho13
  rw [fillM_set (i := i) (by omega) (by rw [hq]) (by simp)] at ho13
  refine ⟨sbF rfl, _, hs12, _, ?_, i + 1, _, rfl, ?_, ?_, ho13, ⟨rfl, rfl, rfl, trivial⟩⟩
  · omega
  · omega
  · omega
 refine WC.exit (hK2 _ _ (WC.r1 hs7 [] rfl (WC.ret (retV1 rfl (resV.tmp rfl) ?_))))
 have hx_ := OwnF.eqOf (xs := marks ub 1 k a.length) ho6 (fillM_full (by omega))
 have hi_ : i = a.length := by omega
 refine ⟨_, ?_, (St.keep1 hs7), hx_ ▸ ho6⟩
 rw [p1, hi_]
theorem k16_ (A_a : Option Addr) (n_a c_a : Nat) (a : List UInt8) (k : Int) (m : Nat) (w : World) (f_a : SlF encB w A_a n_a a) (hm : a = marks ub 1 k m) (h1 : 0 ≤ k) (h2 : k ≤ 1099511627776) (h3 : n_a ≤ 1099511627776) :
    Calls Tryz.prog 135 #[.slice A_a n_a c_a, i64 k] w fun e w' => e = .returned (.int .i64 (k + 1 * m)) ∧ St w [] [] w' := by
 have hnm : n_a = m := by rw [← f_a.len, hm, marks_len]
 subst hnm
 refine enter 22 Tryz.func135 rfl Tryz.ntmps135 rfl rfl ?_
 have hs1 := St.init w
 refine WC.r1 hs1 [] rfl (WC.seq (fun K2 hK2 => WC.r1 hs1 [] rfl (WC.block ?_)))
 refine WC.lS [0] rfl hs1 (fun k_ f w' => ∃ (i : Nat) (q : Int), k_ = n_a - i ∧ (i ≤ n_a) ∧ (q = k + 1 * i) ∧ Sub [(5, .int .i64 i), (1, .int .i64 q)] f) ((fun (i : Nat) (q : Int) => n_a - i) (0) (k)) ?_ ?_
 ·refine ⟨0, k, rfl, ?_, ?_, ⟨rfl, rfl, trivial⟩⟩
  · exact Nat.zero_le _
  · simp
 clear hs1
 rintro _ f w ⟨i, q, rfl, p0, p1, hG⟩ hF hs3
 refine WC.sub _ (hG.app hF) ?_
 clear hG hF
 have hq : k + ((1 : Nat) : Int) * (i : Int) = q := by omega
 refine WC.seq (fun K4 hK4 => WC.r1 hs3 [] rfl ?_)
 refine WC.cD rfl (fun qh5 => ?_) (fun qh5 => ?_)
 ·have hg : gat encB a i = ub q := by rw [hm, marks_gat (by omega), hq]
  refine WC.skip (hK4 _ _ (WC.seq (fun K6 hK6 => WC.block (WC.seq (fun K7 hK7 => WC.sr (WL.r 2 hs3 [] rfl ?_))))))
  refine WL.val rfl rfl rfl (Run.idxN Tryz.runUnderlying22 Tryz.sizeOf5 rfl rfl rfl ?_ ?_ ?_) ?_
  · exact SlF.some_ (SlF.st0 f_a hs3)
  · omega
  · omega
  refine WL.val rfl rfl rfl (Run.load Tryz.isAgg5 rfl rfl (SlF.one1 (SlF.st0 f_a hs3) ?_ rfl)) ?_
  · omega
  refine WL.r 3 hs3 [] rfl (WL.nil (WC.condF rfl (by simp [hg]) (WC.skip (hK7 _ _ (WC.region (WL.r 3 hs3 [] rfl (WL.nil ?_)))))))
  refine hK6 _ _ (WC.region (WL.r 3 hs3 [] rfl (WL.nil (tkN ?_))))
  refine ⟨sbF rfl, hs3, _, ?_, i + 1, _, rfl, ?_, ?_, ⟨rfl, rfl, trivial⟩⟩
  · omega
  · omega
  · omega
 refine WC.exit (hK2 _ _ (WC.r1 hs3 [] rfl (WC.ret (rtv rfl rfl hs3 ?_))))
 rw [p1, show i = n_a from by omega]
theorem k17_ (v_a : Value) (a : List CellD) (L_a : Hp) (k : Int) (w : World) (o_a : OwnF encCell 75 v_a a L_a) (h_a : Hh w L_a) (h1 : 0 ≤ k) (h2 : k ≤ 1099511627776) (h3 : a.length ≤ 1099511627776) :
    Calls Tryz.prog 160 #[v_a, i64 k] w fun e w' => ∃ L1, e = .returned (.int .i64 (k + 6 * a.length)) ∧ St w (L_a.map (·.1)) L1 w' ∧ OwnF encCell 75 v_a (marks mkCell 6 k a.length) L1 := by
 obtain ⟨A_a, c_a, rfl⟩ := o_a.shape
 refine enter 66 Tryz.func160 rfl Tryz.ntmps160 rfl rfl ?_
 have hs1 := St.lent1 w L_a o_a h_a
 refine WC.r1 hs1 [] rfl (WC.seq (fun K2 hK2 => WC.r1 hs1 [] rfl (WC.block ?_)))
 refine WC.lO [4] rfl hs1 (fun k_ f L_ => ∃ (i : Nat) (q : Int), k_ = a.length - i ∧ (i ≤ a.length) ∧ (q = k + 6 * i) ∧ OwnF encCell 75 (.slice A_a (a.length) c_a) (fillM mkCell 6 k a i) L_ ∧ Sub [(0, .slice A_a (a.length) c_a), (5, .int .i64 i), (1, .int .i64 q)] f) (((fun (i : Nat) (q : Int) => a.length - i) (0) (k))) ?_ ?_
 ·refine ⟨0, k, rfl, ?_, ?_, (fillM_zero.symm ▸ o_a), ⟨rfl, rfl, rfl, trivial⟩⟩
  · exact Nat.zero_le _
  · simp
 clear hs1
 rintro _ f w L5 ⟨i, q, rfl, p0, p1, ho6, hG⟩ hF hs7
 refine WC.sub _ (hG.app hF) ?_
 clear hG hF
 have hfl : (fillM mkCell 6 k a i).length = a.length := fillM_len p0
 have hq : k + ((6 : Nat) : Int) * (i : Int) = q := by omega
 refine WC.seq (fun K8 hK8 => WC.r1 hs7 [] rfl ?_)
 refine WC.cq rfl (fun h9 qh9 => ?_) (fun h9 qh9 => ?_)
 ·refine WC.skip (hK8 _ _ (WC.seq (fun K10 hK10 => WC.block (WC.sr (WL.r 3 hs7 [] rfl ?_)))))
  refine WL.val rfl rfl rfl (Run.idxN Tryz.runUnderlying26 Tryz.sizeOf75 rfl rfl rfl ?_ ?_ ?_) ?_
  · exact SlF.some_ (SlF.ofOwn ho6 (hs7.ow L5))
  · omega
  · omega
  refine WL.val rfl rfl rfl (Run.fieldO Tryz.runUnderlying75 rfl rfl rfl Tryz.sizeOf3 rfl) ?_
  refine WL.storeF (x' := ⟨q, ⟨(gat encCell (fillM mkCell 6 k a i) i).A.Fg, (gat encCell (fillM mkCell 6 k a i) i).A.Bg, (gat encCell (fillM mkCell 6 k a i) i).A.Bold, (gat encCell (fillM mkCell 6 k a i) i).A.Under, (gat encCell (fillM mkCell 6 k a i) i).A.Turn⟩⟩) hs7 ho6 Tryz.sizeOf3 rfl rfl rfl rfl rfl rfl rfl rfl rfl ?_ (by first | rfl | (rw [gat_set (by (try simp only [List.length_set]); omega) rfl]; rfl)) (fun L11 whs12 hs12 ho13 _ => ?_)
  · omega
  refine WL.nil (WC.r1 hs12 [] rfl (WC.sr (WL.r 3 hs12 [] rfl (WL.val rfl rfl rfl (Run.idxN Tryz.runUnderlying26 Tryz.sizeOf75 rfl rfl rfl ?_ ?_ ?_) ?_))))
  · exact SlF.some_ (SlF.ofOwn ho13 (hs12.ow L11))
  · omega
  · omega
  refine WL.val rfl rfl rfl (Run.fieldO Tryz.runUnderlying75 rfl rfl rfl Tryz.sizeOf30 rfl) (WL.val rfl rfl rfl (Run.fieldE Tryz.runUnderlying30 rfl rfl rfl Tryz.sizeOf3 rfl) ?_)
  refine WL.storeF (x' := ⟨q, ⟨(q + 1), (gat encCell (fillM mkCell 6 k a i) i).A.Bg, (gat encCell (fillM mkCell 6 k a i) i).A.Bold, (gat encCell (fillM mkCell 6 k a i) i).A.Under, (gat encCell (fillM mkCell 6 k a i) i).A.Turn⟩⟩) hs12 ho13 Tryz.sizeOf3 rfl rfl rfl rfl rfl rfl rfl rfl rfl ?_ (by first | rfl | (rw [gat_set (by (try simp only [List.length_set]); omega) rfl]; rfl)) (fun L14 whs15 hs15 ho16 _ => ?_)
  · omega
  refine WL.nil (WC.r1 hs15 [] rfl (WC.sr (WL.r 3 hs15 [] rfl (WL.val rfl rfl rfl (Run.idxN Tryz.runUnderlying26 Tryz.sizeOf75 rfl rfl rfl ?_ ?_ ?_) ?_))))
  · exact SlF.some_ (SlF.ofOwn ho16 (hs15.ow L14))
  · omega
  · omega
  refine WL.val rfl rfl rfl (Run.fieldO Tryz.runUnderlying75 rfl rfl rfl Tryz.sizeOf30 rfl) (WL.val rfl rfl rfl (Run.fieldE Tryz.runUnderlying30 rfl rfl rfl Tryz.sizeOf3 rfl) ?_)
  refine WL.storeF (x' := ⟨q, ⟨(q + 1), (q + 1 + 1), (gat encCell (fillM mkCell 6 k a i) i).A.Bold, (gat encCell (fillM mkCell 6 k a i) i).A.Under, (gat encCell (fillM mkCell 6 k a i) i).A.Turn⟩⟩) hs15 ho16 Tryz.sizeOf3 rfl rfl rfl rfl rfl rfl rfl rfl rfl ?_ (by first | rfl | (rw [gat_set (by (try simp only [List.length_set]); omega) rfl]; rfl)) (fun L17 whs18 hs18 ho19 _ => ?_)
  · omega
  refine WL.nil (WC.r1 hs18 [] rfl (WC.sr (WL.r 3 hs18 [] rfl (WL.val rfl rfl rfl (Run.rem rfl rfl rfl ?_ ?_) ?_))))
  · omega
  · omega
  refine WL.r 1 hs18 [] rfl (WL.val rfl rfl rfl (Run.idxN Tryz.runUnderlying26 Tryz.sizeOf75 rfl rfl rfl ?_ ?_ ?_) ?_)
  · exact SlF.some_ (SlF.ofOwn ho19 (hs18.ow L17))
  · omega
  · omega
  refine WL.val rfl rfl rfl (Run.fieldO Tryz.runUnderlying75 rfl rfl rfl Tryz.sizeOf30 rfl) (WL.val rfl rfl rfl (Run.fieldE Tryz.runUnderlying30 rfl rfl rfl Tryz.sizeOf4 rfl) ?_)
  refine WL.storeF (x' := ⟨q, ⟨(q + 1), (q + 1 + 1), decide ((q + 1 + 1 + 1) % 3 = 0), (gat encCell (fillM mkCell 6 k a i) i).A.Under, (gat encCell (fillM mkCell 6 k a i) i).A.Turn⟩⟩) hs18 ho19 Tryz.sizeOf4 rfl rfl rfl rfl rfl rfl rfl rfl rfl ?_ (by first | rfl | (rw [gat_set (by (try simp only [List.length_set]); omega) rfl]; rfl)) (fun L20 whs21 hs21 ho22 _ => ?_)
  · omega
  refine WL.nil (WC.r1 hs21 [] rfl (WC.sr (WL.r 3 hs21 [] rfl (WL.val rfl rfl rfl (Run.rem rfl rfl rfl ?_ ?_) ?_))))
  · omega
  · omega
  refine WL.r 1 hs21 [] rfl (WL.val rfl rfl rfl (Run.idxN Tryz.runUnderlying26 Tryz.sizeOf75 rfl rfl rfl ?_ ?_ ?_) ?_)
  · exact SlF.some_ (SlF.ofOwn ho22 (hs21.ow L20))
  · omega
  · omega
  refine WL.val rfl rfl rfl (Run.fieldO Tryz.runUnderlying75 rfl rfl rfl Tryz.sizeOf30 rfl) (WL.val rfl rfl rfl (Run.fieldE Tryz.runUnderlying30 rfl rfl rfl Tryz.sizeOf4 rfl) ?_)
  refine WL.storeF (x' := ⟨q, ⟨(q + 1), (q + 1 + 1), decide ((q + 1 + 1 + 1) % 3 = 0), decide ((q + 1 + 1 + 1 + 1) % 3 = 0), (gat encCell (fillM mkCell 6 k a i) i).A.Turn⟩⟩) hs21 ho22 Tryz.sizeOf4 rfl rfl rfl rfl rfl rfl rfl rfl rfl ?_ (by first | rfl | (rw [gat_set (by (try simp only [List.length_set]); omega) rfl]; rfl)) (fun L23 whs24 hs24 ho25 _ => ?_)
  · omega
  refine WL.nil (WC.r1 hs24 [] rfl (WC.sr (WL.r 3 hs24 [] rfl (WL.val rfl rfl rfl (Run.rem rfl rfl rfl ?_ ?_) ?_))))
  · omega
  · omega
  refine WL.r 1 hs24 [] rfl (WL.val rfl rfl rfl (Run.idxN Tryz.runUnderlying26 Tryz.sizeOf75 rfl rfl rfl ?_ ?_ ?_) ?_)
  · exact SlF.some_ (SlF.ofOwn ho25 (hs24.ow L23))
  · omega
  · omega
  refine WL.val rfl rfl rfl (Run.fieldO Tryz.runUnderlying75 rfl rfl rfl Tryz.sizeOf30 rfl) (WL.val rfl rfl rfl (Run.fieldE Tryz.runUnderlying30 rfl rfl rfl Tryz.sizeOf4 rfl) ?_)
  refine WL.storeF (x' := ⟨q, ⟨(q + 1), (q + 1 + 1), decide ((q + 1 + 1 + 1) % 3 = 0), decide ((q + 1 + 1 + 1 + 1) % 3 = 0), decide ((q + 1 + 1 + 1 + 1 + 1) % 3 = 0)⟩⟩) hs24 ho25 Tryz.sizeOf4 rfl rfl rfl rfl rfl rfl rfl rfl rfl ?_ (by first | rfl | (rw [gat_set (by (try simp only [List.length_set]); omega) rfl]; rfl)) (fun L26 whs27 hs27 ho28 _ => ?_)
  · omega
  refine WL.nil (WC.region (WL.r 3 hs27 [] rfl (WL.nil (hK10 _ _ (WC.region (WL.r 3 hs27 [] rfl (WL.nil ?_)))))))
  refine tkN ?_
  try simp only [List.set_set] at ho28
  rw [fillM_set (i := i) (by omega) (by rw [hq]; rfl) (by simp)] at ho28
  refine ⟨sbF rfl, _, hs27, _, ?_, i + 1, _, rfl, ?_, ?_, ho28, ⟨rfl, rfl, rfl, trivial⟩⟩
  · omega
  · omega
  · omega
 refine WC.exit (hK2 _ _ (WC.r1 hs7 [] rfl (WC.ret (retV1 rfl (resV.tmp rfl) ?_))))
 have hx_ := OwnF.eqOf (xs := marks mkCell 6 k a.length) ho6 (fillM_full (by omega))
 have hi_ : i = a.length := by omega
 refine ⟨_, ?_, (St.keep1 hs7), hx_ ▸ ho6⟩
 rw [p1, hi_]
theorem k18_ (A_a : Option Addr) (n_a c_a : Nat) (a : List CellD) (k : Int) (m : Nat) (w : World) (f_a : SlF encCell w A_a n_a a) (hm : a = marks mkCell 6 k m) (h1 : 0 ≤ k) (h2 : k ≤ 1099511627776) (h3 : n_a ≤ 1099511627776) :
    Calls Tryz.prog 161 #[.slice A_a n_a c_a, i64 k] w fun e w' => e = .returned (.int .i64 (k + 6 * m)) ∧ St w [] [] w' := by
 have hnm : n_a = m := by rw [← f_a.len, hm, marks_len]
 subst hnm
 refine enter 78 Tryz.func161 rfl Tryz.ntmps161 rfl rfl ?_
 have hs1 := St.init w
 refine WC.r1 hs1 [] rfl (WC.seq (fun K2 hK2 => WC.r1 hs1 [] rfl (WC.block ?_)))
 refine WC.lS [0] rfl hs1 (fun k_ f w' => ∃ (i : Nat) (q : Int), k_ = n_a - i ∧ (i ≤ n_a) ∧ (q = k + 6 * i) ∧ Sub [(5, .int .i64 i), (1, .int .i64 q)] f) ((fun (i : Nat) (q : Int) => n_a - i) (0) (k)) ?_ ?_
 ·refine ⟨0, k, rfl, ?_, ?_, ⟨rfl, rfl, trivial⟩⟩
  · exact Nat.zero_le _
  · simp
 clear hs1
 rintro _ f w ⟨i, q, rfl, p0, p1, hG⟩ hF hs3
 refine WC.sub _ (hG.app hF) ?_
 clear hG hF
 have hq : k + ((6 : Nat) : Int) * (i : Int) = q := by omega
 refine WC.seq (fun K4 hK4 => WC.r1 hs3 [] rfl ?_)
 refine WC.cD rfl (fun qh5 => ?_) (fun qh5 => ?_)
 ·have hg : gat encCell a i = mkCell q := by rw [hm, marks_gat (by omega), hq]
  refine WC.skip (hK4 _ _ (WC.seq (fun K6 hK6 => WC.block (WC.seq (fun K7 hK7 => WC.sr (WL.r 2 hs3 [] rfl ?_))))))
  refine WL.val rfl rfl rfl (Run.idxN Tryz.runUnderlying26 Tryz.sizeOf75 rfl rfl rfl ?_ ?_ ?_) ?_
  · exact SlF.some_ (SlF.st0 f_a hs3)
  · omega
  · omega
  refine WL.val rfl rfl rfl (Run.fieldO Tryz.runUnderlying75 rfl rfl rfl Tryz.sizeOf3 rfl) (WL.val rfl rfl rfl (Run.load Tryz.isAgg3 rfl rfl (SlF.fld (SlF.st0 f_a hs3) ?_ rfl)) ?_)
  · omega
  refine WL.r 2 hs3 [] rfl (WL.nil (WC.condF rfl (by simp [hg, mkCell]) (WC.skip (hK7 _ _ (WC.r1 hs3 [] rfl (WC.seq (fun K9 hK9 => WC.sr ?_)))))))
  refine WL.r 2 hs3 [] rfl (WL.val rfl rfl rfl (Run.idxN Tryz.runUnderlying26 Tryz.sizeOf75 rfl rfl rfl ?_ ?_ ?_) ?_)
  · exact SlF.some_ (SlF.st0 f_a hs3)
  · omega
  · omega
  refine WL.val rfl rfl rfl (Run.fieldO Tryz.runUnderlying75 rfl rfl rfl Tryz.sizeOf30 rfl) (WL.val rfl rfl rfl (Run.fieldE Tryz.runUnderlying30 rfl rfl rfl Tryz.sizeOf3 rfl) (WL.val rfl rfl rfl (Run.load Tryz.isAgg3 rfl rfl (SlF.fld (SlF.st0 f_a hs3) ?_ rfl)) ?_))
  · omega
  refine WL.r 2 hs3 [] rfl (WL.nil (WC.condF rfl (by simp [hg, mkCell]) (WC.skip (hK9 _ _ (WC.r1 hs3 [] rfl (WC.seq (fun K11 hK11 => WC.sr ?_)))))))
  refine WL.r 2 hs3 [] rfl (WL.val rfl rfl rfl (Run.idxN Tryz.runUnderlying26 Tryz.sizeOf75 rfl rfl rfl ?_ ?_ ?_) ?_)
  · exact SlF.some_ (SlF.st0 f_a hs3)
  · omega
  · omega
  refine WL.val rfl rfl rfl (Run.fieldO Tryz.runUnderlying75 rfl rfl rfl Tryz.sizeOf30 rfl) (WL.val rfl rfl rfl (Run.fieldE Tryz.runUnderlying30 rfl rfl rfl Tryz.sizeOf3 rfl) (WL.val rfl rfl rfl (Run.load Tryz.isAgg3 rfl rfl (SlF.fld (SlF.st0 f_a hs3) ?_ rfl)) ?_))
  · omega
  refine WL.r 2 hs3 [] rfl (WL.nil (WC.condF rfl (by simp [hg, mkCell]) (WC.skip (hK11 _ _ (WC.r1 hs3 [] rfl (WC.seq (fun K13 hK13 => WC.sr ?_)))))))
  refine WL.r 2 hs3 [] rfl (WL.val rfl rfl rfl (Run.idxN Tryz.runUnderlying26 Tryz.sizeOf75 rfl rfl rfl ?_ ?_ ?_) ?_)
  · exact SlF.some_ (SlF.st0 f_a hs3)
  · omega
  · omega
  refine WL.val rfl rfl rfl (Run.fieldO Tryz.runUnderlying75 rfl rfl rfl Tryz.sizeOf30 rfl) (WL.val rfl rfl rfl (Run.fieldE Tryz.runUnderlying30 rfl rfl rfl Tryz.sizeOf4 rfl) (WL.val rfl rfl rfl (Run.load Tryz.isAgg4 rfl rfl (SlF.fld (SlF.st0 f_a hs3) ?_ rfl)) ?_))
  · omega
  refine WL.r 1 hs3 [] rfl (WL.val rfl rfl rfl (Run.rem rfl rfl rfl ?_ ?_) ?_)
  · omega
  · omega
  refine WL.r 2 hs3 [] rfl (WL.nil (WC.condF rfl (by simp [hg, mkCell]) (WC.skip (hK13 _ _ (WC.r1 hs3 [] rfl (WC.seq (fun K15 hK15 => WC.sr ?_)))))))
  refine WL.r 2 hs3 [] rfl (WL.val rfl rfl rfl (Run.idxN Tryz.runUnderlying26 Tryz.sizeOf75 rfl rfl rfl ?_ ?_ ?_) ?_)
  · exact SlF.some_ (SlF.st0 f_a hs3)
  · omega
  · omega
  refine WL.val rfl rfl rfl (Run.fieldO Tryz.runUnderlying75 rfl rfl rfl Tryz.sizeOf30 rfl) (WL.val rfl rfl rfl (Run.fieldE Tryz.runUnderlying30 rfl rfl rfl Tryz.sizeOf4 rfl) (WL.val rfl rfl rfl (Run.load Tryz.isAgg4 rfl rfl (SlF.fld (SlF.st0 f_a hs3) ?_ rfl)) ?_))
  · omega
  refine WL.r 1 hs3 [] rfl (WL.val rfl rfl rfl (Run.rem rfl rfl rfl ?_ ?_) ?_)
  · omega
  · omega
  refine WL.r 2 hs3 [] rfl (WL.nil (WC.condF rfl (by simp [hg, mkCell]) (WC.skip (hK15 _ _ (WC.r1 hs3 [] rfl (WC.seq (fun K17 hK17 => WC.sr ?_)))))))
  refine WL.r 2 hs3 [] rfl (WL.val rfl rfl rfl (Run.idxN Tryz.runUnderlying26 Tryz.sizeOf75 rfl rfl rfl ?_ ?_ ?_) ?_)
  · exact SlF.some_ (SlF.st0 f_a hs3)
  · omega
  · omega
  refine WL.val rfl rfl rfl (Run.fieldO Tryz.runUnderlying75 rfl rfl rfl Tryz.sizeOf30 rfl) (WL.val rfl rfl rfl (Run.fieldE Tryz.runUnderlying30 rfl rfl rfl Tryz.sizeOf4 rfl) (WL.val rfl rfl rfl (Run.load Tryz.isAgg4 rfl rfl (SlF.fld (SlF.st0 f_a hs3) ?_ rfl)) ?_))
  · omega
  refine WL.r 1 hs3 [] rfl (WL.val rfl rfl rfl (Run.rem rfl rfl rfl ?_ ?_) ?_)
  · omega
  · omega
  refine WL.r 2 hs3 [] rfl (WL.nil (WC.condF rfl (by simp [hg, mkCell]) (WC.skip (hK17 _ _ (WC.region (WL.r 3 hs3 [] rfl (WL.nil ?_)))))))
  refine hK6 _ _ (WC.region (WL.r 3 hs3 [] rfl (WL.nil (tkN ?_))))
  refine ⟨sbF rfl, hs3, _, ?_, i + 1, _, rfl, ?_, ?_, ⟨rfl, rfl, trivial⟩⟩
  · omega
  · omega
  · omega
 refine WC.exit (hK2 _ _ (WC.r1 hs3 [] rfl (WC.ret (rtv rfl rfl hs3 ?_))))
 rw [p1, show i = n_a from by omega]
theorem k19_ (v_a : Value) (a : List Int) (L_a : Hp) (k : Int) (w : World) (o_a : OwnF encI 3 v_a a L_a) (h_a : Hh w L_a) (h1 : 0 ≤ k) (h2 : k ≤ 1099511627776) (h3 : a.length ≤ 1099511627776) :
    Calls Tryz.prog 34 #[v_a, i64 k] w fun e w' => ∃ L1, e = .returned (.int .i64 (k + 1 * a.length)) ∧ St w (L_a.map (·.1)) L1 w' ∧ OwnF encI 3 v_a (marks (fun k => k) 1 k a.length) L1 := by
 obtain ⟨A_a, c_a, rfl⟩ := o_a.shape
 refine enter 19 Tryz.func34 rfl Tryz.ntmps34 rfl rfl ?_
 have hs1 := St.lent1 w L_a o_a h_a
 refine WC.r1 hs1 [] rfl (WC.seq (fun K2 hK2 => WC.r1 hs1 [] rfl (WC.block ?_)))
 refine WC.lO [4] rfl hs1 (fun k_ f L_ => ∃ (i : Nat) (q : Int), k_ = a.length - i ∧ (i ≤ a.length) ∧ (q = k + 1 * i) ∧ OwnF encI 3 (.slice A_a (a.length) c_a) (fillM (fun k => k) 1 k a i) L_ ∧ Sub [(0, .slice A_a (a.length) c_a), (5, .int .i64 i), (1, .int .i64 q)] f) (((fun (i : Nat) (q : Int) => a.length - i) (0) (k))) ?_ ?_
 ·refine ⟨0, k, rfl, ?_, ?_, (fillM_zero.symm ▸ o_a), ⟨rfl, rfl, rfl, trivial⟩⟩
  · exact Nat.zero_le _
  · simp
 clear hs1
 rintro _ f w L5 ⟨i, q, rfl, p0, p1, ho6, hG⟩ hF hs7
 refine WC.sub _ (hG.app hF) ?_
 clear hG hF
 have hfl : (fillM (fun k => k) 1 k a i).length = a.length := fillM_len p0
 have hq : k + ((1 : Nat) : Int) * (i : Int) = q := by omega
 refine WC.seq (fun K8 hK8 => WC.r1 hs7 [] rfl ?_)
 refine WC.cq rfl (fun h9 qh9 => ?_) (fun h9 qh9 => ?_)
 ·refine WC.skip (hK8 _ _ (WC.seq (fun K10 hK10 => WC.block (WC.sr (WL.r 3 hs7 [] rfl ?_)))))
  refine WL.val rfl rfl rfl (Run.idxN Tryz.runUnderlying23 Tryz.sizeOf3 rfl rfl rfl ?_ ?_ ?_) ?_
  · exact SlF.some_ (SlF.ofOwn ho6 (hs7.ow L5))
  · omega
  · omega
  refine WL.storeF1 (x' := _) hs7 ho6 Tryz.sizeOf3 rfl rfl rfl rfl rfl rfl rfl rfl rfl ?_ (by first | rfl | (rw [gat_set (by (try simp only [List.length_set]); omega) rfl]; rfl)) (fun L11 whs12 hs12 ho13 _ => ?_)
  · omega
  refine WL.nil (WC.region (WL.r 3 hs12 [] rfl (WL.nil (hK10 _ _ (WC.region (WL.r 3 hs12 [] rfl (WL.nil ?_)))))))
  refine tkN ?_
  try simp only [List.set_set] at ho13
  rw [fillM_set (i := i) (by omega) (by rw [hq]) (by simp)] at ho13
  refine ⟨sbF rfl, _, hs12, _, ?_, i + 1, _, rfl, ?_, ?_, ho13, ⟨rfl, rfl, rfl, trivial⟩⟩
  · omega
  · omega
  · omega
 refine WC.exit (hK2 _ _ (WC.r1 hs7 [] rfl (WC.ret (retV1 rfl (resV.tmp rfl) ?_))))
 have hx_ := OwnF.eqOf (xs := marks (fun k => k) 1 k a.length) ho6 (fillM_full (by omega))
 have hi_ : i = a.length := by omega
 refine ⟨_, ?_, (St.keep1 hs7), hx_ ▸ ho6⟩
 rw [p1, hi_]
theorem k20_ (A_a : Option Addr) (n_a c_a : Nat) (a : List Int) (k : Int) (m : Nat) (w : World) (f_a : SlF encI w A_a n_a a) (hm : a = marks (fun k => k) 1 k m) (h1 : 0 ≤ k) (h2 : k ≤ 1099511627776) (h3 : n_a ≤ 1099511627776) :
    Calls Tryz.prog 83 #[.slice A_a n_a c_a, i64 k] w fun e w' => e = .returned (.int .i64 (k + 1 * m)) ∧ St w [] [] w' := by
 have hnm : n_a = m := by rw [← f_a.len, hm, marks_len]
 subst hnm
 refine enter 21 Tryz.func83 rfl Tryz.ntmps83 rfl rfl ?_
 have hs1 := St.init w
 refine WC.r1 hs1 [] rfl (WC.seq (fun K2 hK2 => WC.r1 hs1 [] rfl (WC.block ?_)))
 refine WC.lS [0] rfl hs1 (fun k_ f w' => ∃ (i : Nat) (q : Int), k_ = n_a - i ∧ (i ≤ n_a) ∧ (q = k + 1 * i) ∧ Sub [(5, .int .i64 i), (1, .int .i64 q)] f) ((fun (i : Nat) (q : Int) => n_a - i) (0) (k)) ?_ ?_
 ·refine ⟨0, k, rfl, ?_, ?_, ⟨rfl, rfl, trivial⟩⟩
  · exact Nat.zero_le _
  · simp
 clear hs1
 rintro _ f w ⟨i, q, rfl, p0, p1, hG⟩ hF hs3
 refine WC.sub _ (hG.app hF) ?_
 clear hG hF
 have hq : k + ((1 : Nat) : Int) * (i : Int) = q := by omega
 refine WC.seq (fun K4 hK4 => WC.r1 hs3 [] rfl ?_)
 refine WC.cD rfl (fun qh5 => ?_) (fun qh5 => ?_)
 ·have hg : gat encI a i = (fun k => k) q := by rw [hm, marks_gat (by omega), hq]
  refine WC.skip (hK4 _ _ (WC.seq (fun K6 hK6 => WC.block (WC.seq (fun K7 hK7 => WC.sr (WL.r 2 hs3 [] rfl ?_))))))
  refine WL.val rfl rfl rfl (Run.idxN Tryz.runUnderlying23 Tryz.sizeOf3 rfl rfl rfl ?_ ?_ ?_) ?_
  · exact SlF.some_ (SlF.st0 f_a hs3)
  · omega
  · omega
  refine WL.val rfl rfl rfl (Run.load Tryz.isAgg3 rfl rfl (SlF.one1 (SlF.st0 f_a hs3) ?_ rfl)) ?_
  · omega
  refine WL.r 2 hs3 [] rfl (WL.nil (WC.condF rfl (by simp [hg]) (WC.skip (hK7 _ _ (WC.region (WL.r 3 hs3 [] rfl (WL.nil ?_)))))))
  refine hK6 _ _ (WC.region (WL.r 3 hs3 [] rfl (WL.nil (tkN ?_))))
  refine ⟨sbF rfl, hs3, _, ?_, i + 1, _, rfl, ?_, ?_, ⟨rfl, rfl, trivial⟩⟩
  · omega
  · omega
  · omega
 refine WC.exit (hK2 _ _ (WC.r1 hs3 [] rfl (WC.ret (rtv rfl rfl hs3 ?_))))
 rw [p1, show i = n_a from by omega]
set_option maxHeartbeats 4000000 in
theorem k21_ (a : GridR) (w : World) (f_a : okGridR 549755813888 w a) :
    Calls Tryz.prog 71 #[.agg #[i64 a.W, i64 a.H, .slice a.Cells.A a.Cells.n a.Cells.c]] w fun e w' => ∃ r L1, e = .returned (.agg #[i64 r.W, i64 r.H, .slice r.Cells.A r.Cells.n r.Cells.c]) ∧ St w [] L1 w' ∧ ownGridR r L1 ∧ r.dat = a.dat := by
 have nb_a_Cells := f_a.Cells_n
 have nl_a_Cells := f_a.Cells.len
 refine enter 15 Tryz.func71 rfl Tryz.ntmps71 rfl rfl ?_
 have hs1 := St.init w
 refine WC.sr (WL.bx hs1 rfl (fun b2 _ hs3 => WL.al hs3 Tryz.zeroValue28 rfl rfl (fun b4 _ hs5 => WL.nil (WC.sr (WL.al hs5 Tryz.zeroValue28 rfl rfl (fun b6 _ hs7 => WL.nil (WC.sr ?_)))))))
 refine WL.r 3 hs7 [2] rfl (WL.st tbk hs7 0 rfl rfl (fun _ hs8 => WL.nil (WC.sr (WL.r 3 hs8 [2] rfl (WL.st tbk hs8 0 rfl rfl (fun _ hs9 => WL.nil (WC.sr ?_)))))))
 refine WL.r 2 hs9 [2] rfl (WL.cl Tryz.call148 rfl (k9_ _ _ _ _ _ (SlF.st0 f_a.Cells hs9) ?_) ?_)
 · first | assumption | rfl | omega
 rintro _ whs10 ⟨A11, c12, L1_13, rfl, hs10, ho14⟩
 replace hs10 := hs9.callF hs10
 refine ⟨_, rfl, ?_⟩
 replace hs10 := St.back [_, _, _] hs10
 refine WL.r 1 hs10 [] rfl (WL.st tbk hs10 0 rfl rfl (fun _ hs15 => WL.nil (WC.sr (WL.r 1 hs15 [0] rfl (WL.st tbk hs15 1 rfl rfl (fun _ hs16 => WL.nil (WC.ret ?_)))))))
 refine retV1 rfl (resV.cellA tbk hs16 1 rfl rfl rfl rfl) (⟨⟨a.W, a.H, SlD.of ho14⟩, _, rfl, (St.keep1 (hs16.fr L1_13)), ?_, ?_⟩)
 · exact ho14
 · exact GridD.ext' rfl rfl rfl
set_option maxHeartbeats 4000000 in
theorem k22_ (a : GridR) (b : GridR) (w : World) (f_a : okGridR 549755813888 w a) (f_b : okGridR 549755813888 w b) (hab : a.dat = b.dat) :
    Calls Tryz.prog 77 #[.agg #[i64 a.W, i64 a.H, .slice a.Cells.A a.Cells.n a.Cells.c], .agg #[i64 b.W, i64 b.H, .slice b.Cells.A b.Cells.n b.Cells.c]] w fun e w' => e = .returned (.bool true) ∧ St w [] [] w' := by
 have nb_a_Cells := f_a.Cells_n
 have nl_a_Cells := f_a.Cells.len
 have nb_b_Cells := f_b.Cells_n
 have nl_b_Cells := f_b.Cells.len
 have e_W : a.W = b.W := congrArg (fun d : GridD => d.W) hab
 have e_H : a.H = b.H := congrArg (fun d : GridD => d.H) hab
 have e_Cells : a.Cells.xs = b.Cells.xs := congrArg (fun d : GridD => d.Cells) hab
 refine enter 21 Tryz.func77 rfl Tryz.ntmps77 rfl rfl ?_
 have hs1 := St.init w
 refine WC.sr (WL.bx hs1 rfl (fun b2 _ hs3 => WL.bx hs3 rfl (fun b4 _ hs5 => WL.r 1 hs5 [] rfl (WL.nil (WC.seq (fun K6 hK6 => WC.r1 hs5 [1, 0] rfl (WC.condF rfl (by simp [e_W, e_H]) ?_)))))))
 refine WC.skip (hK6 _ _ (WC.seq (fun K8 hK8 => WC.r1 hs5 [1, 0] rfl (WC.condF rfl (by simp [e_W, e_H]) (WC.skip (hK8 _ _ (WC.seq (fun K10 hK10 => ?_))))))))
 refine WC.sr (WL.r 4 hs5 [1, 0] rfl (WL.cl Tryz.call158 rfl (k10_ _ _ _ _ _ _ _ _ _ (SlF.st0 f_a.Cells hs5) (SlF.st0 f_b.Cells hs5) ?_ ?_) ?_))
 iterate 2 first | assumption | rfl | omega
 rintro _ whs11 ⟨rfl, hs11⟩
 replace hs11 := hs5.call0 hs11
 refine ⟨_, rfl, WL.r 1 hs11 [] rfl (WL.nil (WC.condF rfl (by simp [e_W, e_H]) (WC.skip (hK10 _ _ (WC.r1 hs11 [] rfl (WC.ret ?_))))))⟩
 refine rtv rfl rfl hs11 ?_
 rfl
set_option maxHeartbeats 4000000 in
theorem k23_ (a : GridR) (left : Int) (w : World) (f_a : okGridR 9223372036854775807 w a) (h1 : 0 ≤ left) (h2 : left ≤ 1048576) :
    Calls Tryz.prog 60 #[.agg #[i64 a.W, i64 a.H, .slice a.Cells.A a.Cells.n a.Cells.c], i64 left] w fun e w' => e = .returned (.int .i64 (szR left (totGrid a.dat))) ∧ St w [] [] w' := by
 have nb_a_Cells := f_a.Cells_n
 have nl_a_Cells := f_a.Cells.len
 refine enter 12 Tryz.func60 rfl Tryz.ntmps60 rfl rfl ?_
 have hs1 := St.init w
 refine WC.sr (WL.bx hs1 rfl (fun b2 _ hs3 => WL.r 1 hs3 [] rfl (WL.nil (WC.sr (WL.r 3 hs3 [0] rfl ?_)))))
 refine WL.cl Tryz.call136 rfl (k11_ _ _ _ _ _ _ (SlF.st0 f_a.Cells hs3) ?_ ?_ ?_) ?_
 · first | assumption | omega
 · first | assumption | omega | exact szR_b (by assumption) (by omega) (by first | assumption | omega)
 · first | assumption | omega
 rintro _ whs4 ⟨rfl, hs4⟩
 replace hs4 := hs3.call0 hs4
 refine ⟨_, rfl, WL.r 1 hs4 [] rfl (WL.nil (WC.seq (fun K5 hK5 => WC.r1 hs4 [] rfl ?_)))⟩
 refine WC.cD rfl (fun qh6 => ?_) (fun qh6 => ?_)
 ·try have soh6 := szR_ok qh6 (by omega)
  try have sbh6 := szR_b qh6 (by omega) (by first | assumption | omega)
  try have snh6 := szR_no qh6
  refine WC.r1 hs4 [] rfl (WC.ret (tkR ?_))
  clear hK5
  refine rtv rfl rfl hs4 ?_
  simp only [totGrid, GridR.dat] at *; first | (rw [szR_lt (by omega)]; done) | (refine congrArg (Value.int _) ?_; symm; refine (szR_le ?_).trans ?_ <;> omega) | rfl
 try have soh6 := szR_ok qh6 (by omega)
 try have sbh6 := szR_b qh6 (by omega) (by first | assumption | omega)
 try have snh6 := szR_no qh6
 refine WC.skip (hK5 _ _ (WC.r1 hs4 [] rfl (WC.ret (rtv rfl rfl hs4 ?_))))
 simp only [totGrid, GridR.dat] at *; first | (rw [szR_lt (by omega)]; done) | (refine congrArg (Value.int _) ?_; symm; refine (szR_le ?_).trans ?_ <;> omega) | rfl
set_option maxHeartbeats 4000000 in
theorem k24_ (a : VpR) (w : World) (f_a : okVpR 549755813888 w a) :
    Calls Tryz.prog 120 #[.agg #[i64 a.State, .bool a.Mark, .slice a.Args.A a.Args.n a.Args.c, .slice a.Part.A a.Part.n a.Part.c]] w fun e w' => ∃ r L1, e = .returned (.agg #[i64 r.State, .bool r.Mark, .slice r.Args.A r.Args.n r.Args.c, .slice r.Part.A r.Part.n r.Part.c]) ∧ St w [] L1 w' ∧ ownVpR r L1 ∧ r.dat = a.dat := by
 have nb_a_Args := f_a.Args_n
 have nl_a_Args := f_a.Args.len
 have nb_a_Part := f_a.Part_n
 have nl_a_Part := f_a.Part.len
 refine enter 19 Tryz.func120 rfl Tryz.ntmps120 rfl rfl ?_
 have hs1 := St.init w
 refine WC.sr (WL.bx hs1 rfl (fun b2 _ hs3 => WL.al hs3 Tryz.zeroValue25 rfl rfl (fun b4 _ hs5 => WL.nil (WC.sr (WL.al hs5 Tryz.zeroValue25 rfl rfl (fun b6 _ hs7 => WL.nil (WC.sr ?_)))))))
 refine WL.r 3 hs7 [2] rfl (WL.st tbk hs7 0 rfl rfl (fun _ hs8 => WL.nil (WC.sr (WL.r 3 hs8 [2] rfl (WL.st tbk hs8 0 rfl rfl (fun _ hs9 => WL.nil (WC.sr ?_)))))))
 refine WL.r 2 hs9 [2] rfl (WL.cl Tryz.call31 rfl (k14_ _ _ _ _ _ (SlF.st0 f_a.Args hs9) ?_) ?_)
 · first | assumption | rfl | omega
 rintro _ whs10 ⟨A11, c12, L1_13, rfl, hs10, ho14⟩
 replace hs10 := hs9.callF hs10
 refine ⟨_, rfl, ?_⟩
 replace hs10 := St.back [_, _, _] hs10
 refine WL.r 1 hs10 [] rfl (WL.st tbk hs10 0 rfl rfl (fun _ hs15 => WL.nil (WC.sr (WL.r 2 hs15 [2] rfl ?_))))
 refine WL.cl Tryz.call12 rfl (k3_ _ _ _ _ _ (SlF.st0 f_a.Part hs15) ?_) ?_
 · first | assumption | rfl | omega
 rintro _ whs16 ⟨A17, c18, L1_19, rfl, hs16, ho20⟩
 replace hs16 := hs15.callF hs16
 refine ⟨_, rfl, ?_⟩
 replace hs16 := St.back [_, _, _] hs16
 refine WL.r 1 hs16 [] rfl (WL.st tbk hs16 0 rfl rfl (fun _ hs21 => WL.nil (WC.sr (WL.r 1 hs21 [0] rfl (WL.st tbk hs21 1 rfl rfl (fun _ hs22 => WL.nil (WC.ret ?_)))))))
 refine retV1 rfl (resV.cellA tbk hs22 1 rfl rfl rfl rfl) ?_
 obtain ⟨L24, hs23, ho25⟩ := ownVpR.fl hs22 ho14 ho20
 have hs26 := (((hs23.fb b2).fb b4).fb b6)
 refine ⟨⟨a.State, a.Mark, SlD.of ho14, SlD.of ho20⟩, _, rfl, (St.keep1 (hs26.fr L24)), ?_, ?_⟩
 · exact (by exact ho25)
 · exact VpD.ext' rfl rfl rfl rfl
set_option maxHeartbeats 4000000 in
theorem k25_ (a : VpR) (b : VpR) (w : World) (f_a : okVpR 549755813888 w a) (f_b : okVpR 549755813888 w b) (hab : a.dat = b.dat) :
    Calls Tryz.prog 57 #[.agg #[i64 a.State, .bool a.Mark, .slice a.Args.A a.Args.n a.Args.c, .slice a.Part.A a.Part.n a.Part.c], .agg #[i64 b.State, .bool b.Mark, .slice b.Args.A b.Args.n b.Args.c, .slice b.Part.A b.Part.n b.Part.c]] w fun e w' => e = .returned (.bool true) ∧ St w [] [] w' := by
 have nb_a_Args := f_a.Args_n
 have nl_a_Args := f_a.Args.len
 have nb_a_Part := f_a.Part_n
 have nl_a_Part := f_a.Part.len
 have nb_b_Args := f_b.Args_n
 have nl_b_Args := f_b.Args.len
 have nb_b_Part := f_b.Part_n
 have nl_b_Part := f_b.Part.len
 have e_State : a.State = b.State := congrArg (fun d : VpD => d.State) hab
 have e_Mark : a.Mark = b.Mark := congrArg (fun d : VpD => d.Mark) hab
 have e_Args : a.Args.xs = b.Args.xs := congrArg (fun d : VpD => d.Args) hab
 have e_Part : a.Part.xs = b.Part.xs := congrArg (fun d : VpD => d.Part) hab
 refine enter 27 Tryz.func57 rfl Tryz.ntmps57 rfl rfl ?_
 have hs1 := St.init w
 refine WC.sr (WL.bx hs1 rfl (fun b2 _ hs3 => WL.bx hs3 rfl (fun b4 _ hs5 => WL.r 1 hs5 [] rfl (WL.nil (WC.seq (fun K6 hK6 => WC.r1 hs5 [1, 0] rfl (WC.condF rfl (by simp [e_State, e_Mark]) ?_)))))))
 refine WC.skip (hK6 _ _ (WC.seq (fun K8 hK8 => WC.r1 hs5 [1, 0] rfl (WC.condF rfl (by simp [e_State, e_Mark]) (WC.skip (hK8 _ _ (WC.seq (fun K10 hK10 => ?_))))))))
 refine WC.sr (WL.r 4 hs5 [1, 0] rfl (WL.cl Tryz.call33 rfl (k12_ _ _ _ _ _ _ _ _ _ (SlF.st0 f_a.Args hs5) (SlF.st0 f_b.Args hs5) ?_ ?_) ?_))
 iterate 2 first | assumption | rfl | omega
 rintro _ whs11 ⟨rfl, hs11⟩
 replace hs11 := hs5.call0 hs11
 refine ⟨_, rfl, WL.r 1 hs11 [] rfl (WL.nil (WC.condF rfl (by simp [e_State, e_Mark]) (WC.skip (hK10 _ _ (WC.seq (fun K13 hK13 => WC.sr ?_))))))⟩
 refine WL.r 4 hs11 [1, 0] rfl (WL.cl Tryz.call15 rfl (k4_ _ _ _ _ _ _ _ _ _ (SlF.st0 f_a.Part hs11) (SlF.st0 f_b.Part hs11) ?_ ?_) ?_)
 iterate 2 first | assumption | rfl | omega
 rintro _ whs14 ⟨rfl, hs14⟩
 replace hs14 := hs11.call0 hs14
 refine ⟨_, rfl, WL.r 1 hs14 [] rfl (WL.nil (WC.condF rfl (by simp [e_State, e_Mark]) (WC.skip (hK13 _ _ (WC.r1 hs14 [] rfl (WC.ret ?_))))))⟩
 refine rtv rfl rfl hs14 ?_
 rfl
set_option maxHeartbeats 4000000 in
theorem k26_ (a : VpR) (left : Int) (w : World) (f_a : okVpR 9223372036854775807 w a) (h1 : 0 ≤ left) (h2 : left ≤ 1048576) :
    Calls Tryz.prog 119 #[.agg #[i64 a.State, .bool a.Mark, .slice a.Args.A a.Args.n a.Args.c, .slice a.Part.A a.Part.n a.Part.c], i64 left] w fun e w' => e = .returned (.int .i64 (szR left (totVp a.dat))) ∧ St w [] [] w' := by
 have nb_a_Args := f_a.Args_n
 have nl_a_Args := f_a.Args.len
 have nb_a_Part := f_a.Part_n
 have nl_a_Part := f_a.Part.len
 refine enter 18 Tryz.func119 rfl Tryz.ntmps119 rfl rfl ?_
 have hs1 := St.init w
 refine WC.sr (WL.bx hs1 rfl (fun b2 _ hs3 => WL.r 1 hs3 [] rfl (WL.nil (WC.sr (WL.r 3 hs3 [0] rfl ?_)))))
 refine WL.cl Tryz.call61 rfl (k13_ _ _ _ _ _ _ (SlF.st0 f_a.Args hs3) ?_ ?_ ?_) ?_
 · first | assumption | omega
 · first | assumption | omega | exact szR_b (by assumption) (by omega) (by first | assumption | omega)
 · first | assumption | omega
 rintro _ whs4 ⟨rfl, hs4⟩
 replace hs4 := hs3.call0 hs4
 refine ⟨_, rfl, WL.r 1 hs4 [] rfl (WL.nil (WC.seq (fun K5 hK5 => WC.r1 hs4 [] rfl ?_)))⟩
 refine WC.cD rfl (fun qh6 => ?_) (fun qh6 => ?_)
 ·try have soh6 := szR_ok qh6 (by omega)
  try have sbh6 := szR_b qh6 (by omega) (by first | assumption | omega)
  try have snh6 := szR_no qh6
  refine WC.r1 hs4 [] rfl (WC.ret (tkR ?_))
  clear hK5
  refine rtv rfl rfl hs4 ?_
  simp only [totVp, VpR.dat] at *; first | (rw [szR_lt (by omega)]; done) | (refine congrArg (Value.int _) ?_; symm; refine (szR_le ?_).trans ?_ <;> omega) | rfl
 try have soh6 := szR_ok qh6 (by omega)
 try have sbh6 := szR_b qh6 (by omega) (by first | assumption | omega)
 try have snh6 := szR_no qh6
 refine WC.skip (hK5 _ _ (WC.sr (WL.r 3 hs4 [0] rfl ?_)))
 refine WL.cl Tryz.call202 rfl (k2_ _ _ _ _ _ _ (SlF.st0 f_a.Part hs4) ?_ ?_ ?_) ?_
 · first | assumption | omega
 · first | assumption | omega | exact szR_b (by assumption) (by omega) (by first | assumption | omega)
 · first | assumption | omega
 rintro _ whs7 ⟨rfl, hs7⟩
 replace hs7 := hs4.call0 hs7
 refine ⟨_, rfl, WL.r 1 hs7 [] rfl (WL.nil (WC.seq (fun K8 hK8 => WC.r1 hs7 [] rfl ?_)))⟩
 refine WC.cD rfl (fun qh9 => ?_) (fun qh9 => ?_)
 ·try have soh9 := szR_ok qh9 (by omega)
  try have sbh9 := szR_b qh9 (by omega) (by first | assumption | omega)
  try have snh9 := szR_no qh9
  refine WC.r1 hs7 [] rfl (WC.ret (tkR ?_))
  clear hK8
  refine rtv rfl rfl hs7 ?_
  simp only [totVp, VpR.dat] at *; first | (rw [szR_lt (by omega)]; done) | (refine congrArg (Value.int _) ?_; symm; refine (szR_le ?_).trans ?_ <;> omega) | rfl
 try have soh9 := szR_ok qh9 (by omega)
 try have sbh9 := szR_b qh9 (by omega) (by first | assumption | omega)
 try have snh9 := szR_no qh9
 refine WC.skip (hK8 _ _ (WC.r1 hs7 [] rfl (WC.ret (rtv rfl rfl hs7 ?_))))
 simp only [totVp, VpR.dat] at *; first | (rw [szR_lt (by omega)]; done) | (refine congrArg (Value.int _) ?_; symm; refine (szR_le ?_).trans ?_ <;> omega) | rfl
set_option maxHeartbeats 4000000 in
theorem k27_ (a : RowR) (w : World) (f_a : okRowR 549755813888 w a) :
    Calls Tryz.prog 149 #[.agg #[.slice a.Cells.A a.Cells.n a.Cells.c]] w fun e w' => ∃ r L1, e = .returned (.agg #[.slice r.Cells.A r.Cells.n r.Cells.c]) ∧ St w [] L1 w' ∧ ownRowR r L1 ∧ r.dat = a.dat := by
 have nb_a_Cells := f_a.Cells_n
 have nl_a_Cells := f_a.Cells.len
 refine enter 9 Tryz.func149 rfl Tryz.ntmps149 rfl rfl ?_
 have hs1 := St.init w
 refine WC.sr (WL.bx hs1 rfl (fun b2 _ hs3 => WL.al hs3 Tryz.zeroValue98 rfl rfl (fun b4 _ hs5 => WL.nil (WC.sr (WL.al hs5 Tryz.zeroValue98 rfl rfl (fun b6 _ hs7 => WL.nil (WC.sr ?_)))))))
 refine WL.r 2 hs7 [2] rfl (WL.cl Tryz.call148 rfl (k9_ _ _ _ _ _ (SlF.st0 f_a.Cells hs7) ?_) ?_)
 · first | assumption | rfl | omega
 rintro _ whs8 ⟨A9, c10, L1_11, rfl, hs8, ho12⟩
 replace hs8 := hs7.callF hs8
 refine ⟨_, rfl, ?_⟩
 replace hs8 := St.back [_, _, _] hs8
 refine WL.r 1 hs8 [] rfl (WL.st tbk hs8 0 rfl rfl (fun _ hs13 => WL.nil (WC.sr (WL.r 1 hs13 [0] rfl (WL.st tbk hs13 1 rfl rfl (fun _ hs14 => WL.nil (WC.ret ?_)))))))
 refine retV1 rfl (resV.cellA tbk hs14 1 rfl rfl rfl rfl) (⟨⟨SlD.of ho12⟩, _, rfl, (St.keep1 (hs14.fr L1_11)), ?_, ?_⟩)
 · exact ho12
 · exact RowD.ext' rfl
set_option maxHeartbeats 4000000 in
theorem k28_ (a : RowR) (b : RowR) (w : World) (f_a : okRowR 549755813888 w a) (f_b : okRowR 549755813888 w b) (hab : a.dat = b.dat) :
    Calls Tryz.prog 159 #[.agg #[.slice a.Cells.A a.Cells.n a.Cells.c], .agg #[.slice b.Cells.A b.Cells.n b.Cells.c]] w fun e w' => e = .returned (.bool true) ∧ St w [] [] w' := by
 have nb_a_Cells := f_a.Cells_n
 have nl_a_Cells := f_a.Cells.len
 have nb_b_Cells := f_b.Cells_n
 have nl_b_Cells := f_b.Cells.len
 have e_Cells : a.Cells.xs = b.Cells.xs := congrArg (fun d : RowD => d.Cells) hab
 refine enter 11 Tryz.func159 rfl Tryz.ntmps159 rfl rfl ?_
 have hs1 := St.init w
 refine WC.sr (WL.bx hs1 rfl (fun b2 _ hs3 => WL.bx hs3 rfl (fun b4 _ hs5 => WL.r 1 hs5 [] rfl (WL.nil (WC.seq (fun K6 hK6 => WC.sr (WL.r 4 hs5 [1, 0] rfl ?_)))))))
 refine WL.cl Tryz.call158 rfl (k10_ _ _ _ _ _ _ _ _ _ (SlF.st0 f_a.Cells hs5) (SlF.st0 f_b.Cells hs5) ?_ ?_) ?_
 iterate 2 first | assumption | rfl | omega
 rintro _ whs7 ⟨rfl, hs7⟩
 replace hs7 := hs5.call0 hs7
 refine ⟨_, rfl, WL.r 1 hs7 [] rfl (WL.nil (WC.condF rfl (by simp) (WC.skip (hK6 _ _ (WC.r1 hs7 [] rfl (WC.ret ?_))))))⟩
 refine rtv rfl rfl hs7 ?_
 rfl
set_option maxHeartbeats 4000000 in
theorem k29_ (a : RowR) (left : Int) (w : World) (f_a : okRowR 9223372036854775807 w a) (h1 : 0 ≤ left) (h2 : left ≤ 1048576) :
    Calls Tryz.prog 137 #[.agg #[.slice a.Cells.A a.Cells.n a.Cells.c], i64 left] w fun e w' => e = .returned (.int .i64 (szR left (totRow a.dat))) ∧ St w [] [] w' := by
 have nb_a_Cells := f_a.Cells_n
 have nl_a_Cells := f_a.Cells.len
 refine enter 12 Tryz.func137 rfl Tryz.ntmps137 rfl rfl ?_
 have hs1 := St.init w
 refine WC.sr (WL.bx hs1 rfl (fun b2 _ hs3 => WL.r 1 hs3 [] rfl (WL.nil (WC.sr (WL.r 3 hs3 [0] rfl ?_)))))
 refine WL.cl Tryz.call136 rfl (k11_ _ _ _ _ _ _ (SlF.st0 f_a.Cells hs3) ?_ ?_ ?_) ?_
 · first | assumption | omega
 · first | assumption | omega | exact szR_b (by assumption) (by omega) (by first | assumption | omega)
 · first | assumption | omega
 rintro _ whs4 ⟨rfl, hs4⟩
 replace hs4 := hs3.call0 hs4
 refine ⟨_, rfl, WL.r 1 hs4 [] rfl (WL.nil (WC.seq (fun K5 hK5 => WC.r1 hs4 [] rfl ?_)))⟩
 refine WC.cD rfl (fun qh6 => ?_) (fun qh6 => ?_)
 ·try have soh6 := szR_ok qh6 (by omega)
  try have sbh6 := szR_b qh6 (by omega) (by first | assumption | omega)
  try have snh6 := szR_no qh6
  refine WC.r1 hs4 [] rfl (WC.ret (tkR ?_))
  clear hK5
  refine rtv rfl rfl hs4 ?_
  simp only [totRow, RowR.dat] at *; first | (rw [szR_lt (by omega)]; done) | (refine congrArg (Value.int _) ?_; symm; refine (szR_le ?_).trans ?_ <;> omega) | rfl
 try have soh6 := szR_ok qh6 (by omega)
 try have sbh6 := szR_b qh6 (by omega) (by first | assumption | omega)
 try have snh6 := szR_no qh6
 refine WC.skip (hK5 _ _ (WC.r1 hs4 [] rfl (WC.ret (rtv rfl rfl hs4 ?_))))
 simp only [totRow, RowR.dat] at *; first | (rw [szR_lt (by omega)]; done) | (refine congrArg (Value.int _) ?_; symm; refine (szR_le ?_).trans ?_ <;> omega) | rfl
theorem inf98 : Tryz.prog.info? 98 = some Tryz.t98 := by kernel_rfl
theorem k30_ (A_a : Option Addr) (n_a c_a : Nat) (a : List RowR) (left : Int) (w : World) (f_a : SlN encRowR (okRowR 9223372036854775807) w A_a n_a a) (h1 : 0 ≤ left) (h2 : left ≤ 1048576) (h3 : n_a ≤ 9223372036854775807) :
    Calls Tryz.prog 62 #[.slice A_a n_a c_a, i64 left] w fun e w' => e = .returned (.int .i64 (szR left (tots totRow (a.map RowR.dat)))) ∧ St w [] [] w' := by
 have hl := f_a.sl.len
 have hT : (tots totRow (a.map RowR.dat) : Int) = n_a + (a.map (fun x => totRow (RowR.dat x))).sum := by rw [tots_map, hl]; omega
 refine enter 27 Tryz.func62 rfl Tryz.ntmps62 rfl rfl ?_
 have hs1 := St.init w
 refine WC.r1 hs1 [] rfl (WC.r1 hs1 [] rfl (WC.seq (fun K2 hK2 => WC.r1 hs1 [] rfl ?_)))
 refine WC.cD rfl (fun qh3 => ?_) (fun qh3 => ?_)
 ·refine WC.r1 hs1 [] rfl (WC.ret (tkR ?_))
  clear hK2
  refine rtv rfl rfl hs1 ?_
  rw [szR_lt (by omega)]
 refine WC.skip (hK2 _ _ (WC.seq (fun K4 hK4 => WC.r1 hs1 [] rfl (WC.block ?_))))
 refine WC.lS [0, 11] rfl hs1 (fun k_ f w' => ∃ (i : Nat) (q : Int), k_ = n_a - i ∧ (i ≤ n_a) ∧ (0 ≤ q) ∧ (q + n_a + ((a.take i).map (fun x => totRow (RowR.dat x))).sum = left) ∧ Sub [(5, .int .i64 i), (1, .int .i64 q)] f) ((fun (i : Nat) (q : Int) => n_a - i) (0) ((left - n_a))) ?_ ?_
 ·refine ⟨0, (left - n_a), rfl, ?_, ?_, ?_, ⟨rfl, rfl, trivial⟩⟩
  · exact Nat.zero_le _
  · omega
  · simp
 clear hs1
 rintro _ f w ⟨i, q, rfl, p0, p1, p2, hG⟩ hF hs5
 refine WC.sub _ (hG.app hF) ?_
 clear hG hF
 refine WC.seq (fun K6 hK6 => WC.r1 hs5 [] rfl ?_)
 refine WC.cD rfl (fun qh7 => ?_) (fun qh7 => ?_)
 ·have hs1 := sum_take (F := encRowR) (f := (fun x => totRow (RowR.dat x))) (l := a) (i := i) (by omega)
  have hs2 := sum_take_le (f := (fun x => totRow (RowR.dat x))) a (i + 1)
  refine WC.skip (hK6 _ _ (WC.seq (fun K8 hK8 => WC.block (WC.sr (WL.r 2 hs5 [] rfl ?_)))))
  refine WL.val rfl rfl rfl (Run.idxN Tryz.runUnderlying48 Tryz.sizeOf172 rfl rfl rfl ?_ ?_ ?_) ?_
  · exact SlF.some_ (SlF.st0 f_a.sl hs5)
  · omega
  · omega
  refine WL.val rfl rfl rfl (Run.loadA Tryz.isAgg172 Tryz.sizeOf172 rfl rfl (SlF.whole (SlF.st0 f_a.sl hs5) ?_)) ?_
  · omega
  refine WL.r 1 hs5 [] rfl (WL.cl Tryz.call137 rfl (k29_ (gat encRowR a i) _ _ (okRowR.st0 (SlN.nth f_a (by omega)) hs5) ?_ ?_) ?_)
  · first | assumption | omega
  · first | assumption | omega | exact szR_b (by assumption) (by omega) (by first | assumption | omega)
  rintro _ whs9 ⟨rfl, hs9⟩
  replace hs9 := hs5.call0 hs9
  refine ⟨_, rfl, WL.r 1 hs9 [] rfl (WL.nil (WC.r1 hs9 [] rfl (WC.cD rfl (fun qh10 => ?_) (fun qh10 => ?_))))⟩
  ·refine WC.r1 hs9 [] rfl (WC.ret (ibR (tkR (tkR (ibR (tkR ?_))))))
   clear hK8 hK4
   refine rtv rfl rfl hs9 ?_
   have h9 := szR_no qh10
   rw [szR_lt (by omega)]
  refine WC.skip (hK8 _ _ (WC.region (WL.r 3 hs9 [] rfl (WL.nil (tkN ?_)))))
  refine ⟨sbF rfl, hs9, _, ?_, i + 1, _, rfl, ?_, ?_, ?_, ⟨rfl, rfl, trivial⟩⟩
  · omega
  · omega
  · omega
  · have h9 := szR_ok qh10 (Int.natCast_nonneg _); omega
 refine WC.exit (hK4 _ _ (WC.r1 hs5 [] rfl (WC.ret (rtv rfl rfl hs5 ?_))))
 have h9 : a.take i = a := List.take_of_length_le (by omega)
 rw [h9] at p2
 rw [szR_le (by omega)]
 congr 1; omega
theorem k31_ (A_a : Option Addr) (n_a c_a : Nat) (a : List RowR) (A_b : Option Addr) (n_b c_b : Nat) (b : List RowR) (w : World) (f_a : SlN encRowR (okRowR 549755813888) w A_a n_a a) (f_b : SlN encRowR (okRowR 549755813888) w A_b n_b b) (hn : n_a ≤ 549755813888) (hab : a.map RowR.dat = b.map RowR.dat) :
    Calls Tryz.prog 79 #[.slice A_a n_a c_a, .slice A_b n_b c_b] w fun e w' => e = .returned (.bool true) ∧ St w [] [] w' := by
 have hla := f_a.sl.len
 obtain rfl : n_a = n_b := by have h9 := congrArg List.length hab; simp only [List.length_map] at h9; rw [← hla, h9]; exact f_b.sl.len
 refine enter 27 Tryz.func79 rfl Tryz.ntmps79 rfl rfl ?_
 have hs1 := St.init w
 refine WC.r1 hs1 [] rfl (WC.seq (fun K2 hK2 => WC.r1 hs1 [] rfl (WC.condF rfl (by simp) (WC.skip (hK2 _ _ (WC.seq (fun K4 hK4 => WC.r1 hs1 [] rfl ?_)))))))
 refine WC.block (WC.lS [0, 1, 10] rfl hs1 (fun k_ f w' => ∃ (i : Nat), k_ = n_a - i ∧ (i ≤ n_a) ∧ Sub [(5, .int .i64 i)] f) ((fun (i : Nat) => n_a - i) (0)) ?_ ?_)
 ·refine ⟨0, rfl, ?_, ⟨rfl, trivial⟩⟩
  · exact Nat.zero_le _
 clear hs1
 rintro _ f w ⟨i, rfl, p0, hG⟩ hF hs5
 refine WC.sub _ (hG.app hF) ?_
 clear hG hF
 refine WC.seq (fun K6 hK6 => WC.r1 hs5 [] rfl ?_)
 refine WC.cD rfl (fun qh7 => ?_) (fun qh7 => ?_)
 ·have hab_ := gat_dat (F := encRowR) (i := i) hab (by omega)
  refine WC.skip (hK6 _ _ (WC.seq (fun K8 hK8 => WC.block (WC.sq1 hs5 (WQ.r 2 [] rfl ?_)))))
  refine WQ.val rfl rfl rfl (fun w_ hs_ => (Run.idxN Tryz.runUnderlying31 Tryz.sizeOf98 rfl rfl rfl ?_ ?_ ?_)) ?_
  · exact SlF.some_ (SlF.st0 f_a.sl (hs_ : St _ _ _ _))
  · omega
  · omega
  refine WQ.val rfl rfl rfl (fun w_ hs_ => (Run.loadA Tryz.isAgg98 Tryz.sizeOf98 rfl rfl (SlF.whole (SlF.st0 f_a.sl (hs_ : St _ _ _ _)) ?_))) ?_
  · omega
  refine WQ.r 2 [] rfl ?_
  refine WQ.val rfl rfl rfl (fun w_ hs_ => (Run.idxN Tryz.runUnderlying31 Tryz.sizeOf98 rfl rfl rfl ?_ ?_ ?_)) ?_
  · exact SlF.some_ (SlF.st0 f_b.sl (hs_ : St _ _ _ _))
  · omega
  · omega
  refine WQ.val rfl rfl rfl (fun w_ hs_ => (Run.loadA Tryz.isAgg98 Tryz.sizeOf98 rfl rfl (SlF.whole (SlF.st0 f_b.sl (hs_ : St _ _ _ _)) ?_))) ?_
  · omega
  refine WQ.call rfl rfl rfl (fun w_ hs_ => (Run.call Tryz.call159 rfl rfl rfl)) (fun w_ hs_ => (k28_ (gat encRowR a i) (gat encRowR b i) _ (okRowR.st0 (SlN.nth f_a (by omega)) (hs_ : St _ _ _ _)) (okRowR.st0 (SlN.nth f_b (by omega)) (hs_ : St _ _ _ _)) ?_).mono fun e_ w_ h_ => ⟨h_.1, (hs_ : St _ _ _ _).call0 h_.2⟩) ?_
  · first | assumption | rfl | omega
  refine WQ.r 1 [] rfl (WQ.nil (fun _ (hs9 : St _ _ _ _) => WC.condF rfl (by simp) (WC.skip (hK8 _ _ (WC.region (WL.r 3 hs9 [] rfl (WL.nil ?_)))))))
  refine tkN (⟨sbF rfl, hs9, _, ?_, i + 1, rfl, ?_, ⟨rfl, trivial⟩⟩)
  · omega
  · omega
 refine WC.exit (hK4 _ _ (WC.r1 hs5 [] rfl (WC.ret (rtv rfl rfl hs5 ?_))))
 rfl
theorem k32_ (A_a : Option Addr) (n_a c_a : Nat) (a : List RowR) (w : World) (f_a : SlN encRowR (okRowR 549755813888) w A_a n_a a) (hn : n_a ≤ 549755813888) :
    Calls Tryz.prog 73 #[.slice A_a n_a c_a] w fun e w' => ∃ A c xs L1, e = .returned (.slice A n_a c) ∧ St w [] L1 w' ∧ OwnN encRowR ownRowR 98 (.slice A n_a c) xs L1 ∧ xs.map RowR.dat = a.map RowR.dat := by
 have hl := f_a.sl.len
 refine enter 23 Tryz.func73 rfl Tryz.ntmps73 rfl rfl ?_
 have hs1 := St.init w
 refine WC.r1 hs1 [] rfl (WC.sr (WL.r 2 hs1 [] rfl (WL.makeF (F := encRowR) hs1 Tryz.underlying31 inf98 rfl rfl rfl rfl rfl rfl rfl rfl rfl ?_ ?_ (fun A5 c6 L2 whs3 hs3 ho4 => ?_))))
 · have e_ : Tryz.t98.bytes = 24 := rfl
   rw [e_]; omega
 · omega
 obtain ⟨L7, hs8, ho9⟩ := OwnN.new (own := ownRowR) hs3 ho4 (OwnF.nil _ _)
 refine WL.r 1 hs8 [] rfl (WL.nil (WC.seq (fun K10 hK10 => WC.r1 hs8 [] rfl (WC.block ?_))))
 refine WC.lO [0, 2] rfl hs8 (fun k_ f L_ => ∃ (i : Nat) (ys : List RowR) (A11 : Option Addr) (c12 : Nat), k_ = n_a - i ∧ (i ≤ n_a) ∧ (ys.length = i) ∧ (ys.map RowR.dat = (a.take i).map RowR.dat) ∧ OwnN encRowR ownRowR 98 (.slice A11 (n_a) c12) (ys ++ List.replicate (n_a - i) encRowR.dflt) L_ ∧ Sub [(3, .slice A11 (n_a) c12), (4, .int .i64 i)] f) (((fun (i : Nat) (ys : List RowR) => n_a - i) (0) ([]))) ?_ ?_
 ·refine ⟨0, [], _, _, rfl, ?_, ?_, ?_, (by simpa using ho9), ⟨rfl, rfl, trivial⟩⟩
  · exact Nat.zero_le _
  · rfl
  · rfl
 clear hs8
 rintro _ f w L13 ⟨i, ys, A11, c12, rfl, p0, p1, p2, ho14, hG⟩ hF hs15
 refine WC.sub _ (hG.app hF) ?_
 clear hG hF
 have hlen : (ys ++ List.replicate (n_a - i) encRowR.dflt).length = n_a := by simp; omega
 refine WC.seq (fun K16 hK16 => WC.r1 hs15 [] rfl ?_)
 refine WC.cq rfl (fun h17 qh17 => ?_) (fun h17 qh17 => ?_)
 ·refine WC.skip (hK16 _ _ (WC.seq (fun K18 hK18 => WC.block (WC.region (WL.r 4 hs15 [] rfl ?_)))))
  refine WL.val rfl rfl rfl (Run.idxN Tryz.runUnderlying48 Tryz.sizeOf172 rfl rfl rfl ?_ ?_ ?_) ?_
  · exact SlF.some_ (SlF.st0 f_a.sl hs15)
  · omega
  · omega
  refine WL.val rfl rfl rfl (Run.loadA Tryz.isAgg172 Tryz.sizeOf172 rfl rfl (SlF.whole (SlF.st0 f_a.sl hs15) ?_)) ?_
  · omega
  refine WL.cl Tryz.call149 rfl (k27_ (gat encRowR a i) _ (okRowR.st0 (SlN.nth f_a (by omega)) hs15)) ?_
  rintro _ whs19 ⟨r20, L1_21, rfl, hs19, ho22, hd23⟩
  replace hs19 := hs15.callF hs19
  refine ⟨_, rfl, WL.val rfl rfl rfl (Run.idxN Tryz.runUnderlying31 Tryz.sizeOf98 rfl rfl rfl ?_ ?_ ?_) ?_⟩
  · exact SlF.some_ (OwnN.sl ho14 (hs19.ow L13))
  · omega
  · omega
  obtain ⟨L24, L25, hs28, ho26, ho27⟩ := OwnN.open_ (hs19.fr L13) ho14
  refine WL.storeF1 (x' := r20) hs28 ho26 Tryz.sizeOf98 rfl rfl rfl rfl rfl rfl rfl rfl rfl ?_ rfl (fun L29 whs30 hs30 ho31 _ => ?_)
  · omega
  obtain ⟨L32, hs34, hb33⟩ := Bag.replace (r := r20) (i := i) ((hs30.fr L1_21).fr L25) ho27 (by omega) ho22
  refine WL.nil (hK18 _ _ (WC.region (WL.r 3 hs34 [] rfl (WL.nil (tkN ?_)))))
  obtain ⟨L36, hs35, ho37⟩ := OwnN.fold (hs34.fr L29) ho31 hb33
  rw [set_at p1 (by omega)] at ho37
  refine ⟨sbF rfl, _, hs35, _, ?_, i + 1, (ys ++ [r20]), _, _, rfl, ?_, ?_, ?_, ho37, ⟨rfl, rfl, trivial⟩⟩
  · omega
  · omega
  · simp; omega
  · rw [List.map_append, p2, map_take_succ (F := encRowR) (by omega)]; congr 1 <;> simp only [List.map_cons, List.map_nil] <;> congr 1 <;> assumption
 refine WC.exit (hK10 _ _ (WC.r1 hs15 [] rfl (WC.ret (retV1 rfl (resV.tmp rfl) ?_))))
 have hi_ : i = n_a := by omega
 subst hi_
 have hx_ := ho14
 simp only [Nat.sub_self, List.replicate_zero, List.append_nil] at hx_
 exact ⟨_, _, ys, _, rfl, (St.keep1 hs15), hx_, by rw [p2, List.take_of_length_le (by omega)]⟩
theorem k33_ (v_a : Value) (a : List RowR) (L_a : Hp) (k : Int) (w : World) (o_a : OwnN encRowR ownRowR 98 v_a a L_a) (h_a : Hh w L_a) (hd_ : ((L_a).map (·.1)).Nodup) (h1 : 0 ≤ k) (h2 : k + cnts cntERow a ≤ 549755813888) (h3 : a.length ≤ 549755813888) :
    Calls Tryz.prog 81 #[v_a, i64 k] w fun e w' => ∃ L1, e = .returned (.int .i64 (k + cnts cntERow a)) ∧ St w (L_a.map (·.1)) L1 w' ∧ OwnN encRowR ownRowR 98 v_a (mrks mkERow cntERow k a) L1 := by
 obtain ⟨A_a, c_a, rfl⟩ := o_a.shape
 have hcn : ∀ x, 0 ≤ cntERow x := fun x => by simp only [cntERow]; omega
 refine enter 20 Tryz.func81 rfl Tryz.ntmps81 rfl rfl ?_
 have hs1 := St.takes1 w L_a h_a hd_
 refine WC.r1 hs1 [] rfl (WC.seq (fun K2 hK2 => WC.r1 hs1 [] rfl (WC.block ?_)))
 refine WC.lO [4] rfl hs1 (fun k_ f L_ => ∃ (i : Nat), k_ = a.length - i ∧ (i ≤ a.length) ∧ OwnN encRowR ownRowR 98 (.slice A_a (a.length) c_a) (mrkTo mkERow cntERow k a i) L_ ∧ Sub [(0, .slice A_a (a.length) c_a), (5, .int .i64 i), (1, .int .i64 (k + cnts cntERow (a.take i)))] f) (((fun (i : Nat) => a.length - i) (0))) ?_ ?_
 ·refine ⟨0, rfl, ?_, (mrkTo_zero.symm ▸ o_a), ⟨rfl, rfl, ?_, trivial⟩⟩
  · exact Nat.zero_le _
  · (refine congrArg some (congrArg (Value.int _) ?_); simp [cnts])
 clear hs1
 rintro _ f w L5 ⟨i, rfl, p0, ho6, hG⟩ hF hs7
 refine WC.sub _ (hG.app hF) ?_
 clear hG hF
 have hfl : (mrkTo mkERow cntERow k a i).length = a.length := mrkTo_len p0
 have hq0 := cnts_nonneg (c := cntERow) hcn (a.take i)
 have hq1 := cnts_take_le hcn a i
 refine WC.seq (fun K8 hK8 => WC.r1 hs7 [] rfl ?_)
 refine WC.cq rfl (fun h9 qh9 => ?_) (fun h9 qh9 => ?_)
 ·have hg := mrkTo_gat (mk := mkERow) (c := cntERow) (F := encRowR) (k := k) (xs := a) (i := i) (by omega)
  have hq2 := cnts_take (c := cntERow) (F := encRowR) (xs := a) (i := i) (by omega)
  have hq3 := cnts_take_le hcn a (i + 1)
  have hq4 := hq2
  simp only [cntERow, ← hg] at hq4
  have hgn : (gat encRowR (mrkTo mkERow cntERow k a i) i) = gat encRowR a i := hg
  refine WC.skip (hK8 _ _ (WC.seq (fun K10 hK10 => WC.block (WC.region (WL.r 2 hs7 [] rfl ?_)))))
  refine WL.val rfl rfl rfl (Run.idxN Tryz.runUnderlying31 Tryz.sizeOf98 rfl rfl rfl ?_ ?_ ?_) ?_
  · exact SlF.some_ (OwnN.sl ho6 (hs7.ow L5))
  · omega
  · omega
  refine WL.val rfl rfl rfl (Run.fieldO Tryz.runUnderlying98 rfl rfl rfl Tryz.sizeOf26 rfl) (WL.val rfl rfl rfl (Run.load Tryz.isAgg26 rfl rfl (SlF.fld (OwnN.sl ho6 (hs7.ow L5)) ?_ rfl)) ?_)
  · omega
  refine WL.r 1 hs7 [] rfl ?_
  obtain ⟨L12, L13, hs16, ho14, ho15⟩ := OwnN.open_ hs7 ho6
  obtain ⟨L17, L18, L19, hs20, ho21, hp22⟩ := Bag.out (F := encRowR) (i := i) (hs16.fr L13) ho15 (by rw [mrkTo_len (by omega)]; omega)
  refine WL.cl Tryz.call160 rfl (k17_ _ _ _ _ _ ho21 (hs20.ow L18) ?_ ?_ ?_) ?_
  iterate 3 first | assumption | rfl | omega
  rintro _ whs11 ⟨L1_23, rfl, hs11, ho24⟩
  replace hs11 := St.lend hs20 hs11
  refine ⟨_, rfl, WL.r 1 hs11 [] rfl (WL.nil (hK10 _ _ (WC.region (WL.r 3 hs11 [] rfl (WL.nil (tkN ?_))))))⟩
  obtain ⟨L25, hs26, hb27⟩ := hp22 (mkERow (k + cnts cntERow (a.take i)) (gat encRowR a i)) _ ((hs11.fr (L17 ++ L19)).fr L1_23) (by have h_ := ho24; first | exact h_ | (simp only [hg] at h_; exact h_))
  rw [mrkTo_set (F := encRowR) (by omega) rfl] at hb27
  have ho28 := OwnF.recast (ys := mrkTo mkERow cntERow k a (i + 1)) ho14 (by rw [mrkTo_len (by omega)]; (try simp only [List.length_set]); exact hfl.symm) (by rw [← mrkTo_set (F := encRowR) (i := i) (by omega) rfl]; exact rows_set_eq (by rw [mrkTo_len (by omega)]; omega) (by rw [hg]; rfl))
  obtain ⟨L30, hs29, ho31⟩ := OwnN.fold (hs26.fr L12) ho28 hb27
  refine ⟨sbF rfl, _, hs29, _, ?_, i + 1, rfl, ?_, ho31, ⟨rfl, rfl, ?_, trivial⟩⟩
  · omega
  · omega
  · (refine congrArg some (congrArg (Value.int _) ?_); rw [cnts_take (F := encRowR) (by omega)]; simp only [cntERow, hg]; omega)
 refine WC.exit (hK2 _ _ (WC.r1 hs7 [] rfl (WC.ret (retV1 rfl (resV.tmp rfl) ?_))))
 have hi_ : i = a.length := by omega
 have hx_ := ho6
 rw [mrkTo_full (by omega)] at hx_
 refine ⟨_, ?_, (St.keep1 hs7), hx_⟩
 rw [hi_, List.take_of_length_le (Nat.le_refl _)]
theorem k34_ (A_a : Option Addr) (n_a c_a : Nat) (a : List RowR) (k : Int) (w : World) (f_a : SlN encRowR (okRowR 549755813888) w A_a n_a (mrks mkERow cntERow k a)) (h1 : 0 ≤ k) (h2 : k + cnts cntERow a ≤ 549755813888) (h3 : n_a ≤ 549755813888) :
    Calls Tryz.prog 84 #[.slice A_a n_a c_a, i64 k] w fun e w' => e = .returned (.int .i64 (k + cnts cntERow a)) ∧ St w [] [] w' := by
 have hl : a.length = n_a := by have h_ := f_a.sl.len; simpa [mrks_len] using h_
 have hcn : ∀ x, 0 ≤ cntERow x := fun x => by simp only [cntERow]; omega
 refine enter 22 Tryz.func84 rfl Tryz.ntmps84 rfl rfl ?_
 have hs1 := St.init w
 refine WC.r1 hs1 [] rfl (WC.seq (fun K2 hK2 => WC.r1 hs1 [] rfl (WC.block ?_)))
 refine WC.lS [0] rfl hs1 (fun k_ f w' => ∃ (i : Nat), k_ = n_a - i ∧ (i ≤ n_a) ∧ Sub [(5, .int .i64 i), (1, .int .i64 (k + cnts cntERow (a.take i)))] f) ((fun (i : Nat) => n_a - i) (0)) ?_ ?_
 ·refine ⟨0, rfl, ?_, ⟨rfl, ?_, trivial⟩⟩
  · exact Nat.zero_le _
  · (refine congrArg some (congrArg (Value.int _) ?_); simp [cnts])
 clear hs1
 rintro _ f w ⟨i, rfl, p0, hG⟩ hF hs3
 refine WC.sub _ (hG.app hF) ?_
 clear hG hF
 have hq0 := cnts_nonneg (c := cntERow) hcn (a.take i)
 have hq1 := cnts_take_le hcn a i
 refine WC.seq (fun K4 hK4 => WC.r1 hs3 [] rfl ?_)
 refine WC.cD rfl (fun qh5 => ?_) (fun qh5 => ?_)
 ·have hg := mrks_gat (mk := mkERow) (c := cntERow) (F := encRowR) (k := k) (xs := a) (i := i) (by omega)
  have hq2 := cnts_take (c := cntERow) (F := encRowR) (xs := a) (i := i) (by omega)
  have hq3 := cnts_take_le hcn a (i + 1)
  simp only [cntERow] at hq2
  have hng := (SlN.nth f_a (show i < n_a by omega))
  rw [hg] at hng
  have hnl_Cells := hng.Cells.len
  have hnn_Cells := hng.Cells_n
  simp only [mkERow, marks_len, mrks_len] at hnl_Cells hnn_Cells
  have hgn_Cells : (gat encRowR (mrks mkERow cntERow k a) i).Cells.n = (gat encRowR a i).Cells.n := by rw [hg]; rfl
  have hm_Cells : (gat encRowR (mrks mkERow cntERow k a) i).Cells.xs = marks mkCell 6 (k + cnts cntERow (a.take i)) (gat encRowR a i).Cells.xs.length := by rw [hg]; rfl
  refine WC.skip (hK4 _ _ (WC.seq (fun K6 hK6 => WC.block (WC.sr (WL.r 2 hs3 [] rfl ?_)))))
  refine WL.val rfl rfl rfl (Run.idxN Tryz.runUnderlying31 Tryz.sizeOf98 rfl rfl rfl ?_ ?_ ?_) ?_
  · exact SlF.some_ (SlF.st0 f_a.sl hs3)
  · omega
  · omega
  refine WL.val rfl rfl rfl (Run.fieldO Tryz.runUnderlying98 rfl rfl rfl Tryz.sizeOf26 rfl) (WL.val rfl rfl rfl (Run.load Tryz.isAgg26 rfl rfl (SlF.fld (SlF.st0 f_a.sl hs3) ?_ rfl)) ?_)
  · omega
  refine WL.r 1 hs3 [] rfl (WL.cl Tryz.call161 rfl (k18_ _ _ _ _ _ _ _ (SlF.st0 (SlN.nth f_a (by omega)).Cells hs3) hm_Cells ?_ ?_ ?_) ?_)
  iterate 3 first | assumption | rfl | omega
  rintro _ whs7 ⟨rfl, hs7⟩
  replace hs7 := hs3.call0 hs7
  refine ⟨_, rfl, WL.r 1 hs7 [] rfl (WL.nil (WC.r1 hs7 [] rfl ?_))⟩
  refine WC.condF rfl (by first | (simp [hg, mkERow]; done) | (simp [hg, mkERow]; omega)) (WC.skip (hK6 _ _ (WC.region (WL.r 3 hs7 [] rfl (WL.nil (tkN ?_))))))
  refine ⟨sbF rfl, hs7, _, ?_, i + 1, rfl, ?_, ⟨rfl, ?_, trivial⟩⟩
  · omega
  · omega
  · (refine congrArg some (congrArg (Value.int _) ?_); rw [cnts_take (F := encRowR) (by omega)]; simp only [cntERow]; omega)
 refine WC.exit (hK2 _ _ (WC.r1 hs3 [] rfl (WC.ret (rtv rfl rfl hs3 ?_))))
 rw [show i = a.length from by omega, List.take_of_length_le (Nat.le_refl _)]
set_option maxHeartbeats 4000000 in
theorem k35_ (a : GridR) (L_a : Hp) (k : Int) (w : World) (o_a : ownGridR a L_a) (h_a : Hh w L_a) (hd_ : ((L_a).map (·.1)).Nodup) (h1 : 0 ≤ k) (h2 : endGrid k a ≤ 549755813888) :
    Calls Tryz.prog 80 #[.agg #[i64 a.W, i64 a.H, .slice a.Cells.A a.Cells.n a.Cells.c], i64 k] w fun e w' => ∃ L1, e = .returned (.int .i64 (endGrid k a)) ∧ St w (L_a.map (·.1)) L1 w' ∧ ownGridR (markGrid k a) L1 := by
 have hq2 := h2
 simp only [endGrid] at hq2
 refine enter 10 Tryz.func80 rfl Tryz.ntmps80 rfl rfl ?_
 have hs1 := St.takes1 w L_a h_a hd_
 refine WC.sr (WL.bx hs1 rfl (fun b2 _ hs3 => WL.r 1 hs3 [] rfl (WL.nil (WC.sr (WL.r 3 hs3 [0] rfl ?_)))))
 refine WL.cl Tryz.call160 rfl (k17_ _ _ _ _ _ o_a (hs3.ow L_a) ?_ ?_ ?_) ?_
 iterate 3 first | assumption | rfl | omega | (simp only [endGrid]; omega)
 rintro _ whs4 ⟨L1_5, rfl, hs4, ho6⟩
 replace hs4 := St.lend (hs3.fr L_a) hs4
 refine ⟨_, rfl, ?_⟩
 replace hs4 := St.back [_] hs4
 refine WL.r 1 hs4 [] rfl (WL.nil (WC.r1 hs4 [] rfl (WC.ret (retV1 rfl (resV.tmp rfl) (⟨_, congrArg Ending.returned ?_, (St.keep1 (hs4.fr L1_5)), ho6⟩)))))
 first | rfl | (simp [endGrid]; done) | (simp [endGrid]; omega)
set_option maxHeartbeats 4000000 in
theorem k36_ (a : GridR) (k : Int) (w : World) (f_a : okGridR 549755813888 w (markGrid k a)) (h1 : 0 ≤ k) (h2 : endGrid k a ≤ 549755813888) :
    Calls Tryz.prog 82 #[.agg #[i64 a.W, i64 a.H, .slice a.Cells.A a.Cells.n a.Cells.c], i64 k] w fun e w' => e = .returned (.int .i64 (endGrid k a)) ∧ St w [] [] w' := by
 have nb_Cells : a.Cells.n ≤ 549755813888 := f_a.Cells_n
 have nl_Cells : a.Cells.xs.length = a.Cells.n := by have h_ := f_a.Cells.len; simpa [markGrid, marks_len, mrks_len] using h_
 have nb_Cells : a.Cells.n ≤ 549755813888 := f_a.Cells_n
 have nl_Cells : a.Cells.xs.length = a.Cells.n := by have h_ := f_a.Cells.len; simpa [markGrid, marks_len, mrks_len] using h_
 have hq2 := h2
 simp only [endGrid] at hq2
 refine enter 12 Tryz.func82 rfl Tryz.ntmps82 rfl rfl ?_
 have hs1 := St.init w
 refine WC.sr (WL.bx hs1 rfl (fun b2 _ hs3 => WL.r 1 hs3 [] rfl (WL.nil (WC.sr (WL.r 3 hs3 [0] rfl ?_)))))
 refine WL.cl Tryz.call161 rfl (k18_ _ _ _ _ _ _ _ (SlF.st0 f_a.Cells hs3) rfl ?_ ?_ ?_) ?_
 iterate 3 first | assumption | rfl | omega | (simp only [endGrid]; omega)
 rintro _ whs4 ⟨rfl, hs4⟩
 replace hs4 := hs3.call0 hs4
 refine ⟨_, rfl, WL.r 1 hs4 [] rfl (WL.nil (WC.seq (fun K5 hK5 => WC.r1 hs4 [] rfl ?_)))⟩
 refine WC.condF rfl (by first | (simp; omega) | (rw [decide_eq_false_iff_not]; simp only [endGrid]; omega)) (WC.skip (hK5 _ _ (WC.r1 hs4 [] rfl (WC.ret (rtv rfl rfl hs4 ?_)))))
 first | rfl | (simp [endGrid, *]; done) | (simp [endGrid, *]; omega)
set_option maxHeartbeats 4000000 in
theorem k37_ (a : VpR) (L_a : Hp) (k : Int) (w : World) (o_a : ownVpR a L_a) (h_a : Hh w L_a) (hd_ : ((L_a).map (·.1)).Nodup) (h1 : 0 ≤ k) (h2 : endVp k a ≤ 549755813888) :
    Calls Tryz.prog 58 #[.agg #[i64 a.State, .bool a.Mark, .slice a.Args.A a.Args.n a.Args.c, .slice a.Part.A a.Part.n a.Part.c], i64 k] w fun e w' => ∃ L1, e = .returned (.int .i64 (endVp k a)) ∧ St w (L_a.map (·.1)) L1 w' ∧ ownVpR (markVp k a) L1 := by
 have hq2 := h2
 simp only [endVp] at hq2
 refine enter 14 Tryz.func58 rfl Tryz.ntmps58 rfl rfl ?_
 have hs1 := St.takes1 w L_a h_a hd_
 refine WC.sr (WL.bx hs1 rfl (fun b2 _ hs3 => WL.r 1 hs3 [] rfl (WL.nil (WC.sr (WL.r 3 hs3 [0] rfl ?_)))))
 obtain ⟨L5, L6, hs9, ho7, ho8⟩ := ownVpR.op hs3 o_a
 have hs10 := (hs9.fb b2)
 refine WL.cl Tryz.call34 rfl (k19_ _ _ _ _ _ ho7 (hs10.ow L5) ?_ ?_ ?_) ?_
 iterate 3 first | assumption | rfl | omega | (simp only [endVp]; omega)
 rintro _ whs4 ⟨L1_11, rfl, hs4, ho12⟩
 replace hs4 := St.lend (hs10.fr L5) hs4
 refine ⟨_, rfl, ?_⟩
 replace hs4 := St.back [_] hs4
 refine WL.r 1 hs4 [] rfl (WL.nil (WC.sr (WL.r 3 hs4 [0] rfl (WL.cl Tryz.call16 rfl (k15_ _ _ _ _ _ ho8 (hs4.ow L6) ?_ ?_ ?_) ?_))))
 iterate 3 first | assumption | rfl | omega | (simp only [endVp]; omega)
 rintro _ whs13 ⟨L1_14, rfl, hs13, ho15⟩
 replace hs13 := St.lend (hs4.fr L6) hs13
 refine ⟨_, rfl, ?_⟩
 replace hs13 := St.back [_] hs13
 refine WL.r 1 hs13 [] rfl (WL.nil (WC.r1 hs13 [] rfl (WC.ret (retV1 rfl (resV.tmp rfl) ?_))))
 obtain ⟨L17, hs16, ho18⟩ := ownVpR.fl hs13 ho12 ho15
 have hs19 := (hs16.fb b2)
 refine ⟨_, congrArg Ending.returned ?_, (St.keep1 (hs19.fr L17)), (by exact ho18)⟩
 first | rfl | (simp [endVp]; done) | (simp [endVp]; omega)
set_option maxHeartbeats 4000000 in
theorem k38_ (a : VpR) (k : Int) (w : World) (f_a : okVpR 549755813888 w (markVp k a)) (h1 : 0 ≤ k) (h2 : endVp k a ≤ 549755813888) :
    Calls Tryz.prog 59 #[.agg #[i64 a.State, .bool a.Mark, .slice a.Args.A a.Args.n a.Args.c, .slice a.Part.A a.Part.n a.Part.c], i64 k] w fun e w' => e = .returned (.int .i64 (endVp k a)) ∧ St w [] [] w' := by
 have nb_Args : a.Args.n ≤ 549755813888 := f_a.Args_n
 have nl_Args : a.Args.xs.length = a.Args.n := by have h_ := f_a.Args.len; simpa [markVp, marks_len, mrks_len] using h_
 have nb_Part : a.Part.n ≤ 549755813888 := f_a.Part_n
 have nl_Part : a.Part.xs.length = a.Part.n := by have h_ := f_a.Part.len; simpa [markVp, marks_len, mrks_len] using h_
 have nb_Args : a.Args.n ≤ 549755813888 := f_a.Args_n
 have nl_Args : a.Args.xs.length = a.Args.n := by have h_ := f_a.Args.len; simpa [markVp, marks_len, mrks_len] using h_
 have nb_Part : a.Part.n ≤ 549755813888 := f_a.Part_n
 have nl_Part : a.Part.xs.length = a.Part.n := by have h_ := f_a.Part.len; simpa [markVp, marks_len, mrks_len] using h_
 have hq2 := h2
 simp only [endVp] at hq2
 refine enter 18 Tryz.func59 rfl Tryz.ntmps59 rfl rfl ?_
 have hs1 := St.init w
 refine WC.sr (WL.bx hs1 rfl (fun b2 _ hs3 => WL.r 1 hs3 [] rfl (WL.nil (WC.sr (WL.r 3 hs3 [0] rfl ?_)))))
 refine WL.cl Tryz.call83 rfl (k20_ _ _ _ _ _ _ _ (SlF.st0 f_a.Args hs3) rfl ?_ ?_ ?_) ?_
 iterate 3 first | assumption | rfl | omega | (simp only [endVp]; omega)
 rintro _ whs4 ⟨rfl, hs4⟩
 replace hs4 := hs3.call0 hs4
 refine ⟨_, rfl, WL.r 1 hs4 [] rfl (WL.nil (WC.seq (fun K5 hK5 => WC.r1 hs4 [] rfl ?_)))⟩
 refine WC.condF rfl (by first | (simp; omega) | (rw [decide_eq_false_iff_not]; simp only [endVp]; omega)) (WC.skip (hK5 _ _ (WC.sr (WL.r 3 hs4 [0] rfl ?_))))
 refine WL.cl Tryz.call135 rfl (k16_ _ _ _ _ _ _ _ (SlF.st0 f_a.Part hs4) rfl ?_ ?_ ?_) ?_
 iterate 3 first | assumption | rfl | omega | (simp only [endVp]; omega)
 rintro _ whs7 ⟨rfl, hs7⟩
 replace hs7 := hs4.call0 hs7
 refine ⟨_, rfl, WL.r 1 hs7 [] rfl (WL.nil (WC.seq (fun K8 hK8 => WC.r1 hs7 [] rfl ?_)))⟩
 refine WC.condF rfl (by first | (simp; omega) | (rw [decide_eq_false_iff_not]; simp only [endVp]; omega)) (WC.skip (hK8 _ _ (WC.r1 hs7 [] rfl (WC.ret (rtv rfl rfl hs7 ?_)))))
 first | rfl | (simp [endVp, *]; done) | (simp [endVp, *]; omega)
theorem k39_ (n : Int) (w : World) :
    Calls Tryz.prog 199 #[i64 n] w fun e w' => e = .returned (.bool (shows n)) ∧ St w [] [] w' := by
 refine enter 25 Tryz.func199 rfl Tryz.ntmps199 rfl rfl ?_
 have hs1 := St.init w
 refine WC.r1 hs1 [] rfl (WC.sr (WL.r 3 hs1 [] rfl (WL.pA tbk 2 Acts.nil hs1 [] rfl rfl rfl rfl (fun g_ => trivial) (WL.r 1 hs1 [] rfl ?_))))
 apply WL.gO 14 Acts.nil hs1 rfl
 ·intro g2 J3
  have qg2 := g2
  try simp only [bf, within_iff, within_not] at qg2
  refine WL.runA tbk 3 (Acts.nil.cons (j := 6) rfl g2) hs1 [] rfl trivial (WL.pA tbk 2 (Acts.nil.cons (j := 6) rfl g2) hs1 [] rfl rfl rfl rfl (fun g_ => trivial) (WL.runA tbk 1 (Acts.nil.cons (j := 6) rfl g2) hs1 [] rfl trivial ?_))
  apply WL.gA 6 (Acts.nil.cons (j := 6) rfl g2) hs1 rfl
  ·intro g4 J5
   have qg4 := g4
   try simp only [bf, within_iff, within_not] at qg4
   refine WL.runA tbk 3 (Acts.nil.cons (j := 13) rfl g4) hs1 [] rfl trivial (WL.pO tbk 2 (Acts.nil.cons (j := 13) rfl g4) hs1 [] rfl rfl rfl rfl (fun g_ => trivial) (WL.eA 4 (Acts.nil.cons (j := 6) rfl g2) J5 hs1 g4 rfl rfl))
  intro _ hs6
  exact WL.eO 6 Acts.nil J3 hs6 g2 rfl rfl
 intro _ hs7
 refine WL.r 1 hs7 [] rfl (WL.nil (WC.ret (rtv rfl rfl hs7 ?_)))
 refine congrArg Value.bool ?_; rw [Bool.eq_iff_iff]; simp [shows, within] <;> omega
theorem k40_ (a_Fg : Int) (a_Bg : Int) (a_Bold : Bool) (a_Under : Bool) (a_Turn : Bool) (w : World) :
    Calls Tryz.prog 95 #[.agg #[i64 a_Fg, i64 a_Bg, .bool a_Bold, .bool a_Under, .bool a_Turn]] w fun e w' => e = .returned (.bool (attrOk a_Fg a_Bg)) ∧ St w [] [] w' := by
 refine enter 11 Tryz.func95 rfl Tryz.ntmps95 rfl rfl ?_
 have hs1 := St.init w
 refine WC.sr (WL.bx hs1 rfl (fun b2 _ hs3 => WL.r 1 hs3 [] rfl (WL.nil (WC.sr (WL.r 2 hs3 [0] rfl (WL.cl Tryz.call97 rfl (k0_ _ _ _ _) ?_))))))
 rintro _ whs4 ⟨rfl, hs4⟩
 replace hs4 := hs3.call0 hs4
 refine ⟨_, rfl, WL.r 1 hs4 [] rfl ?_⟩
 apply WL.gA 3 Acts.nil hs4 rfl
 ·intro g5 J6
  have qg5 := g5
  try simp only [bf, within_iff, within_not] at qg5
  refine WL.runA tbk 2 (Acts.nil.cons (j := 3) rfl g5) hs4 [0] rfl ⟨rfl, trivial⟩ (WL.call (wantT rfl g5) rfl rfl (Run.call Tryz.call97 rfl rfl rfl) (k0_ _ _ _ _) ?_)
  rintro _ whs7 ⟨rfl, hs7⟩
  replace hs7 := hs4.call0 hs7
  refine ⟨_, rfl, WL.eA 3 Acts.nil J6 hs7 g5 rfl rfl⟩
 intro _ hs8
 refine WL.r 1 hs8 [] rfl (WL.nil (WC.ret (rtv rfl rfl hs8 ?_)))
 rfl
theorem k41_ (a_Fg : Int) (a_Bg : Int) (a_Bold : Bool) (a_Under : Bool) (a_Turn : Bool) (w : World) :
    Calls Tryz.prog 139 #[.agg #[i64 a_Fg, i64 a_Bg, .bool a_Bold, .bool a_Under, .bool a_Turn]] w fun e w' => e = .returned (.bool (attrOk a_Fg a_Bg)) ∧ St w [] [] w' := by
 refine enter 21 Tryz.func139 rfl Tryz.ntmps139 rfl rfl ?_
 have hs1 := St.init w
 refine WC.sr (WL.bx hs1 rfl (fun b2 _ hs3 => WL.r 1 hs3 [] rfl (WL.nil (WC.sr (WL.r 4 hs3 [0] rfl (WL.pA tbk 3 Acts.nil hs3 [0] rfl rfl rfl rfl (fun g_ => ⟨rfl, trivial⟩) (WL.r 1 hs3 [] rfl ?_)))))))
 refine WL.pA tbk 3 Acts.nil hs3 [0] rfl rfl rfl rfl (fun g_ => ⟨rfl, trivial⟩) (WL.r 1 hs3 [] rfl (WL.pA tbk 3 Acts.nil hs3 [0] rfl rfl rfl rfl (fun g_ => ⟨rfl, trivial⟩) (WL.r 1 hs3 [] rfl (WL.nil (WC.ret (rtv rfl rfl hs3 ?_))))))
 simp [attrOk, within, Bool.and_assoc]
theorem k42_ (c_R : Int) (c_A_Fg : Int) (c_A_Bg : Int) (c_A_Bold : Bool) (c_A_Under : Bool) (c_A_Turn : Bool) (w : World) :
    Calls Tryz.prog 113 #[.agg #[i64 c_R, i64 c_A_Fg, i64 c_A_Bg, .bool c_A_Bold, .bool c_A_Under, .bool c_A_Turn]] w fun e w' => e = .returned (.bool (cellOk ⟨c_R, ⟨c_A_Fg, c_A_Bg, c_A_Bold, c_A_Under, c_A_Turn⟩⟩)) ∧ St w [] [] w' := by
 refine enter 11 Tryz.func113 rfl Tryz.ntmps113 rfl rfl ?_
 have hs1 := St.init w
 refine WC.sr (WL.bx hs1 rfl (fun b2 _ hs3 => WL.r 1 hs3 [] rfl (WL.nil (WC.sr (WL.r 2 hs3 [0] rfl (WL.cl Tryz.call171 rfl (k1_ _ _) ?_))))))
 rintro _ whs4 ⟨rfl, hs4⟩
 replace hs4 := hs3.call0 hs4
 refine ⟨_, rfl, WL.r 1 hs4 [] rfl ?_⟩
 apply WL.gA 3 Acts.nil hs4 rfl
 ·intro g5 J6
  have qg5 := g5
  try simp only [bf, within_iff, within_not] at qg5
  refine WL.runA tbk 2 (Acts.nil.cons (j := 3) rfl g5) hs4 [0] rfl ⟨rfl, trivial⟩ (WL.call (wantT rfl g5) rfl rfl (Run.call Tryz.call95 rfl rfl rfl) (k40_ _ _ _ _ _ _) ?_)
  rintro _ whs7 ⟨rfl, hs7⟩
  replace hs7 := hs4.call0 hs7
  refine ⟨_, rfl, WL.eA 3 Acts.nil J6 hs7 g5 rfl rfl⟩
 intro _ hs8
 refine WL.r 1 hs8 [] rfl (WL.nil (WC.ret (rtv rfl rfl hs8 ?_)))
 rfl
theorem k43_ (c_R : Int) (c_A_Fg : Int) (c_A_Bg : Int) (c_A_Bold : Bool) (c_A_Under : Bool) (c_A_Turn : Bool) (w : World) :
    Calls Tryz.prog 203 #[.agg #[i64 c_R, i64 c_A_Fg, i64 c_A_Bg, .bool c_A_Bold, .bool c_A_Under, .bool c_A_Turn]] w fun e w' => e = .returned (.bool (cellOk ⟨c_R, ⟨c_A_Fg, c_A_Bg, c_A_Bold, c_A_Under, c_A_Turn⟩⟩)) ∧ St w [] [] w' := by
 refine enter 11 Tryz.func203 rfl Tryz.ntmps203 rfl rfl ?_
 have hs1 := St.init w
 refine WC.sr (WL.bx hs1 rfl (fun b2 _ hs3 => WL.r 1 hs3 [] rfl (WL.nil (WC.sr (WL.r 2 hs3 [0] rfl (WL.cl Tryz.call199 rfl (k39_ _ _) ?_))))))
 rintro _ whs4 ⟨rfl, hs4⟩
 replace hs4 := hs3.call0 hs4
 refine ⟨_, rfl, WL.r 1 hs4 [] rfl ?_⟩
 apply WL.gA 3 Acts.nil hs4 rfl
 ·intro g5 J6
  have qg5 := g5
  try simp only [bf, within_iff, within_not] at qg5
  refine WL.runA tbk 2 (Acts.nil.cons (j := 3) rfl g5) hs4 [0] rfl ⟨rfl, trivial⟩ (WL.call (wantT rfl g5) rfl rfl (Run.call Tryz.call139 rfl rfl rfl) (k41_ _ _ _ _ _ _) ?_)
  rintro _ whs7 ⟨rfl, hs7⟩
  replace hs7 := hs4.call0 hs7
  refine ⟨_, rfl, WL.eA 3 Acts.nil J6 hs7 g5 rfl rfl⟩
 intro _ hs8
 refine WL.r 1 hs8 [] rfl (WL.nil (WC.ret (rtv rfl rfl hs8 ?_)))
 rfl
theorem k44_ (c_R : Int) (c_A_Fg : Int) (c_A_Bg : Int) (c_A_Bold : Bool) (c_A_Under : Bool) (c_A_Turn : Bool) (w : World) :
    Calls Tryz.prog 197 #[.agg #[i64 c_R, i64 c_A_Fg, i64 c_A_Bg, .bool c_A_Bold, .bool c_A_Under, .bool c_A_Turn]] w fun e w' => e = .returned (.bool (!cellOk ⟨c_R, ⟨c_A_Fg, c_A_Bg, c_A_Bold, c_A_Under, c_A_Turn⟩⟩)) ∧ St w [] [] w' := by
 refine enter 6 Tryz.func197 rfl Tryz.ntmps197 rfl rfl ?_
 have hs1 := St.init w
 refine WC.sr (WL.bx hs1 rfl (fun b2 _ hs3 => WL.r 1 hs3 [] rfl (WL.nil (WC.sr (WL.r 1 hs3 [0] rfl (WL.cl Tryz.call113 rfl (k42_ _ _ _ _ _ _ _) ?_))))))
 rintro _ whs4 ⟨rfl, hs4⟩
 replace hs4 := hs3.call0 hs4
 refine ⟨_, rfl, WL.r 2 hs4 [] rfl (WL.nil (WC.ret (rtv rfl rfl hs4 ?_)))⟩
 rfl
theorem k45_ (A_s : Option Addr) (n_s c_s : Nat) (s : List CellD) (w : World) (f_s : SlF encCell w A_s n_s s) (hn : n_s ≤ 1099511627776) :
    Calls Tryz.prog 243 #[.slice A_s n_s c_s, .func (.func 197) #[] #[]] w fun e w' => e = .returned (.int .i64 (findI (fun c => !cellOk c) s)) ∧ St w [] [] w' := by
 refine enter 19 Tryz.func243 rfl Tryz.ntmps243 rfl rfl ?_
 have hs1 := St.init w
 refine WC.r1 hs1 [] rfl (WC.seq (fun K2 hK2 => WC.r1 hs1 [] rfl (WC.block ?_)))
 refine WC.lS [0, 1, 7] rfl hs1 (fun k_ f w' => ∃ (i : Nat), k_ = n_s - i ∧ (i ≤ n_s) ∧ (∀ j, j < i → (fun c => !cellOk c) (gat encCell s j) = false) ∧ Sub [(8, .int .i64 i)] f) ((fun (i : Nat) => n_s - i) (0)) ?_ ?_
 ·refine ⟨0, rfl, ?_, ?_, ⟨rfl, trivial⟩⟩
  · exact Nat.zero_le _
  · exact fun j hj => absurd hj (by omega)
 clear hs1
 rintro _ f w ⟨i, rfl, p0, p1, hG⟩ hF hs3
 refine WC.sub _ (hG.app hF) ?_
 clear hG hF
 refine WC.r1 hs3 [] rfl (WC.seq (fun K4 hK4 => ?_))
 refine WC.cond rfl (fun h5 => ?_) (fun h5 => ?_)
 ·have qh5 := h5
  try simp only [decide_eq_true_eq, decide_eq_false_iff_not] at qh5
  refine WC.skip (hK4 _ _ (WC.seq (fun K6 hK6 => WC.block (WC.r1 hs3 [] rfl (WC.sr (WL.r 3 hs3 [] rfl ?_))))))
  refine WL.val rfl rfl rfl (Run.idxN Tryz.runUnderlying26 Tryz.sizeOf75 rfl rfl rfl ?_ ?_ ?_) ?_
  · exact SlF.some_ (SlF.st0 f_s hs3)
  · omega
  · omega
  refine WL.val rfl rfl rfl (Run.loadA Tryz.isAgg75 Tryz.sizeOf75 rfl rfl (SlF.whole (SlF.st0 f_s hs3) ?_)) ?_
  · omega
  refine WL.cl Tryz.call197 rfl (k44_ _ _ _ _ _ _ _) ?_
  rintro _ whs7 ⟨rfl, hs7⟩
  replace hs7 := hs3.call0 hs7
  refine ⟨_, rfl, WL.nil (WC.cond rfl (fun h8 => ?_) (fun h8 => ?_))⟩
  ·have qh8 := h8
   try simp only [decide_eq_true_eq, decide_eq_false_iff_not] at qh8
   refine WC.r1 hs7 [] rfl (WC.ret (ibR (tkR (tkR (ibR (tkR ?_))))))
   clear hK6 hK2
   refine rtv rfl rfl hs7 ?_
   rw [findI_some (F := encCell) (by rw [f_s.len]; omega) p1 h8]
  have qh8 := h8
  try simp only [decide_eq_true_eq, decide_eq_false_iff_not] at qh8
  refine WC.skip (hK6 _ _ (WC.region (WL.r 2 hs7 [] rfl (WL.nil (tkN ?_)))))
  refine ⟨sbF rfl, hs7, _, ?_, i + 1, rfl, ?_, ?_, ⟨rfl, trivial⟩⟩
  · omega
  · omega
  · intro j hj; rcases Nat.lt_or_ge j i with h_ | h_
    · exact p1 j h_
    · obtain rfl : j = i := by omega
      exact h8
 have qh5 := h5
 try simp only [decide_eq_true_eq, decide_eq_false_iff_not] at qh5
 refine WC.exit (hK2 _ _ (WC.r1 hs3 [] rfl (WC.ret (rtv rfl rfl hs3 ?_))))
 rw [findI_none (F := encCell) (fun j hj => p1 j (by rw [f_s.len] at hj; omega))]
theorem k46_ (A_s : Option Addr) (n_s c_s : Nat) (s : List CellD) (w : World) (f_s : SlF encCell w A_s n_s s) (hn : n_s ≤ 1099511627776) :
    Calls Tryz.prog 196 #[.slice A_s n_s c_s, .func (.func 197) #[] #[]] w fun e w' => e = .returned (.bool (decide (0 ≤ findI (fun c => !cellOk c) s))) ∧ St w [] [] w' := by
 refine enter 9 Tryz.func196 rfl Tryz.ntmps196 rfl rfl ?_
 have hs1 := St.init w
 refine WC.r1 hs1 [] rfl (WC.sr (WL.r 2 hs1 [] rfl (WL.cl Tryz.call243 rfl (k45_ _ _ _ _ _ (SlF.st0 f_s hs1) ?_) ?_)))
 · first | assumption | rfl | omega
 rintro _ whs2 ⟨rfl, hs2⟩
 replace hs2 := hs1.call0 hs2
 refine ⟨_, rfl, WL.r 2 hs2 [] rfl (WL.nil (WC.ret (rtv rfl rfl hs2 ?_)))⟩
 rfl
theorem k47_ (A_l : Option Addr) (n_l c_l : Nat) (l : List CellD) (w : World) (f_l : SlF encCell w A_l n_l l) (hn : n_l ≤ 1099511627776) :
    Calls Tryz.prog 109 #[.slice A_l n_l c_l] w fun e w' => e = .returned (.bool (cellsOk l)) ∧ St w [] [] w' := by
 refine enter 6 Tryz.func109 rfl Tryz.ntmps109 rfl rfl ?_
 have hs1 := St.init w
 refine WC.r1 hs1 [] rfl (WC.sr (WL.r 1 hs1 [] rfl (WL.cl Tryz.call196 rfl (k46_ _ _ _ _ _ (SlF.st0 f_l hs1) ?_) ?_)))
 · first | assumption | rfl | omega
 rintro _ whs2 ⟨rfl, hs2⟩
 replace hs2 := hs1.call0 hs2
 refine ⟨_, rfl, WL.r 2 hs2 [] rfl (WL.nil (WC.ret (rtv rfl rfl hs2 ?_)))⟩
 rw [cellsOk_find]
theorem k48_ (A_b : Option Addr) (n_b c_b : Nat) (b : List UInt8) (w : World) (f_b : SlF encB w A_b n_b b) (hn : n_b ≤ 2) :
    Calls Tryz.prog 256 #[.slice A_b n_b c_b] w fun e w' => e = .returned (.tuple #[.int .i64 (tlV b : Nat), .bool (tlOk b)]) ∧ St w [] [] w' := by
 have hbl := f_b.len
 refine enter 24 Tryz.func256 rfl Tryz.ntmps256 rfl rfl ?_
 have hs1 := St.init w
 refine WC.r1 hs1 [] rfl (WC.r1 hs1 [] rfl (WC.seq (fun K2 hK2 => WC.r1 hs1 [] rfl (WC.block ?_))))
 refine WC.lS [7, 8] rfl hs1 (fun k_ f w' => ∃ (i : Nat), k_ = n_b - i ∧ (i ≤ n_b) ∧ (tlOk (b.take i) = true) ∧ Sub [(9, .int .i64 i), (4, .int .i64 (tlN (b.take i) : Nat))] f) ((fun (i : Nat) => n_b - i) (0)) ?_ ?_
 ·refine ⟨0, rfl, ?_, ?_, ⟨rfl, ?_, trivial⟩⟩
  · exact Nat.zero_le _
  · rfl
  · rfl
 clear hs1
 rintro _ f w ⟨i, rfl, p0, p1, hG⟩ hF hs3
 refine WC.sub _ (hG.app hF) ?_
 clear hG hF
 have hb_ := tlN_bnd (l := b.take i) (by rw [List.length_take]; omega)
 simp only [List.length_take] at hb_
 refine WC.r1 hs3 [] rfl (WC.seq (fun K4 hK4 => ?_))
 refine WC.cD rfl (fun qh5 => ?_) (fun qh5 => ?_)
 ·refine WC.skip (hK4 _ _ (WC.seq (fun K6 hK6 => WC.block (WC.sr ?_))))
  refine WL.val rfl rfl rfl (Run.idxN Tryz.runUnderlying22 Tryz.sizeOf5 rfl rfl rfl ?_ ?_ ?_) ?_
  · exact SlF.some_ (SlF.st0 f_b hs3)
  · omega
  · omega
  refine WL.val rfl rfl rfl (Run.load Tryz.isAgg5 rfl rfl (SlF.one1 (SlF.st0 f_b hs3) ?_ rfl)) ?_
  · omega
  refine WL.r 1 hs3 [] rfl (WL.nil (WC.seq (fun K7 hK7 => WC.sr (WL.r 1 hs3 [] rfl ?_))))
  refine WL.val rfl rfl rfl (Run.quoB 64 rfl rfl rfl ?_ ?_) ?_
  · decide
  · decide
  refine WL.r 1 hs3 [] rfl (WL.nil (WC.cN rfl (fun qh8 => ?_) (fun qh8 => ?_)))
  ·refine WC.r1 hs3 [] rfl (WC.ret (tkR (ibR (tkR (tkR (ibR (tkR ?_)))))))
   clear hK7 hK6 hK2
   refine retV2 rfl (resV.tmp rfl) (resV.tmp rfl) (⟨congrArg Ending.returned ?_, hs3.nil⟩)
   simp only [u8_div] at qh8
   have hbad := tlOk_bad (l := b) (i := i) (by omega) (by omega)
   rw [hbad, show tlV b = 0 from if_neg (by rw [hbad]; decide)]; rfl
  refine WC.skip (hK7 _ _ (WC.region (WL.r 3 hs3 [] rfl ?_)))
  refine WL.val rfl rfl rfl (Run.remB 64 rfl rfl rfl ?_ ?_) ?_
  · decide
  · decide
  refine WL.run tbk 3 hs3 [] rfl ⟨?_, (u8_in _), trivial⟩ ?_
  · rw [u8_mod]; constructor <;> omega
  refine WL.nil (hK6 _ _ (WC.region (WL.r 2 hs3 [] rfl (WL.nil (tkN ?_)))))
  refine ⟨sbF rfl, hs3, _, ?_, i + 1, rfl, ?_, ?_, ⟨rfl, ?_, trivial⟩⟩
  · omega
  · omega
  · simp only [u8_div] at qh8; rw [tlOk_take (by omega), p1, Bool.true_and, decide_eq_true_eq]; omega
  · refine congrArg some (congrArg (Value.int _) ?_); rw [tlN_take (by omega), u8_mod]; omega
 refine WC.exit (hK2 _ _ (WC.r1 hs3 [] rfl (WC.ret (retV2 rfl (resV.tmp rfl) (resV.tmp rfl) (⟨congrArg Ending.returned ?_, hs3.nil⟩)))))
 have ht : b.take i = b := List.take_of_length_le (by omega)
 rw [ht] at p1
 rw [p1, ht, show tlV b = tlN b from if_pos p1]
theorem k49_ (r : Int) (w : World) :
    Calls Tryz.prog 263 #[i64 r] w fun e w' => ∃ A c L1, e = .returned (.slice A (runeB r).length c) ∧ St w [] L1 w' ∧ OwnF encB 5 (.slice A (runeB r).length c) (runeB r) L1 := by
 refine enter 39 Tryz.func263 rfl Tryz.ntmps263 rfl rfl ?_
 have hs1 := St.init w
 refine WC.r1 hs1 [] rfl (WC.seq (fun K2 hK2 => WC.block (WC.sr (WL.r 1 hs1 [] rfl (WL.cl Tryz.call171 rfl (k1_ _ _) ?_)))))
 rintro _ whs3 ⟨rfl, hs3⟩
 replace hs3 := hs1.call0 hs3
 refine ⟨_, rfl, WL.r 2 hs3 [] rfl (WL.nil (WC.cq rfl (fun h4 qh4 => ?_) (fun h4 qh4 => ?_)))⟩
 ·have hsh : shows r = false := by simpa using qh4
  refine WC.r1 hs3 [] rfl (WC.ret (ibR (tkR ?_)))
  clear hK2
  refine retV1 rfl (resV.tmp rfl) ?_
  have hx_ := OwnF.eqOf (xs := runeB r) (OwnF.nil encB 5) (by simp [runeB, hsh])
  rw [← hx_]
  exact ⟨_, _, _, rfl, hs3.nil, (OwnF.nil encB 5)⟩
 have hsh : shows r = true := by simpa using qh4
 have hsi := shows_iff.1 hsh
 refine WC.r1 hs3 [] rfl (WC.cD rfl (fun qh5 => ?_) (fun qh5 => ?_))
 ·refine WC.sr (WL.r 2 hs3 [] rfl (WL.buildF (F := encB) hs3 ([ub r]) Tryz.runUnderlying22 Tryz.sizeOf5 Tryz.zeroValue5 rfl rfl rfl rfl rfl rfl rfl rfl rfl rfl rfl rfl (fun A9 c10 L6 whs7 hs7 ho8 => WL.r 1 hs7 [] rfl (WL.nil (WC.ret (ibR (tkR ?_)))))))
  clear hK2
  refine retV1 rfl (resV.tmp rfl) ?_
  have hx_ := OwnF.eqOf (xs := runeB r) ho8 (by unfold runeB; rw [hsh, if_neg (by decide), if_pos (by omega)])
  rw [← hx_]
  first | exact ⟨_, _, _, rfl, (St.keep1 hs7), ho8⟩ | exact ⟨A9, c10, _, by rw [OwnF.len_ ho8], (St.keep1 hs7), by rw [OwnF.len_ ho8]; exact ho8⟩
 refine WC.r1 hs3 [] rfl (WC.cD rfl (fun qh11 => ?_) (fun qh11 => ?_))
 ·refine WC.sr (WL.r 1 hs3 [] rfl (WL.val rfl rfl rfl (Run.quo rfl rfl rfl ?_ ?_ ?_) ?_))
  · omega
  · omega
  · omega
  refine WL.r 3 hs3 [] rfl (WL.val rfl rfl rfl (Run.rem rfl rfl rfl ?_ ?_) ?_)
  · omega
  · omega
  refine WL.r 2 hs3 [] rfl (WL.buildF (F := encB) hs3 ([ub (192 + r / 64), ub (128 + r % 64)]) Tryz.runUnderlying22 Tryz.sizeOf5 Tryz.zeroValue5 rfl rfl rfl rfl rfl rfl rfl rfl rfl rfl rfl rfl (fun A15 c16 L12 whs13 hs13 ho14 => WL.r 1 hs13 [] rfl (WL.nil (WC.ret (ibR (tkR ?_))))))
  clear hK2
  refine retV1 rfl (resV.tmp rfl) ?_
  have hx_ := OwnF.eqOf (xs := runeB r) ho14 (by unfold runeB; rw [hsh, if_neg (by decide), if_neg (by omega), if_pos (by omega)])
  rw [← hx_]
  first | exact ⟨_, _, _, rfl, (St.keep1 hs13), ho14⟩ | exact ⟨A15, c16, _, by rw [OwnF.len_ ho14], (St.keep1 hs13), by rw [OwnF.len_ ho14]; exact ho14⟩
 refine WC.skip (hK2 _ _ (WC.sr (WL.r 1 hs3 [] rfl ?_)))
 refine WL.val rfl rfl rfl (Run.quo rfl rfl rfl ?_ ?_ ?_) ?_
 · omega
 · omega
 · omega
 refine WL.r 3 hs3 [] rfl (WL.val rfl rfl rfl (Run.quo rfl rfl rfl ?_ ?_ ?_) ?_)
 · omega
 · omega
 · omega
 refine WL.val rfl rfl rfl (Run.rem rfl rfl rfl ?_ ?_) ?_
 · omega
 · omega
 refine WL.r 3 hs3 [] rfl (WL.val rfl rfl rfl (Run.rem rfl rfl rfl ?_ ?_) ?_)
 · omega
 · omega
 refine WL.r 2 hs3 [] rfl (WL.buildF (F := encB) hs3 ([ub (224 + r / 4096), ub (128 + r / 64 % 64), ub (128 + r % 64)]) Tryz.runUnderlying22 Tryz.sizeOf5 Tryz.zeroValue5 rfl rfl rfl rfl rfl rfl rfl rfl rfl rfl rfl rfl (fun A20 c21 L17 whs18 hs18 ho19 => WL.r 1 hs18 [] rfl (WL.nil (WC.ret (retV1 rfl (resV.tmp rfl) ?_)))))
 have hx_ := OwnF.eqOf (xs := runeB r) ho19 (by unfold runeB; rw [hsh, if_neg (by decide), if_neg (by omega), if_neg (by omega)])
 rw [← hx_]
 first | exact ⟨_, _, _, rfl, (St.keep1 hs18), ho19⟩ | exact ⟨A20, c21, _, by rw [OwnF.len_ ho19], (St.keep1 hs18), by rw [OwnF.len_ ho19]; exact ho19⟩
theorem k50_ (r : Int) (w : World) :
    Calls Tryz.prog 168 #[i64 r] w fun e w' => ∃ A c L1, e = .returned (.slice A (runeB r).length c) ∧ St w [] L1 w' ∧ OwnF encB 5 (.slice A (runeB r).length c) (runeB r) L1 := by
 refine enter 36 Tryz.func168 rfl Tryz.ntmps168 rfl rfl ?_
 have hs1 := St.init w
 refine WC.r1 hs1 [] rfl (WC.seq (fun K2 hK2 => WC.sr (WL.r 1 hs1 [] rfl (WL.cl Tryz.call199 rfl (k39_ _ _) ?_))))
 rintro _ whs3 ⟨rfl, hs3⟩
 replace hs3 := hs1.call0 hs3
 refine ⟨_, rfl, WL.r 1 hs3 [] rfl (WL.nil (WC.cq rfl (fun h4 qh4 => ?_) (fun h4 qh4 => ?_)))⟩
 ·have hsh : shows r = false := by simpa using qh4
  refine WC.r1 hs3 [] rfl (WC.ret (tkR ?_))
  clear hK2
  refine retV1 rfl (resV.tmp rfl) ?_
  have hx_ := OwnF.eqOf (xs := runeB r) (OwnF.nil encB 5) (by simp [runeB, hsh])
  rw [← hx_]
  exact ⟨_, _, _, rfl, hs3.nil, (OwnF.nil encB 5)⟩
 have hsh : shows r = true := by simpa using qh4
 have hsi := shows_iff.1 hsh
 refine WC.skip (hK2 _ _ (WC.seq (fun K5 hK5 => WC.r1 hs3 [] rfl ?_)))
 refine WC.cD rfl (fun qh6 => ?_) (fun qh6 => ?_)
 ·refine WC.sr (WL.r 2 hs3 [] rfl (WL.buildF (F := encB) hs3 ([ub r]) Tryz.runUnderlying22 Tryz.sizeOf5 Tryz.zeroValue5 rfl rfl rfl rfl rfl rfl rfl rfl rfl rfl rfl rfl (fun A10 c11 L7 whs8 hs8 ho9 => WL.r 1 hs8 [] rfl (WL.nil (WC.ret (tkR ?_))))))
  clear hK5
  refine retV1 rfl (resV.tmp rfl) ?_
  have hx_ := OwnF.eqOf (xs := runeB r) ho9 (by unfold runeB; rw [hsh, if_neg (by decide), if_pos (by omega)])
  rw [← hx_]
  first | exact ⟨_, _, _, rfl, (St.keep1 hs8), ho9⟩ | exact ⟨A10, c11, _, by rw [OwnF.len_ ho9], (St.keep1 hs8), by rw [OwnF.len_ ho9]; exact ho9⟩
 refine WC.skip (hK5 _ _ (WC.seq (fun K12 hK12 => WC.r1 hs3 [] rfl ?_)))
 refine WC.cD rfl (fun qh13 => ?_) (fun qh13 => ?_)
 ·refine WC.sr (WL.r 1 hs3 [] rfl (WL.val rfl rfl rfl (Run.quo rfl rfl rfl ?_ ?_ ?_) ?_))
  · omega
  · omega
  · omega
  refine WL.r 3 hs3 [] rfl (WL.val rfl rfl rfl (Run.rem rfl rfl rfl ?_ ?_) ?_)
  · omega
  · omega
  refine WL.r 2 hs3 [] rfl (WL.buildF (F := encB) hs3 ([ub (192 + r / 64), ub (128 + r % 64)]) Tryz.runUnderlying22 Tryz.sizeOf5 Tryz.zeroValue5 rfl rfl rfl rfl rfl rfl rfl rfl rfl rfl rfl rfl (fun A17 c18 L14 whs15 hs15 ho16 => WL.r 1 hs15 [] rfl (WL.nil (WC.ret (tkR ?_)))))
  clear hK12
  refine retV1 rfl (resV.tmp rfl) ?_
  have hx_ := OwnF.eqOf (xs := runeB r) ho16 (by unfold runeB; rw [hsh, if_neg (by decide), if_neg (by omega), if_pos (by omega)])
  rw [← hx_]
  first | exact ⟨_, _, _, rfl, (St.keep1 hs15), ho16⟩ | exact ⟨A17, c18, _, by rw [OwnF.len_ ho16], (St.keep1 hs15), by rw [OwnF.len_ ho16]; exact ho16⟩
 refine WC.skip (hK12 _ _ (WC.sr (WL.r 1 hs3 [] rfl ?_)))
 refine WL.val rfl rfl rfl (Run.quo rfl rfl rfl ?_ ?_ ?_) ?_
 · omega
 · omega
 · omega
 refine WL.r 3 hs3 [] rfl (WL.val rfl rfl rfl (Run.quo rfl rfl rfl ?_ ?_ ?_) ?_)
 · omega
 · omega
 · omega
 refine WL.val rfl rfl rfl (Run.rem rfl rfl rfl ?_ ?_) ?_
 · omega
 · omega
 refine WL.r 3 hs3 [] rfl (WL.val rfl rfl rfl (Run.rem rfl rfl rfl ?_ ?_) ?_)
 · omega
 · omega
 refine WL.r 2 hs3 [] rfl (WL.buildF (F := encB) hs3 ([ub (224 + r / 4096), ub (128 + r / 64 % 64), ub (128 + r % 64)]) Tryz.runUnderlying22 Tryz.sizeOf5 Tryz.zeroValue5 rfl rfl rfl rfl rfl rfl rfl rfl rfl rfl rfl rfl (fun A22 c23 L19 whs20 hs20 ho21 => WL.r 1 hs20 [] rfl (WL.nil (WC.ret (retV1 rfl (resV.tmp rfl) ?_)))))
 have hx_ := OwnF.eqOf (xs := runeB r) ho21 (by unfold runeB; rw [hsh, if_neg (by decide), if_neg (by omega), if_neg (by omega)])
 rw [← hx_]
 first | exact ⟨_, _, _, rfl, (St.keep1 hs20), ho21⟩ | exact ⟨A22, c23, _, by rw [OwnF.len_ ho21], (St.keep1 hs20), by rw [OwnF.len_ ho21]; exact ho21⟩
theorem k51_ (A_a : Option Addr) (n_a c_a : Nat) (a : List UInt8) (A_b : Option Addr) (n_b c_b : Nat) (b : List UInt8) (w : World) (f_a : SlF encB w A_a n_a a) (f_b : SlF encB w A_b n_b b) (hn : n_a ≤ 1099511627776) :
    Calls Tryz.prog 56 #[.slice A_a n_a c_a, .slice A_b n_b c_b] w fun e w' => e = .returned (.bool (decide (a = b))) ∧ St w [] [] w' := by
 have hla := f_a.len
 have hlb := f_b.len
 refine enter 26 Tryz.func56 rfl Tryz.ntmps56 rfl rfl ?_
 have hs1 := St.init w
 refine WC.r1 hs1 [] rfl (WC.seq (fun K2 hK2 => WC.r1 hs1 [] rfl ?_))
 refine WC.cq rfl (fun h3 qh3 => ?_) (fun h3 qh3 => ?_)
 ·refine WC.r1 hs1 [] rfl (WC.ret (tkR ?_))
  clear hK2
  refine rtv rfl rfl hs1 ?_
  refine congrArg Value.bool ?_; symm; rw [decide_eq_false_iff_not]; intro he; subst he; omega
 refine WC.skip (hK2 _ _ (WC.seq (fun K4 hK4 => WC.r1 hs1 [] rfl (WC.block ?_))))
 refine WC.lS [0, 1, 10, 12] rfl hs1 (fun k_ f w' => ∃ (i : Nat), k_ = n_a - i ∧ (i ≤ n_a) ∧ (∀ j, j < i → gat encB a j = gat encB b j) ∧ Sub [(13, .int .i64 i)] f) ((fun (i : Nat) => n_a - i) (0)) ?_ ?_
 ·refine ⟨0, rfl, ?_, ?_, ⟨rfl, trivial⟩⟩
  · exact Nat.zero_le _
  · exact fun j hj => absurd hj (by omega)
 clear hs1
 rintro _ f w ⟨i, rfl, p0, p1, hG⟩ hF hs5
 refine WC.sub _ (hG.app hF) ?_
 clear hG hF
 refine WC.r1 hs5 [] rfl (WC.seq (fun K6 hK6 => ?_))
 refine WC.cq rfl (fun h7 qh7 => ?_) (fun h7 qh7 => ?_)
 ·refine WC.skip (hK6 _ _ (WC.seq (fun K8 hK8 => WC.block (WC.r1 hs5 [] rfl (WC.sq1 hs5 (WQ.r 2 [] rfl ?_))))))
  refine WQ.val rfl rfl rfl (fun w_ hs_ => (Run.idxN Tryz.runUnderlying22 Tryz.sizeOf5 rfl rfl rfl ?_ ?_ ?_)) ?_
  · exact SlF.some_ (SlF.st0 f_a (hs_ : St _ _ _ _))
  · omega
  · omega
  refine WQ.val rfl rfl rfl (fun w_ hs_ => (Run.load Tryz.isAgg5 rfl rfl (SlF.one1 (SlF.st0 f_a (hs_ : St _ _ _ _)) ?_ rfl))) ?_
  · omega
  refine WQ.r 2 [] rfl ?_
  refine WQ.val rfl rfl rfl (fun w_ hs_ => (Run.idxN Tryz.runUnderlying22 Tryz.sizeOf5 rfl rfl rfl ?_ ?_ ?_)) ?_
  · exact SlF.some_ (SlF.st0 f_b (hs_ : St _ _ _ _))
  · omega
  · omega
  refine WQ.val rfl rfl rfl (fun w_ hs_ => (Run.load Tryz.isAgg5 rfl rfl (SlF.one1 (SlF.st0 f_b (hs_ : St _ _ _ _)) ?_ rfl))) ?_
  · omega
  refine WQ.r 1 [] rfl (WQ.nil (fun _ (hs9 : St _ _ _ _) => ?_))
  refine WC.cq rfl (fun h10 qh10 => ?_) (fun h10 qh10 => ?_)
  ·refine WC.r1 hs9 [] rfl (WC.ret (ibR (tkR (tkR (ibR (tkR ?_))))))
   clear hK8 hK4
   refine rtv rfl rfl hs9 ?_
   refine congrArg Value.bool ?_; symm; rw [decide_eq_false_iff_not]; intro he; subst he; simp at h10
  refine WC.skip (hK8 _ _ (WC.region (WL.r 2 hs9 [] rfl (WL.nil (tkN ?_)))))
  refine ⟨sbF rfl, hs9, _, ?_, i + 1, rfl, ?_, ?_, ⟨rfl, trivial⟩⟩
  · omega
  · omega
  · intro j hj; rcases Nat.lt_or_ge j i with h_ | h_
    · exact p1 j h_
    · obtain rfl : j = i := by omega
      exact u8_inj (by simpa using h10)
 refine WC.exit (hK4 _ _ (WC.r1 hs5 [] rfl (WC.ret (rtv rfl rfl hs5 ?_))))
 refine congrArg Value.bool ?_; symm; rw [decide_eq_true_eq]; exact gat_ext (F := encB) (by omega) (fun j hj => p1 j (by omega))
theorem k52_ (A_s : Option Addr) (n_s c_s : Nat) (s : List UInt8) (w : World) (f_s : SlF encB w A_s n_s s) (hn : n_s ≤ 268435456) :
    Calls Tryz.prog 245 #[.slice A_s n_s c_s] w fun e w' => ∃ A c L1, e = .returned (.slice A (s).length c) ∧ St w [] L1 w' ∧ OwnF encB 5 (.slice A (s).length c) (s) L1 := by
 have hl := f_s.len
 refine enter 8 Tryz.func245 rfl Tryz.ntmps245 rfl rfl ?_
 have hs1 := St.init w
 refine WC.r1 hs1 [] rfl (WC.seq (fun K2 hK2 => WC.sr (WL.r 1 hs1 [] rfl (WL.val rfl rfl rfl (Run.eqlNil Tryz.underlying22 rfl rfl rfl) (WL.nil ?_)))))
 refine WC.cq rfl (fun h3 qh3 => ?_) (fun h3 qh3 => ?_)
 ·obtain rfl : A_s = none := by simpa using qh3
  have h0 : n_s = 0 := SlF.none_ f_s
  have hs : s = [] := List.eq_nil_of_length_eq_zero (by omega)
  refine WC.r1 hs1 [] rfl (WC.ret (tkR ?_))
  clear hK2
  refine retV1 rfl (resV.tmp rfl) ?_
  have hx_ := OwnF.eqOf (xs := s) (OwnF.nil encB 5) (by rw [hs])
  rw [← hx_]
  exact ⟨_, _, _, rfl, hs1.nil, (OwnF.nil encB 5)⟩
 refine WC.skip (hK2 _ _ (WC.sr (WL.buildF (F := encB) hs1 ([]) Tryz.runUnderlying22 Tryz.sizeOf5 Tryz.zeroValue5 rfl rfl rfl rfl rfl rfl rfl rfl rfl rfl rfl rfl (fun A7 c8 L4 whs5 hs5 ho6 => WL.r 1 hs5 [] rfl ?_))))
 refine WL.appendG hs5 ho6 (SlF.src (SlF.st0 f_s hs5) Tryz.underlying22) Tryz.underlying22 inf5 rfl rfl rfl rfl rfl rfl rfl rfl rfl rfl ?_ (fun A12 c13 L9 whs10 hs10 ho11 => ?_)
 · simp; omega
 refine WL.r 1 hs10 [] rfl (WL.nil (WC.ret (retV1 rfl (resV.tmp rfl) ?_)))
 have hx_ := OwnF.eqOf (xs := s) ho11 (by simp)
 rw [← hx_]
 first | exact ⟨_, _, _, rfl, (St.keep1 hs10), ho11⟩ | exact ⟨A12, c13, _, by rw [OwnF.len_ ho11], (St.keep1 hs10), by rw [OwnF.len_ ho11]; exact ho11⟩
theorem k53_ (A_s : Option Addr) (n_s c_s : Nat) (s : List Int) (w : World) (f_s : SlF encI w A_s n_s s) (hn : n_s ≤ 268435456) :
    Calls Tryz.prog 207 #[.slice A_s n_s c_s] w fun e w' => ∃ A c L1, e = .returned (.slice A (s).length c) ∧ St w [] L1 w' ∧ OwnF encI 3 (.slice A (s).length c) (s) L1 := by
 have hl := f_s.len
 refine enter 8 Tryz.func207 rfl Tryz.ntmps207 rfl rfl ?_
 have hs1 := St.init w
 refine WC.r1 hs1 [] rfl (WC.seq (fun K2 hK2 => WC.sr (WL.r 1 hs1 [] rfl (WL.val rfl rfl rfl (Run.eqlNil Tryz.underlying23 rfl rfl rfl) (WL.nil ?_)))))
 refine WC.cq rfl (fun h3 qh3 => ?_) (fun h3 qh3 => ?_)
 ·obtain rfl : A_s = none := by simpa using qh3
  have h0 : n_s = 0 := SlF.none_ f_s
  have hs : s = [] := List.eq_nil_of_length_eq_zero (by omega)
  refine WC.r1 hs1 [] rfl (WC.ret (tkR ?_))
  clear hK2
  refine retV1 rfl (resV.tmp rfl) ?_
  have hx_ := OwnF.eqOf (xs := s) (OwnF.nil encI 3) (by rw [hs])
  rw [← hx_]
  exact ⟨_, _, _, rfl, hs1.nil, (OwnF.nil encI 3)⟩
 refine WC.skip (hK2 _ _ (WC.sr (WL.buildF (F := encI) hs1 ([]) Tryz.runUnderlying23 Tryz.sizeOf3 Tryz.zeroValue3 rfl rfl rfl rfl rfl rfl rfl rfl rfl rfl rfl rfl (fun A7 c8 L4 whs5 hs5 ho6 => WL.r 1 hs5 [] rfl ?_))))
 refine WL.appendG hs5 ho6 (SlF.src (SlF.st0 f_s hs5) Tryz.underlying23) Tryz.underlying23 inf3 rfl rfl rfl rfl rfl rfl rfl rfl rfl rfl ?_ (fun A12 c13 L9 whs10 hs10 ho11 => ?_)
 · simp; omega
 refine WL.r 1 hs10 [] rfl (WL.nil (WC.ret (retV1 rfl (resV.tmp rfl) ?_)))
 have hx_ := OwnF.eqOf (xs := s) ho11 (by simp)
 rw [← hx_]
 first | exact ⟨_, _, _, rfl, (St.keep1 hs10), ho11⟩ | exact ⟨A12, c13, _, by rw [OwnF.len_ ho11], (St.keep1 hs10), by rw [OwnF.len_ ho11]; exact ho11⟩
theorem k54_ (A_b : Option Addr) (n_b c_b : Nat) (b : List UInt8) (w : World) (f_b : SlF encB w A_b n_b b) (hc : n_b ≤ c_b) (hn : n_b ≤ 549755813888) :
    Calls Tryz.prog 257 #[.slice A_b n_b c_b, i64 0] w fun e w' => e = .returned (.tuple #[.int .i64 (rvN (runeL b)), .int .i64 (rvS (runeL b) : Nat)]) ∧ St w [] [] w' := by
 have hbl := f_b.len
 have hb0 := (gat encB b 0).toNat_lt
 refine enter 72 Tryz.func257 rfl Tryz.ntmps257 rfl rfl ?_
 have hs1 := St.init w
 refine WC.r1 hs1 [] rfl (WC.seq (fun K2 hK2 => WC.sr ?_))
 refine WL.run tbk 4 hs1 [] rfl ⟨by first | omega | (simp only [p6]; omega), trivial⟩ (WL.cl Tryz.call97 rfl (k0_ _ _ _ _) ?_)
 rintro _ whs3 ⟨rfl, hs3⟩
 replace hs3 := hs1.call0 hs3
 refine ⟨_, rfl, WL.r 1 hs3 [] rfl (WL.nil (WC.cq rfl (fun h4 qh4 => ?_) (fun h4 qh4 => ?_)))⟩
 ·refine WC.r1 hs3 [] rfl (WC.ret (tkR ?_))
  clear hK2
  refine retV2 rfl (resV.tmp rfl) (resV.tmp rfl) (⟨congrArg Ending.returned ?_, hs3.nil⟩)
  have h0 : b = [] := List.eq_nil_of_length_eq_zero (by omega)
  subst h0
  rw [runeL_nil]; rfl
 refine WC.skip (hK2 _ _ (WC.sr (WL.r 2 hs3 [] rfl ?_)))
 refine WL.val rfl rfl rfl (Run.idxK (0) Tryz.runUnderlying22 Tryz.sizeOf5 rfl rfl rfl ?_ ?_ ?_) ?_
 · exact SlF.some_ (SlF.st0 f_b hs3)
 · first | omega | (simp only [p6]; omega)
 · first | omega | (simp only [p6]; omega)
 refine WL.val rfl rfl rfl (Run.load Tryz.isAgg5 rfl rfl (SlF.one1 (SlF.st0 f_b hs3) ?_ rfl)) ?_
 · omega
 refine WL.r 3 hs3 [] rfl (WL.nil (WC.seq (fun K5 hK5 => WC.block (WC.sr (WL.r 1 hs3 [] rfl (WL.cl Tryz.call97 rfl (k0_ _ _ _ _) ?_))))))
 rintro _ whs6 ⟨rfl, hs6⟩
 replace hs6 := hs3.call0 hs6
 refine ⟨_, rfl, WL.r 1 hs6 [] rfl (WL.nil (WC.cq rfl (fun h7 qh7 => ?_) (fun h7 qh7 => ?_)))⟩
 ·have hcl : rcls (bat b 0) = 2 := by unfold rcls; rw [if_pos (by simp only [gat, bat] at *; omega)]
  refine WC.region ?_
  refine WL.run tbk 4 hs6 [] rfl ⟨by first | omega | (simp only [p6]; omega), trivial⟩ (WL.nil (hK5 _ _ (WC.seq (fun K8 hK8 => ?_))))
  refine WC.rr tbk hs6 [] rfl ⟨by first | omega | (simp only [p6]; omega), trivial⟩ (WC.cq rfl (fun h9 qh9 => ?_) (fun h9 qh9 => ?_))
  ·refine WC.r1 hs6 [] rfl (WC.ret (tkR ?_))
   clear hK8
   refine retV2 rfl (resV.tmp rfl) (resV.tmp rfl) (⟨congrArg Ending.returned ?_, hs6.nil⟩)
   have hno : runeL b = none := rread_no (by omega) hcl (fun r hr h1 h2 h3 => by
       omega)
   rw [hno]; rfl
  refine WC.skip (hK8 _ _ (WC.sr ?_))
  refine WL.run tbk 6 hs6 [] rfl ⟨by first | omega | (simp only [p6]; omega), by first | omega | (simp only [p6]; omega), trivial⟩ (WL.val rfl rfl rfl (Run.sliceLH (1) (2) Tryz.runUnderlying22 Tryz.sizeOf5 rfl rfl rfl rfl ?_ ?_ ?_) ?_)
  · first | rfl | (first | omega | (simp only [p6]; omega))
  · first | rfl | (first | omega | (simp only [p6]; omega))
  · refine ⟨?_, ?_, ?_⟩ <;> (first | omega | (simp only [p6]; omega))
  refine WL.cl Tryz.call256 rfl (k48_ _ _ _ _ _ (SlF.cutC (lo := 1) (hi := 2) (SlF.st0 f_b hs6) (by refine ⟨?_, ?_, ?_⟩ <;> (first | omega | (simp only [p6]; omega)))) ?_) ?_
  · first | assumption | rfl | omega
  rintro _ whs10 ⟨rfl, hs10⟩
  replace hs10 := hs6.call0 hs10
  refine ⟨_, rfl, WL.r 3 hs10 [] rfl ?_⟩
  have htv := tlV_bnd (l := (b.drop 1).take (2 - 1)) (by rw [List.length_take, List.length_drop]; omega)
  refine WL.r 2 hs10 [] rfl (WL.nil (WC.sr ?_))
  refine WL.run tbk 4 hs10 [] rfl ⟨by first | omega | (simp only [p6]; omega), by first | omega | (simp only [p6]; omega), trivial⟩ (WL.val rfl rfl rfl (Run.shl rfl rfl rfl ?_ ?_ ?_) ?_)
  · first | omega | (simp only [p6]; omega)
  · first | omega | (simp only [p6]; omega)
  · simp only [p6]; constructor <;> omega
  refine WL.r 1 hs10 [] rfl (WL.val rfl rfl rfl (Run.or rfl rfl rfl ?_ ?_ ?_ ?_) ?_)
  · first | omega | (simp only [p6]; omega)
  · first | omega | (simp only [p6]; omega)
  · first | omega | (simp only [p6]; omega)
  · first | omega | (simp only [p6]; omega)
  refine WL.r 1 hs10 [] rfl (WL.nil (WC.seq (fun K11 hK11 => WC.seq (fun K12 hK12 => WC.rH hs10 hs10 (fun _ hs13 => ?_)))))
  refine WH.rn [0, 1, 2] hs13 [] rfl rfl (WH.split 58 rfl (fun g14 => ?_) (fun g14 => ?_))
  ·refine WH.takeSkip 3 rfl (by kernel_rfl) (wantNF rfl g14) rfl rfl hs13 (WH.takeSkip 5 rfl (by kernel_rfl) (wantNF rfl g14) rfl rfl hs13 (WH.takeSkip 6 rfl (by kernel_rfl) (wantNF rfl g14) rfl rfl hs13 (WH.takeSkip 7 rfl (by kernel_rfl) (wantNF rfl g14) rfl rfl hs13 (WH.takeSkip 8 rfl (by kernel_rfl) (wantNF rfl g14) rfl rfl hs13 (WH.takeSkip 9 rfl (by kernel_rfl) (wantNF rfl g14) rfl rfl hs13 (WH.takeSkip 10 rfl (by kernel_rfl) (wantNF rfl g14) rfl rfl hs13 (WH.o1 4 rfl ?_)))))))
   refine WL.skip (wantNF rfl g14) rfl rfl (WL.nil ⟨hs13, WH.o1 11 rfl (WL.skip (wantNF rfl g14) rfl rfl (WL.nil ⟨hs13, WH.takeSkip 12 rfl (by kernel_rfl) (wantNF rfl g14) rfl rfl hs13 ?_⟩))⟩)
   refine WH.take 13 rfl (by kernel_rfl) rfl rfl rfl hs13 (fun w_ hs_ => (Run.pickT rfl rfl g14 rfl)) ?_
   refine WH.dn (hK12 _ _ ?_)
   refine WC.cq rfl (fun h15 qh15 => ?_) (fun h15 qh15 => ?_)
   ·refine WC.r1 hs13 [] rfl (WC.ret (tkR ?_))
    clear hK11
    refine retV2 rfl (resV.tmp rfl) (resV.tmp rfl) (⟨congrArg Ending.returned ?_, hs13.nil⟩)
    have hno : runeL b = none := rread_no (by omega) hcl (fun r hr h1 h2 h3 => by
        have h9 := ‹(!tlOk ((b.drop 1).take (2 - 1))) = true›
        rw [h2] at h9; cases h9)
    rw [hno]; rfl
   refine WC.skip (hK11 _ _ (WC.r1 hs13 [] rfl (WC.ret (retV2 rfl (resV.tmp rfl) (resV.tmp rfl) (⟨congrArg Ending.returned ?_, hs13.nil⟩)))))
   cases h15
  refine WH.rnA (Acts.nil.cons (j := 2) rfl g14) [3, 5, 6, 7, 8, 9] hs13 [] rfl rfl ?_ (hS := ⟨by (first | omega | (simp only [p6]; omega)), trivial⟩)
  refine WH.take 10 rfl (by kernel_rfl) (wantF rfl g14) rfl rfl hs13 (fun w_ hs_ => (Run.sliceLH (0) (2) Tryz.runUnderlying22 Tryz.sizeOf5 rfl rfl rfl rfl ?_ ?_ ?_)) ?_
  · first | rfl | (first | omega | (simp only [p6]; omega))
  · first | rfl | (first | omega | (simp only [p6]; omega))
  · refine ⟨?_, ?_, ?_⟩ <;> (first | omega | (simp only [p6]; omega))
  refine WH.o1 4 rfl (WL.call (wantF rfl g14) rfl rfl (Run.call Tryz.call263 rfl rfl rfl) (k49_ _ _) ?_)
  rintro _ whs16 ⟨A17, c18, L1_19, rfl, hs16, ho20⟩
  replace hs16 := hs13.callF hs16
  refine ⟨_, rfl, WL.nil ⟨(hs16.rm L1_19), WH.o1 11 rfl ?_⟩⟩
  refine WL.call (wantF rfl g14) rfl rfl (Run.call Tryz.call56 rfl rfl rfl) (k51_ _ _ _ _ _ _ _ _ _ (SlF.ofOwn ho20 (hs16.ow L1_19)) (SlF.cutC (lo := 0) (hi := 2) (SlF.st0 f_b hs16) (by refine ⟨?_, ?_, ?_⟩ <;> (first | omega | (simp only [p6]; omega)))) ?_) ?_
  · exact Nat.le_trans (runeB_len _) (by decide)
  rintro _ whs21 ⟨rfl, hs21⟩
  replace hs21 := hs16.call0 hs21
  refine ⟨_, rfl, WL.nil ⟨(hs21.rm L1_19), WH.rnA (Acts.nil.cons (j := 2) rfl g14) [12] (hs21.rm L1_19) [] rfl rfl ?_⟩⟩
  refine WH.take 13 rfl (by kernel_rfl) rfl rfl rfl (hs21.rm L1_19) (fun w_ hs_ => (Run.pick rfl rfl rfl rfl)) ?_
  refine WH.dn (hK12 _ _ ?_)
  refine WC.cq rfl (fun h22 qh22 => ?_) (fun h22 qh22 => ?_)
  ·refine WC.r1 hs21 [] rfl (WC.ret (tkR ?_))
   clear hK11
   refine retV2 rfl (resV.tmp rfl) (resV.tmp rfl) (⟨congrArg Ending.returned ?_, hs21.nil⟩)
   have hrs := rsum_or (a := gat encB b 0) (t := ((b.drop 1).take (2 - 1))) (c := 2) (x := (((gat encB b 0).toNat : Int) - 192) * 2 ^ 6) (.inr (.inl ⟨rfl, by omega, rfl⟩)) (by rw [List.length_take, List.length_drop]; omega)
   have hq9 : (bif !tlOk ((b.drop 1).take (2 - 1)) then true else !decide (runeB (rsum (gat encB b 0) ((b.drop 1).take (2 - 1)) 2) = b.take 2)) = true := by rw [← hrs]; exact h22
   have hno : runeL b = none := rread_no (by omega) hcl (fun r hr h1 h2 h3 => by
       rw [h2] at hq9; subst hr; have h10 : runeB (rsum (gat encB b 0) ((b.drop 1).take (2 - 1)) 2) = b.take 2 := h3; rw [h10, decide_eq_true rfl] at hq9; cases hq9)
   rw [hno]; rfl
  refine WC.skip (hK11 _ _ (WC.r1 hs21 [] rfl (WC.ret (retV2 rfl (resV.tmp rfl) (resV.tmp rfl) (⟨congrArg Ending.returned ?_, hs21.nil⟩)))))
  have hrs := rsum_or (a := gat encB b 0) (t := ((b.drop 1).take (2 - 1))) (c := 2) (x := (((gat encB b 0).toNat : Int) - 192) * 2 ^ 6) (.inr (.inl ⟨rfl, by omega, rfl⟩)) (by rw [List.length_take, List.length_drop]; omega)
  have hq9 : (bif !tlOk ((b.drop 1).take (2 - 1)) then true else !decide (runeB (rsum (gat encB b 0) ((b.drop 1).take (2 - 1)) 2) = b.take 2)) = false := by rw [← hrs]; exact h22
  rcases h11 : tlOk ((b.drop 1).take (2 - 1)) with _ | _ <;> rw [h11] at hq9
  · cases hq9
  have hyes := rread_yes (by omega) hcl (by omega) h11 hrs (by rw [hrs]; by_cases h12 : runeB (rsum (gat encB b 0) ((b.drop 1).take (2 - 1)) 2) = b.take 2; exact h12; rw [decide_eq_false h12] at hq9; cases hq9)
  rw [hyes]; rfl
 refine WC.sr (WL.r 1 hs6 [] rfl (WL.cl Tryz.call97 rfl (k0_ _ _ _ _) ?_))
 rintro _ whs23 ⟨rfl, hs23⟩
 replace hs23 := hs6.call0 hs23
 refine ⟨_, rfl, WL.r 1 hs23 [] rfl (WL.nil (WC.cq rfl (fun h24 qh24 => ?_) (fun h24 qh24 => ?_)))⟩
 ·have hcl : rcls (bat b 0) = 3 := by unfold rcls; rw [if_neg (by simp only [gat, bat] at *; omega), if_pos (by simp only [gat, bat] at *; omega)]
  refine WC.region ?_
  refine WL.run tbk 4 hs23 [] rfl ⟨by first | omega | (simp only [p6]; omega), trivial⟩ (WL.nil (hK5 _ _ (WC.seq (fun K25 hK25 => ?_))))
  refine WC.rr tbk hs23 [] rfl ⟨by first | omega | (simp only [p6]; omega), trivial⟩ (WC.cq rfl (fun h26 qh26 => ?_) (fun h26 qh26 => ?_))
  ·refine WC.r1 hs23 [] rfl (WC.ret (tkR ?_))
   clear hK25
   refine retV2 rfl (resV.tmp rfl) (resV.tmp rfl) (⟨congrArg Ending.returned ?_, hs23.nil⟩)
   have hno : runeL b = none := rread_no (by omega) hcl (fun r hr h1 h2 h3 => by
       omega)
   rw [hno]; rfl
  refine WC.skip (hK25 _ _ (WC.sr ?_))
  refine WL.run tbk 6 hs23 [] rfl ⟨by first | omega | (simp only [p6]; omega), by first | omega | (simp only [p6]; omega), trivial⟩ (WL.val rfl rfl rfl (Run.sliceLH (1) (3) Tryz.runUnderlying22 Tryz.sizeOf5 rfl rfl rfl rfl ?_ ?_ ?_) ?_)
  · first | rfl | (first | omega | (simp only [p6]; omega))
  · first | rfl | (first | omega | (simp only [p6]; omega))
  · refine ⟨?_, ?_, ?_⟩ <;> (first | omega | (simp only [p6]; omega))
  refine WL.cl Tryz.call256 rfl (k48_ _ _ _ _ _ (SlF.cutC (lo := 1) (hi := 3) (SlF.st0 f_b hs23) (by refine ⟨?_, ?_, ?_⟩ <;> (first | omega | (simp only [p6]; omega)))) ?_) ?_
  · first | assumption | rfl | omega
  rintro _ whs27 ⟨rfl, hs27⟩
  replace hs27 := hs23.call0 hs27
  refine ⟨_, rfl, WL.r 3 hs27 [] rfl ?_⟩
  have htv := tlV_bnd (l := (b.drop 1).take (3 - 1)) (by rw [List.length_take, List.length_drop]; omega)
  refine WL.r 2 hs27 [] rfl (WL.nil (WC.sr ?_))
  refine WL.run tbk 4 hs27 [] rfl ⟨by first | omega | (simp only [p6]; omega), by first | omega | (simp only [p6]; omega), trivial⟩ (WL.val rfl rfl rfl (Run.shl rfl rfl rfl ?_ ?_ ?_) ?_)
  · first | omega | (simp only [p6]; omega)
  · first | omega | (simp only [p6]; omega)
  · simp only [p6]; constructor <;> omega
  refine WL.r 1 hs27 [] rfl (WL.val rfl rfl rfl (Run.or rfl rfl rfl ?_ ?_ ?_ ?_) ?_)
  · first | omega | (simp only [p6]; omega)
  · first | omega | (simp only [p6]; omega)
  · first | omega | (simp only [p6]; omega)
  · first | omega | (simp only [p6]; omega)
  refine WL.r 1 hs27 [] rfl (WL.nil (WC.seq (fun K28 hK28 => WC.seq (fun K29 hK29 => WC.rH hs27 hs27 (fun _ hs30 => ?_)))))
  refine WH.rn [0, 1, 2] hs30 [] rfl rfl (WH.split 58 rfl (fun g31 => ?_) (fun g31 => ?_))
  ·refine WH.takeSkip 3 rfl (by kernel_rfl) (wantNF rfl g31) rfl rfl hs30 (WH.takeSkip 5 rfl (by kernel_rfl) (wantNF rfl g31) rfl rfl hs30 (WH.takeSkip 6 rfl (by kernel_rfl) (wantNF rfl g31) rfl rfl hs30 (WH.takeSkip 7 rfl (by kernel_rfl) (wantNF rfl g31) rfl rfl hs30 (WH.takeSkip 8 rfl (by kernel_rfl) (wantNF rfl g31) rfl rfl hs30 (WH.takeSkip 9 rfl (by kernel_rfl) (wantNF rfl g31) rfl rfl hs30 (WH.takeSkip 10 rfl (by kernel_rfl) (wantNF rfl g31) rfl rfl hs30 (WH.o1 4 rfl ?_)))))))
   refine WL.skip (wantNF rfl g31) rfl rfl (WL.nil ⟨hs30, WH.o1 11 rfl (WL.skip (wantNF rfl g31) rfl rfl (WL.nil ⟨hs30, WH.takeSkip 12 rfl (by kernel_rfl) (wantNF rfl g31) rfl rfl hs30 ?_⟩))⟩)
   refine WH.take 13 rfl (by kernel_rfl) rfl rfl rfl hs30 (fun w_ hs_ => (Run.pickT rfl rfl g31 rfl)) ?_
   refine WH.dn (hK29 _ _ ?_)
   refine WC.cq rfl (fun h32 qh32 => ?_) (fun h32 qh32 => ?_)
   ·refine WC.r1 hs30 [] rfl (WC.ret (tkR ?_))
    clear hK28
    refine retV2 rfl (resV.tmp rfl) (resV.tmp rfl) (⟨congrArg Ending.returned ?_, hs30.nil⟩)
    have hno : runeL b = none := rread_no (by omega) hcl (fun r hr h1 h2 h3 => by
        have h9 := ‹(!tlOk ((b.drop 1).take (3 - 1))) = true›
        rw [h2] at h9; cases h9)
    rw [hno]; rfl
   refine WC.skip (hK28 _ _ (WC.r1 hs30 [] rfl (WC.ret (retV2 rfl (resV.tmp rfl) (resV.tmp rfl) (⟨congrArg Ending.returned ?_, hs30.nil⟩)))))
   cases h32
  refine WH.rnA (Acts.nil.cons (j := 2) rfl g31) [3, 5, 6, 7, 8, 9] hs30 [] rfl rfl ?_ (hS := ⟨by (first | omega | (simp only [p6]; omega)), trivial⟩)
  refine WH.take 10 rfl (by kernel_rfl) (wantF rfl g31) rfl rfl hs30 (fun w_ hs_ => (Run.sliceLH (0) (3) Tryz.runUnderlying22 Tryz.sizeOf5 rfl rfl rfl rfl ?_ ?_ ?_)) ?_
  · first | rfl | (first | omega | (simp only [p6]; omega))
  · first | rfl | (first | omega | (simp only [p6]; omega))
  · refine ⟨?_, ?_, ?_⟩ <;> (first | omega | (simp only [p6]; omega))
  refine WH.o1 4 rfl (WL.call (wantF rfl g31) rfl rfl (Run.call Tryz.call263 rfl rfl rfl) (k49_ _ _) ?_)
  rintro _ whs33 ⟨A34, c35, L1_36, rfl, hs33, ho37⟩
  replace hs33 := hs30.callF hs33
  refine ⟨_, rfl, WL.nil ⟨(hs33.rm L1_36), WH.o1 11 rfl ?_⟩⟩
  refine WL.call (wantF rfl g31) rfl rfl (Run.call Tryz.call56 rfl rfl rfl) (k51_ _ _ _ _ _ _ _ _ _ (SlF.ofOwn ho37 (hs33.ow L1_36)) (SlF.cutC (lo := 0) (hi := 3) (SlF.st0 f_b hs33) (by refine ⟨?_, ?_, ?_⟩ <;> (first | omega | (simp only [p6]; omega)))) ?_) ?_
  · exact Nat.le_trans (runeB_len _) (by decide)
  rintro _ whs38 ⟨rfl, hs38⟩
  replace hs38 := hs33.call0 hs38
  refine ⟨_, rfl, WL.nil ⟨(hs38.rm L1_36), WH.rnA (Acts.nil.cons (j := 2) rfl g31) [12] (hs38.rm L1_36) [] rfl rfl ?_⟩⟩
  refine WH.take 13 rfl (by kernel_rfl) rfl rfl rfl (hs38.rm L1_36) (fun w_ hs_ => (Run.pick rfl rfl rfl rfl)) ?_
  refine WH.dn (hK29 _ _ ?_)
  refine WC.cq rfl (fun h39 qh39 => ?_) (fun h39 qh39 => ?_)
  ·refine WC.r1 hs38 [] rfl (WC.ret (tkR ?_))
   clear hK28
   refine retV2 rfl (resV.tmp rfl) (resV.tmp rfl) (⟨congrArg Ending.returned ?_, hs38.nil⟩)
   have hrs := rsum_or (a := gat encB b 0) (t := ((b.drop 1).take (3 - 1))) (c := 3) (x := (((gat encB b 0).toNat : Int) - 224) * 2 ^ 12) (.inr (.inr ⟨rfl, by omega, rfl⟩)) (by rw [List.length_take, List.length_drop]; omega)
   have hq9 : (bif !tlOk ((b.drop 1).take (3 - 1)) then true else !decide (runeB (rsum (gat encB b 0) ((b.drop 1).take (3 - 1)) 3) = b.take 3)) = true := by rw [← hrs]; exact h39
   have hno : runeL b = none := rread_no (by omega) hcl (fun r hr h1 h2 h3 => by
       rw [h2] at hq9; subst hr; have h10 : runeB (rsum (gat encB b 0) ((b.drop 1).take (3 - 1)) 3) = b.take 3 := h3; rw [h10, decide_eq_true rfl] at hq9; cases hq9)
   rw [hno]; rfl
  refine WC.skip (hK28 _ _ (WC.r1 hs38 [] rfl (WC.ret (retV2 rfl (resV.tmp rfl) (resV.tmp rfl) (⟨congrArg Ending.returned ?_, hs38.nil⟩)))))
  have hrs := rsum_or (a := gat encB b 0) (t := ((b.drop 1).take (3 - 1))) (c := 3) (x := (((gat encB b 0).toNat : Int) - 224) * 2 ^ 12) (.inr (.inr ⟨rfl, by omega, rfl⟩)) (by rw [List.length_take, List.length_drop]; omega)
  have hq9 : (bif !tlOk ((b.drop 1).take (3 - 1)) then true else !decide (runeB (rsum (gat encB b 0) ((b.drop 1).take (3 - 1)) 3) = b.take 3)) = false := by rw [← hrs]; exact h39
  rcases h11 : tlOk ((b.drop 1).take (3 - 1)) with _ | _ <;> rw [h11] at hq9
  · cases hq9
  have hyes := rread_yes (by omega) hcl (by omega) h11 hrs (by rw [hrs]; by_cases h12 : runeB (rsum (gat encB b 0) ((b.drop 1).take (3 - 1)) 3) = b.take 3; exact h12; rw [decide_eq_false h12] at hq9; cases hq9)
  rw [hyes]; rfl
 have hcl : rcls (bat b 0) = 1 := by unfold rcls; rw [if_neg (by simp only [gat, bat] at *; omega), if_neg (by simp only [gat, bat] at *; omega)]
 refine WC.skip (hK5 _ _ (WC.seq (fun K40 hK40 => ?_)))
 refine WC.rr tbk hs23 [] rfl ⟨by first | omega | (simp only [p6]; omega), trivial⟩ (WC.cq rfl (fun h41 qh41 => ?_) (fun h41 qh41 => ?_))
 ·refine WC.r1 hs23 [] rfl (WC.ret (tkR ?_))
  clear hK40
  refine retV2 rfl (resV.tmp rfl) (resV.tmp rfl) (⟨congrArg Ending.returned ?_, hs23.nil⟩)
  have hno : runeL b = none := rread_no (by omega) hcl (fun r hr h1 h2 h3 => by
      omega)
  rw [hno]; rfl
 refine WC.skip (hK40 _ _ (WC.sr ?_))
 refine WL.run tbk 6 hs23 [] rfl ⟨by first | omega | (simp only [p6]; omega), by first | omega | (simp only [p6]; omega), trivial⟩ (WL.val rfl rfl rfl (Run.sliceLH (1) (1) Tryz.runUnderlying22 Tryz.sizeOf5 rfl rfl rfl rfl ?_ ?_ ?_) ?_)
 · first | rfl | (first | omega | (simp only [p6]; omega))
 · first | rfl | (first | omega | (simp only [p6]; omega))
 · refine ⟨?_, ?_, ?_⟩ <;> (first | omega | (simp only [p6]; omega))
 refine WL.cl Tryz.call256 rfl (k48_ _ _ _ _ _ (SlF.cutC (lo := 1) (hi := 1) (SlF.st0 f_b hs23) (by refine ⟨?_, ?_, ?_⟩ <;> (first | omega | (simp only [p6]; omega)))) ?_) ?_
 · first | assumption | rfl | omega
 rintro _ whs42 ⟨rfl, hs42⟩
 replace hs42 := hs23.call0 hs42
 refine ⟨_, rfl, WL.r 3 hs42 [] rfl ?_⟩
 have htv := tlV_bnd (l := (b.drop 1).take (1 - 1)) (by rw [List.length_take, List.length_drop]; omega)
 refine WL.r 2 hs42 [] rfl (WL.nil (WC.sr ?_))
 refine WL.run tbk 4 hs42 [] rfl ⟨by first | omega | (simp only [p6]; omega), by first | omega | (simp only [p6]; omega), trivial⟩ (WL.val rfl rfl rfl (Run.shl rfl rfl rfl ?_ ?_ ?_) ?_)
 · first | omega | (simp only [p6]; omega)
 · first | omega | (simp only [p6]; omega)
 · simp only [p6]; constructor <;> omega
 refine WL.r 1 hs42 [] rfl (WL.val rfl rfl rfl (Run.or rfl rfl rfl ?_ ?_ ?_ ?_) ?_)
 · first | omega | (simp only [p6]; omega)
 · first | omega | (simp only [p6]; omega)
 · first | omega | (simp only [p6]; omega)
 · first | omega | (simp only [p6]; omega)
 refine WL.r 1 hs42 [] rfl (WL.nil (WC.seq (fun K43 hK43 => WC.seq (fun K44 hK44 => WC.rH hs42 hs42 (fun _ hs45 => ?_)))))
 refine WH.rn [0, 1, 2] hs45 [] rfl rfl (WH.split 58 rfl (fun g46 => ?_) (fun g46 => ?_))
 ·refine WH.takeSkip 3 rfl (by kernel_rfl) (wantNF rfl g46) rfl rfl hs45 (WH.takeSkip 5 rfl (by kernel_rfl) (wantNF rfl g46) rfl rfl hs45 (WH.takeSkip 6 rfl (by kernel_rfl) (wantNF rfl g46) rfl rfl hs45 (WH.takeSkip 7 rfl (by kernel_rfl) (wantNF rfl g46) rfl rfl hs45 (WH.takeSkip 8 rfl (by kernel_rfl) (wantNF rfl g46) rfl rfl hs45 (WH.takeSkip 9 rfl (by kernel_rfl) (wantNF rfl g46) rfl rfl hs45 (WH.takeSkip 10 rfl (by kernel_rfl) (wantNF rfl g46) rfl rfl hs45 (WH.o1 4 rfl ?_)))))))
  refine WL.skip (wantNF rfl g46) rfl rfl (WL.nil ⟨hs45, WH.o1 11 rfl (WL.skip (wantNF rfl g46) rfl rfl (WL.nil ⟨hs45, WH.takeSkip 12 rfl (by kernel_rfl) (wantNF rfl g46) rfl rfl hs45 ?_⟩))⟩)
  refine WH.take 13 rfl (by kernel_rfl) rfl rfl rfl hs45 (fun w_ hs_ => (Run.pickT rfl rfl g46 rfl)) ?_
  refine WH.dn (hK44 _ _ ?_)
  refine WC.cq rfl (fun h47 qh47 => ?_) (fun h47 qh47 => ?_)
  ·refine WC.r1 hs45 [] rfl (WC.ret (tkR ?_))
   clear hK43
   refine retV2 rfl (resV.tmp rfl) (resV.tmp rfl) (⟨congrArg Ending.returned ?_, hs45.nil⟩)
   have hno : runeL b = none := rread_no (by omega) hcl (fun r hr h1 h2 h3 => by
       have h9 := ‹(!tlOk ((b.drop 1).take (1 - 1))) = true›
       rw [h2] at h9; cases h9)
   rw [hno]; rfl
  refine WC.skip (hK43 _ _ (WC.r1 hs45 [] rfl (WC.ret (retV2 rfl (resV.tmp rfl) (resV.tmp rfl) (⟨congrArg Ending.returned ?_, hs45.nil⟩)))))
  cases h47
 refine WH.rnA (Acts.nil.cons (j := 2) rfl g46) [3, 5, 6, 7, 8, 9] hs45 [] rfl rfl ?_ (hS := ⟨by (first | omega | (simp only [p6]; omega)), trivial⟩)
 refine WH.take 10 rfl (by kernel_rfl) (wantF rfl g46) rfl rfl hs45 (fun w_ hs_ => (Run.sliceLH (0) (1) Tryz.runUnderlying22 Tryz.sizeOf5 rfl rfl rfl rfl ?_ ?_ ?_)) ?_
 · first | rfl | (first | omega | (simp only [p6]; omega))
 · first | rfl | (first | omega | (simp only [p6]; omega))
 · refine ⟨?_, ?_, ?_⟩ <;> (first | omega | (simp only [p6]; omega))
 refine WH.o1 4 rfl (WL.call (wantF rfl g46) rfl rfl (Run.call Tryz.call263 rfl rfl rfl) (k49_ _ _) ?_)
 rintro _ whs48 ⟨A49, c50, L1_51, rfl, hs48, ho52⟩
 replace hs48 := hs45.callF hs48
 refine ⟨_, rfl, WL.nil ⟨(hs48.rm L1_51), WH.o1 11 rfl ?_⟩⟩
 refine WL.call (wantF rfl g46) rfl rfl (Run.call Tryz.call56 rfl rfl rfl) (k51_ _ _ _ _ _ _ _ _ _ (SlF.ofOwn ho52 (hs48.ow L1_51)) (SlF.cutC (lo := 0) (hi := 1) (SlF.st0 f_b hs48) (by refine ⟨?_, ?_, ?_⟩ <;> (first | omega | (simp only [p6]; omega)))) ?_) ?_
 · exact Nat.le_trans (runeB_len _) (by decide)
 rintro _ whs53 ⟨rfl, hs53⟩
 replace hs53 := hs48.call0 hs53
 refine ⟨_, rfl, WL.nil ⟨(hs53.rm L1_51), WH.rnA (Acts.nil.cons (j := 2) rfl g46) [12] (hs53.rm L1_51) [] rfl rfl ?_⟩⟩
 refine WH.take 13 rfl (by kernel_rfl) rfl rfl rfl (hs53.rm L1_51) (fun w_ hs_ => (Run.pick rfl rfl rfl rfl)) ?_
 refine WH.dn (hK44 _ _ ?_)
 refine WC.cq rfl (fun h54 qh54 => ?_) (fun h54 qh54 => ?_)
 ·refine WC.r1 hs53 [] rfl (WC.ret (tkR ?_))
  clear hK43
  refine retV2 rfl (resV.tmp rfl) (resV.tmp rfl) (⟨congrArg Ending.returned ?_, hs53.nil⟩)
  have hrs := rsum_or (a := gat encB b 0) (t := ((b.drop 1).take (1 - 1))) (c := 1) (x := ((gat encB b 0).toNat : Int) * 2 ^ 0) (.inl ⟨rfl, rfl⟩) (by rw [List.length_take, List.length_drop]; omega)
  have hq9 : (bif !tlOk ((b.drop 1).take (1 - 1)) then true else !decide (runeB (rsum (gat encB b 0) ((b.drop 1).take (1 - 1)) 1) = b.take 1)) = true := by rw [← hrs]; exact h54
  have hno : runeL b = none := rread_no (by omega) hcl (fun r hr h1 h2 h3 => by
      rw [h2] at hq9; subst hr; have h10 : runeB (rsum (gat encB b 0) ((b.drop 1).take (1 - 1)) 1) = b.take 1 := h3; rw [h10, decide_eq_true rfl] at hq9; cases hq9)
  rw [hno]; rfl
 refine WC.skip (hK43 _ _ (WC.r1 hs53 [] rfl (WC.ret (retV2 rfl (resV.tmp rfl) (resV.tmp rfl) (⟨congrArg Ending.returned ?_, hs53.nil⟩)))))
 have hrs := rsum_or (a := gat encB b 0) (t := ((b.drop 1).take (1 - 1))) (c := 1) (x := ((gat encB b 0).toNat : Int) * 2 ^ 0) (.inl ⟨rfl, rfl⟩) (by rw [List.length_take, List.length_drop]; omega)
 have hq9 : (bif !tlOk ((b.drop 1).take (1 - 1)) then true else !decide (runeB (rsum (gat encB b 0) ((b.drop 1).take (1 - 1)) 1) = b.take 1)) = false := by rw [← hrs]; exact h54
 rcases h11 : tlOk ((b.drop 1).take (1 - 1)) with _ | _ <;> rw [h11] at hq9
 · cases hq9
 have hyes := rread_yes (by omega) hcl (by omega) h11 hrs (by rw [hrs]; by_cases h12 : runeB (rsum (gat encB b 0) ((b.drop 1).take (1 - 1)) 1) = b.take 1; exact h12; rw [decide_eq_false h12] at hq9; cases hq9)
 rw [hyes]; rfl
theorem built_75_0 (x0 : Int) : Tryz.prog.built 75 [(0, .int .i64 x0)] = some (List.toArray [.int .i64 x0, .int .i64 0, .int .i64 0, .bool false, .bool false, .bool false]) := by kernel_rfl
theorem built_28_0_1_2 (x0 : Int) (x1 : Int) (x2 : Option Addr) (x3 : Nat) (x4 : Nat) : Tryz.prog.built 28 [(0, .int .i64 x0), (1, .int .i64 x1), (2, .slice x2 x3 x4)] = some (List.toArray [.int .i64 x0, .int .i64 x1, .slice x2 x3 x4]) := by kernel_rfl
theorem built_33 : Tryz.prog.built 33 [] = some (List.toArray [.int .i64 0, .int .i64 0, .int .i64 0, .int .i64 0, .slice none 0 0, .int .i64 0, .int .i64 0, .slice none 0 0, .bool false, .int .i64 0, .int .i64 0, .bool false, .int .i64 0, .int .i64 0, .bool false, .bool false, .bool false, .int .i64 0, .int .i64 0, .bool false, .bool false, .int .i64 0, .int .i64 0, .int .i64 0, .int .i64 0, .bool false, .bool false, .bool false, .slice none 0 0, .int .i64 0, .slice none 0 0]) := by kernel_rfl
theorem built_33_0_1_2_3_10_16_17 (x0 : Int) (x1 : Int) (x2 : Value) (x3 : Value) (x4 : Value) (x5 : Value) (x6 : Value) (x7 : Value) (x8 : Int) (x9 : Option Addr) (x10 : Nat) (x11 : Nat) (x12 : Int) : Tryz.prog.built 33 [(0, .int .i64 x0), (1, .int .i64 x1), (2, .agg [x2, x3, x4].toArray), (3, .agg [x5, x6, x7].toArray), (10, .int .i64 x8), (16, .slice x9 x10 x11), (17, .int .i64 x12)] = some (List.toArray [.int .i64 x0, .int .i64 x1, x2, x3, x4, x5, x6, x7, .bool false, .int .i64 0, .int .i64 0, .bool false, .int .i64 0, .int .i64 0, .bool false, .bool false, .bool false, .int .i64 0, .int .i64 x8, .bool false, .bool false, .int .i64 0, .int .i64 0, .int .i64 0, .int .i64 0, .bool false, .bool false, .bool false, .slice x9 x10 x11, .int .i64 x12, .slice none 0 0]) := by kernel_rfl
theorem k55_ (w_ h_ : Int) (w : World) :
    Calls Tryz.prog 132 #[i64 w_, i64 h_] w fun e w' => e = .returned (.bool (isSize w_ h_)) ∧ St w [] [] w' := by
 refine enter 17 Tryz.func132 rfl Tryz.ntmps132 rfl rfl ?_
 have hs1 := St.init w
 refine WC.r1 hs1 [] rfl (WC.sr (WL.r 1 hs1 [] rfl (WL.cl Tryz.call97 rfl (k0_ _ _ _ _) ?_)))
 rintro _ whs2 ⟨rfl, hs2⟩
 replace hs2 := hs1.call0 hs2
 refine ⟨_, rfl, WL.r 1 hs2 [] rfl ?_⟩
 apply WL.gA 2 Acts.nil hs2 rfl
 ·intro g3 J4
  have qg3 := g3
  try simp only [bf, within_iff, within_not] at qg3
  refine WL.runA tbk 1 (Acts.nil.cons (j := 2) rfl g3) hs2 [] rfl trivial (WL.call (wantT rfl g3) rfl rfl (Run.call Tryz.call97 rfl rfl rfl) (k0_ _ _ _ _) ?_)
  rintro _ whs5 ⟨rfl, hs5⟩
  replace hs5 := hs2.call0 hs5
  refine ⟨_, rfl, WL.eA 2 Acts.nil J4 hs5 g3 rfl rfl⟩
 intro _ hs6
 refine WL.r 1 hs6 [] rfl ?_
 apply WL.gA 4 Acts.nil hs6 rfl
 ·intro g7 J8
  have qg7 := g7
  try simp only [bf, within_iff, within_not] at qg7
  refine WL.runA tbk 4 (Acts.nil.cons (j := 6) rfl g7) hs6 [] rfl ⟨?_, trivial⟩ ?_
  · (have h9 := mul_size (w := w_) (h := h_) (by omega) (by omega); constructor <;> omega)
  exact WL.eA 4 Acts.nil J8 hs6 g7 rfl rfl
 intro _ hs9
 refine WL.r 1 hs9 [] rfl (WL.nil (WC.ret (rtv rfl rfl hs9 ?_)))
 rfl
theorem k56_  (w : World) :
    Calls Tryz.prog 253 #[] w fun e w' => e = .returned (.agg #[i64 32, i64 0, i64 0, .bool false, .bool false, .bool false]) ∧ St w [] [] w' := by
 refine enter 2 Tryz.func253 rfl Tryz.ntmps253 rfl rfl ?_
 have hs1 := St.init w
 refine WC.sr (WL.al hs1 Tryz.zeroValue75 rfl rfl (fun b2 _ hs3 => WL.nil (WC.sr ?_)))
 refine WL.val rfl rfl rfl (Run.build rfl rfl rfl rfl (built_75_0 _)) (WL.st tbk hs3 0 rfl rfl (fun _ hs4 => WL.nil (WC.ret (retV1 rfl (resV.cellA tbk hs4 0 rfl rfl rfl rfl) (⟨congrArg Ending.returned ?_, hs4.nil⟩)))))
 rfl
theorem k57_  (w : World) :
    Calls Tryz.prog 180 #[] w fun e w' => e = .returned (.agg #[i64 32, i64 0, i64 0, .bool false, .bool false, .bool false]) ∧ St w [] [] w' := by
 refine enter 2 Tryz.func180 rfl Tryz.ntmps180 rfl rfl ?_
 have hs1 := St.init w
 refine WC.sr (WL.al hs1 Tryz.zeroValue75 rfl rfl (fun b2 _ hs3 => WL.nil (WC.sr ?_)))
 refine WL.val rfl rfl rfl (Run.build rfl rfl rfl rfl (built_75_0 _)) (WL.st tbk hs3 0 rfl rfl (fun _ hs4 => WL.nil (WC.ret (retV1 rfl (resV.cellA tbk hs4 0 rfl rfl rfl rfl) (⟨congrArg Ending.returned ?_, hs4.nil⟩)))))
 rfl
theorem k58_ (c : Nat) (w : World) (hc : c < 4294967296) :
    Calls Tryz.prog 265 #[.int .u64 ((1 : Nat) : Int), .int .u64 (c : Int)] w fun e w' => e = .returned (.tuple #[.int .u64 ((0 : Nat) : Int), .int .u64 (c : Int)]) ∧ St w [] [] w' := by
 refine enter 51 Tryz.func265 rfl Tryz.ntmps265 rfl rfl ?_
 have hs1 := St.init w
 refine WC.r1 hs1 [] rfl (WC.sr (WL.r 1 hs1 [] rfl (WL.val rfl rfl rfl (Run.maskU (1) rfl rfl rfl ?_) ?_)))
 · omega
 refine WL.r 1 hs1 [] rfl (WL.nil (WC.sr (WL.r 1 hs1 [] rfl (WL.val rfl rfl rfl (Run.shrU (1) (0) rfl rfl rfl ?_ ?_ ?_) ?_))))
 · omega
 · omega
 · show _ / 4294967296 = _; omega
 refine WL.r 1 hs1 [] rfl (WL.nil (WC.sr (WL.r 1 hs1 [] rfl (WL.val rfl rfl rfl (Run.maskU (c) rfl rfl rfl ?_) ?_))))
 · omega
 refine WL.r 1 hs1 [] rfl (WL.nil (WC.sr (WL.r 1 hs1 [] rfl (WL.val rfl rfl rfl (Run.shrU (c) (0) rfl rfl rfl ?_ ?_ ?_) ?_))))
 · omega
 · omega
 · show _ / 4294967296 = _; omega
 refine WL.r 1 hs1 [] rfl (WL.nil (WC.sr (WL.r 2 hs1 [] rfl (WL.val rfl rfl rfl (Run.asN (c) (Run.mulW rfl rfl rfl) ?_) ?_))))
 · exact wrapU _ (by omega) (by omega)
 refine WL.r 1 hs1 [] rfl (WL.nil (WC.sr (WL.r 2 hs1 [] rfl (WL.val rfl rfl rfl (Run.asN (0) (Run.mulW rfl rfl rfl) ?_) ?_))))
 · exact wrapU _ (by omega) (by omega)
 refine WL.r 1 hs1 [] rfl (WL.val rfl rfl rfl (Run.shrU (c) (0) rfl rfl rfl ?_ ?_ ?_) ?_)
 · omega
 · omega
 · show _ / 4294967296 = _; omega
 refine WL.val rfl rfl rfl (Run.asN (0) (Run.addW rfl rfl rfl) ?_) ?_
 · exact wrapU _ (by omega) (by omega)
 refine WL.r 1 hs1 [] rfl (WL.nil (WC.sr (WL.r 1 hs1 [] rfl (WL.val rfl rfl rfl (Run.maskU (0) rfl rfl rfl ?_) ?_))))
 · omega
 refine WL.r 1 hs1 [] rfl (WL.nil (WC.sr (WL.r 1 hs1 [] rfl (WL.val rfl rfl rfl (Run.shrU (0) (0) rfl rfl rfl ?_ ?_ ?_) ?_))))
 · omega
 · omega
 · show _ / 4294967296 = _; omega
 refine WL.r 1 hs1 [] rfl (WL.nil (WC.sr (WL.r 3 hs1 [] rfl (WL.val rfl rfl rfl (Run.asN (0) (Run.mulW rfl rfl rfl) ?_) ?_))))
 · exact wrapU _ (by omega) (by omega)
 refine WL.val rfl rfl rfl (Run.asN (0) (Run.addW rfl rfl rfl) ?_) ?_
 · exact wrapU _ (by omega) (by omega)
 refine WL.r 1 hs1 [] rfl (WL.nil (WC.sr (WL.r 2 hs1 [] rfl (WL.val rfl rfl rfl (Run.asN (0) (Run.mulW rfl rfl rfl) ?_) ?_))))
 · exact wrapU _ (by omega) (by omega)
 refine WL.r 1 hs1 [] rfl (WL.val rfl rfl rfl (Run.asN (0) (Run.addW rfl rfl rfl) ?_) ?_)
 · exact wrapU _ (by omega) (by omega)
 refine WL.r 1 hs1 [] rfl (WL.val rfl rfl rfl (Run.shrU (0) (0) rfl rfl rfl ?_ ?_ ?_) ?_)
 · omega
 · omega
 · show _ / 4294967296 = _; omega
 refine WL.val rfl rfl rfl (Run.asN (0) (Run.addW rfl rfl rfl) ?_) ?_
 · exact wrapU _ (by omega) (by omega)
 refine WL.r 1 hs1 [] rfl (WL.nil (WC.sr (WL.r 2 hs1 [] rfl (WL.val rfl rfl rfl (Run.asN (c) (Run.mulW rfl rfl rfl) ?_) ?_))))
 · exact wrapU _ (by omega) (by omega)
 refine WL.r 1 hs1 [] rfl (WL.nil (WC.ret (retV2 rfl (resV.tmp rfl) (resV.tmp rfl) (⟨congrArg Ending.returned ?_, hs1.nil⟩))))
 rfl
theorem k59_ (c : Nat) (w : World) (hc : c < 4294967296) :
    Calls Tryz.prog 262 #[.int .u64 ((1 : Nat) : Int), .int .u64 (c : Int)] w fun e w' => e = .returned (.tuple #[.int .u64 ((0 : Nat) : Int), .int .u64 (c : Int)]) ∧ St w [] [] w' := by
 refine enter 30 Tryz.func262 rfl Tryz.ntmps262 rfl rfl ?_
 have hs1 := St.init w
 refine WC.r1 hs1 [] rfl (WC.seq (fun K2 hK2 => WC.condF rfl rfl (WC.skip (hK2 _ _ (WC.sr (WL.r 2 hs1 [] rfl ?_))))))
 refine WL.cl Tryz.call265 rfl (k58_ _ _ ?_) ?_
 · first | assumption | rfl | omega
 rintro _ whs4 ⟨rfl, hs4⟩
 replace hs4 := hs1.call0 hs4
 refine ⟨_, rfl, WL.r 5 hs4 [] rfl (WL.nil (WC.r1 hs4 [] rfl (WC.ret (retV2 rfl (resV.tmp rfl) (resV.tmp rfl) (⟨congrArg Ending.returned ?_, hs4.nil⟩)))))⟩
 rfl
theorem k60_ (A_x : Option Addr) (n_x c_x : Nat) (x : List CellD) (q_ : Int) (w : World) (f_x : SlF encCell w A_x n_x x) (hx : n_x = 1) (hc : 1 ≤ q_ ∧ q_ ≤ 4000) :
    Calls Tryz.prog 252 #[.slice A_x n_x c_x, i64 q_] w fun e w' => ∃ A c L1, e = .returned (.slice A (List.replicate q_.toNat (gat encCell x 0)).length c) ∧ St w [] L1 w' ∧ OwnF encCell 75 (.slice A (List.replicate q_.toNat (gat encCell x 0)).length c) (List.replicate q_.toNat (gat encCell x 0)) L1 := by
 have hx1 := hx ▸ f_x.len
 refine enter 48 Tryz.func252 rfl Tryz.ntmps252 rfl rfl ?_
 have hs1 := St.init w
 refine WC.r1 hs1 [] rfl (WC.seq (fun K2 hK2 => WC.r1 hs1 [] rfl (WC.condF rfl (decide_eq_false (by omega)) (WC.skip (hK2 _ _ (WC.sr (WL.r 2 hs1 [] rfl ?_)))))))
 refine WL.val rfl rfl rfl (Run.asN (1) (Run.conv Tryz.runUnderlying3 Tryz.runUnderlying219 rfl rfl) ?_) ?_
 · exact wrapU _ (by omega) (by decide)
 refine WL.r 1 hs1 [] rfl (WL.val rfl rfl rfl (Run.asN (q_.toNat) (Run.conv Tryz.runUnderlying3 Tryz.runUnderlying219 rfl rfl) ?_) ?_)
 · exact wrapU _ (by omega) (by omega)
 refine WL.cl Tryz.call262 rfl (k59_ _ _ ?_) ?_
 · first | assumption | rfl | omega
 rintro _ whs4 ⟨rfl, hs4⟩
 replace hs4 := hs1.call0 hs4
 refine ⟨_, rfl, WL.r 5 hs4 [] rfl (WL.nil (WC.seq (fun K5 hK5 => WC.sr (WL.r 1 hs4 [] rfl (WL.val rfl rfl rfl (Run.gtr rfl rfl rfl) (WL.r 1 hs4 [] rfl ?_))))))⟩
 apply WL.gO 2 Acts.nil hs4 rfl
 ·intro g6 J7
  have qg6 := g6
  try simp only [bf, within_iff, within_not] at qg6
  refine WL.runA tbk 1 (Acts.nil.cons (j := 2) rfl g6) hs4 [] rfl trivial (WL.val (wantF rfl g6) rfl rfl (Run.gtr rfl rfl rfl) (WL.eO 2 Acts.nil J7 hs4 g6 rfl rfl))
 intro _ hs8
 refine WL.nil ?_
 refine WC.condF rfl (by (try simp only [bf]); constructor <;> omega) (WC.skip (hK5 _ _ (WC.sr (WL.r 1 hs8 [] rfl ?_))))
 refine WL.val rfl rfl rfl (Run.asN (q_.toNat) (Run.conv Tryz.runUnderlying219 Tryz.runUnderlying3 rfl rfl) ?_) ?_
 · exact wrap_in (by constructor <;> omega)
 refine WL.makeF (F := encCell) hs8 Tryz.underlying26 inf75 rfl rfl rfl rfl rfl rfl rfl rfl rfl ?_ ?_ (fun A13 c14 L10 whs11 hs11 ho12 => ?_)
 · have e_ : Tryz.t75.bytes = 32 := rfl
   rw [e_]; omega
 · omega
 refine WL.r 1 hs11 [] rfl (WL.nil (WC.sr (WL.r 2 hs11 [] rfl (WL.copyF (lo := 0) hs11 ho12 (SlF.st0 f_x hs11) Tryz.underlying26 Tryz.underlying26 inf75 rfl rfl rfl rfl rfl rfl rfl (.inr ⟨rfl, rfl⟩) ?_ ?_ (fun L15 _ hs16 ho17 => ?_)))))
 · first | omega | (simp; omega)
 · first | omega | (simp; omega)
 refine WL.r 1 hs16 [] rfl (WL.nil (WC.seq (fun K18 hK18 => WC.block ?_)))
 refine WC.lO [4, 10, 26] rfl hs16 (fun k_ f L_ => ∃ (m : Nat), k_ = q_.toNat - m ∧ (1 ≤ m) ∧ (m ≤ q_.toNat) ∧ OwnF encCell 75 (.slice A13 (q_.toNat) c14) (List.replicate m (gat encCell x 0) ++ List.replicate (q_.toNat - m) encCell.dflt) L_ ∧ Sub [(7, .slice A13 (q_.toNat) c14), (8, .int .i64 m)] f) (((fun (m : Nat) => q_.toNat - m) (1))) ?_ ?_
 ·refine ⟨1, rfl, ?_, ?_, (rep_first (n := q_.toNat) (by omega) hx hx1 ▸ ho17), ⟨rfl, ?_, trivial⟩⟩
  · omega
  · omega
  · (refine congrArg some (congrArg (Value.int _) ?_); omega)
 clear hs16
 rintro _ f w L21 ⟨m, rfl, p0, p1, ho22, hG⟩ hF hs23
 refine WC.sub _ (hG.app hF) ?_
 clear hG hF
 have hlm : (List.replicate m (gat encCell x 0) ++ List.replicate (q_.toNat - m) encCell.dflt).length = q_.toNat := by simp; omega
 refine WC.seq (fun K24 hK24 => WC.r1 hs23 [] rfl ?_)
 refine WC.cq rfl (fun h25 qh25 => ?_) (fun h25 qh25 => ?_)
 ·refine WC.skip (hK24 _ _ (WC.block (WC.rH (hs23.rm L21) hs23 (fun _ hs26 => ?_))))
  refine WH.rn [0, 1, 2] (hs26.rm L21) [] rfl rfl ?_
  have hc_ := OwnF.cap ho22
  refine WH.take 3 rfl (by kernel_rfl) rfl rfl rfl (hs26.rm L21) (fun w_ hs_ => (Run.sliceL (m) Tryz.runUnderlying26 Tryz.sizeOf75 rfl rfl rfl ?_ ?_)) ?_
  · first | rfl | (omega)
  · refine ⟨?_, ?_, ?_⟩ <;> (omega)
  refine WH.rn [4, 5] (hs26.rm L21) [] rfl rfl ?_
  have hc_ := OwnF.cap ho22
  refine WH.take 6 rfl (by kernel_rfl) rfl rfl rfl (hs26.rm L21) (fun w_ hs_ => (Run.sliceH (m) Tryz.runUnderlying26 Tryz.sizeOf75 rfl rfl rfl ?_ ?_)) ?_
  · first | rfl | (omega)
  · refine ⟨?_, ?_, ?_⟩ <;> (omega)
  refine WH.o1 7 rfl ?_
  refine WL.copyF (lo := m) hs26 ho22 (SlF.cutH (m) (SlF.ofOwn ho22 (hs26.ow L21)) (by refine ⟨?_, ?_, ?_⟩ <;> (omega))) Tryz.underlying26 Tryz.underlying26 inf75 rfl rfl rfl rfl rfl rfl rfl (.inl rfl) ?_ ?_ (fun L27 _ hs28 ho29 => ?_)
  · first | omega | (simp; omega)
  · first | omega | (simp; omega)
  refine WL.nil ⟨(hs28.rm L27), WH.rn [8, 9] (hs28.rm L27) [] rfl rfl (WH.dn (ibN (tkN (⟨sbF rfl, _, hs28, _, ?_, (m + min m (q_.toNat - m)), rfl, ?_, ?_, (rep_next p0 p1 ▸ ho29), ⟨rfl, ?_, trivial⟩⟩))))⟩
  · omega
  · omega
  · omega
  · (refine congrArg some (congrArg (Value.int _) ?_); omega)
 refine WC.exit (hK18 _ _ (WC.r1 hs23 [] rfl (WC.ret (retV1 rfl (resV.tmp rfl) ?_))))
 have hx_ := OwnF.eqOf (xs := List.replicate q_.toNat (gat encCell x 0)) ho22 (by rw [show m = q_.toNat by omega, Nat.sub_self]; simp)
 rw [← hx_]
 first | exact ⟨_, _, _, rfl, (St.keep1 hs23), ho22⟩ | exact ⟨A13, c14, _, by rw [OwnF.len_ ho22], (St.keep1 hs23), by rw [OwnF.len_ ho22]; exact ho22⟩
theorem k61_ (w_ : Int) (h_ : Int) (w : World) (hs : isSize w_ h_ = true) :
    Calls Tryz.prog 215 #[i64 w_, i64 h_] w fun e w' => ∃ r L1, e = .returned (.agg #[i64 r.W, i64 r.H, .slice r.Cells.A r.Cells.n r.Cells.c]) ∧ St w [] L1 w' ∧ ownGridR r L1 ∧ r.dat = gridNew w_ h_ := by
 obtain ⟨hw, hh, hm1, hm2⟩ := isSize_bnd hs
 refine enter 14 Tryz.func215 rfl Tryz.ntmps215 rfl rfl ?_
 have hs1 := St.init w
 refine WC.sr (WL.al hs1 Tryz.zeroValue28 rfl rfl (fun b2 _ hs3 => WL.nil (WC.sr (WL.r 2 hs3 [] rfl (WL.cl Tryz.call253 rfl (k56_ _) ?_)))))
 rintro _ whs4 ⟨rfl, hs4⟩
 replace hs4 := hs3.call0 hs4
 refine ⟨_, rfl, WL.buildF (F := encCell) hs4 ([blankC]) Tryz.runUnderlying26 Tryz.sizeOf75 Tryz.zeroValue75 rfl rfl rfl rfl rfl rfl rfl rfl rfl rfl rfl rfl (fun A8 c9 L5 whs6 hs6 ho7 => ?_)⟩
 replace hs6 := St.back [_] hs6
 refine WL.r 3 hs6 [] rfl (WL.cl Tryz.call252 rfl (k60_ _ _ _ _ _ _ (SlF.ofOwn ho7 (hs6.ow L5)) ?_ ?_) ?_)
 iterate 2 first | assumption | rfl | omega
 rintro _ whs10 ⟨A11, c12, L1_13, rfl, hs10, ho14⟩
 replace hs10 := hs6.callF hs10
 refine ⟨_, rfl, ?_⟩
 replace hs10 := St.back [_] hs10
 refine WL.val rfl rfl rfl (Run.build rfl rfl rfl rfl (built_28_0_1_2 _ _ _ _ _)) (WL.st tbk hs10 0 rfl rfl (fun _ hs15 => WL.nil (WC.ret (retV1 rfl (resV.cellA tbk hs15 0 rfl rfl rfl rfl) ?_))))
 refine ⟨⟨w_, h_, SlD.of ho14⟩, _, rfl, (St.keep1 (hs15.fr L1_13)), ?_, ?_⟩
 · exact ho14
 · rfl
theorem k62_ (w_ : Int) (w : World) (hw : 1 ≤ w_ ∧ w_ ≤ 120) :
    Calls Tryz.prog 216 #[i64 w_] w fun e w' => ∃ A c L1, e = .returned (.slice A (tabsL w_).length c) ∧ St w [] L1 w' ∧ OwnF encI 3 (.slice A (tabsL w_).length c) (tabsL w_) L1 := by
 refine enter 16 Tryz.func216 rfl Tryz.ntmps216 rfl rfl ?_
 have hs1 := St.init w
 refine WC.r1 hs1 [] rfl (WC.sr (WL.buildF (F := encI) hs1 ([]) Tryz.runUnderlying23 Tryz.sizeOf3 Tryz.zeroValue3 rfl rfl rfl rfl rfl rfl rfl rfl rfl rfl rfl rfl (fun A5 c6 L2 whs3 hs3 ho4 => WL.r 1 hs3 [] rfl (WL.nil (WC.seq (fun K7 hK7 => WC.r1 hs3 [] rfl (WC.block ?_)))))))
 refine WC.lO [0, 2] rfl hs3 (fun k_ f L_ => ∃ (i : Nat) (A8 : Option Addr) (c9 : Nat), k_ = 121 - i ∧ (i = 0 ∨ 8 * (i : Int) < w_) ∧ (i ≤ 120) ∧ OwnF encI 3 (.slice A8 (((List.range i).map (fun i : Nat => 8 * ((i : Int) + 1))).length) c9) (((List.range i).map (fun i : Nat => 8 * ((i : Int) + 1)))) L_ ∧ Sub [(3, .slice A8 (((List.range i).map (fun i : Nat => 8 * ((i : Int) + 1))).length) c9), (4, .int .i64 (8 * ((i : Int) + 1)))] f) (((fun (i : Nat) => 121 - i) (0))) ?_ ?_
 ·refine ⟨0, _, _, rfl, ?_, ?_, ho4, ⟨?_, ?_, trivial⟩⟩
  · exact .inl rfl
  · omega
  · rfl
  · rfl
 clear hs3
 rintro _ f w L10 ⟨i, A8, c9, rfl, p0, p1, ho11, hG⟩ hF hs12
 refine WC.sub _ (hG.app hF) ?_
 clear hG hF
 have hlt : (((List.range i).map (fun i : Nat => 8 * ((i : Int) + 1)))).length = i := by simp
 refine WC.seq (fun K13 hK13 => WC.r1 hs12 [] rfl ?_)
 refine WC.cq rfl (fun h14 qh14 => ?_) (fun h14 qh14 => ?_)
 ·refine WC.skip (hK13 _ _ (WC.seq (fun K15 hK15 => WC.block (WC.region (WL.r 2 hs12 [] rfl (WL.buildSlice hs12 Tryz.runUnderlying23 Tryz.sizeOf3 Tryz.zeroValue3 rfl rfl rfl rfl rfl rfl rfl rfl rfl rfl (fun b16 whs17 hs17 => ?_)))))))
  refine WL.appendG (hs17.fr L10) ho11 (srcI1 Tryz.underlying23 (hs17.own _ (nthL_mem (i := 0) rfl)).1) Tryz.underlying23 inf3 rfl rfl rfl rfl rfl rfl rfl rfl rfl rfl ?_ (fun A21 c22 L18 whs19 hs19 ho20 => ?_)
  · simp; omega
  replace hs19 := St.back [_] hs19
  refine WL.r 1 hs19 [] rfl (WL.nil (hK15 _ _ (WC.region (WL.r 3 hs19 [] rfl (WL.nil (tkN ?_))))))
  replace hs19 := hs19.d1
  refine ⟨sbF rfl, _, hs19, _, ?_, i + 1, _, _, rfl, ?_, ?_, (tabsL_take (w := w_) (by omega) ▸ ho20), ⟨?_, ?_, trivial⟩⟩
  · omega
  · right; omega
  · omega
  · (rw [tabsL_take (w := w_) (i := i) (by omega)]; rfl)
  · (refine congrArg some (congrArg (Value.int _) ?_); omega)
 refine WC.exit (hK7 _ _ (WC.r1 hs12 [] rfl (WC.ret (retV1 rfl (resV.tmp rfl) ?_))))
 have hx_ := OwnF.eqOf (xs := tabsL w_) ho11 (by exact tabsL_end (by omega) p0)
 rw [← hx_]
 first | exact ⟨_, _, _, rfl, (St.keep1 hs12), ho11⟩ | exact ⟨A8, c9, _, by rw [OwnF.len_ ho11], (St.keep1 hs12), by rw [OwnF.len_ ho11]; exact ho11⟩
theorem k63_ (w_ : Int) (h_ : Int) (l : Int) (w : World) :
    Calls Tryz.prog 157 #[i64 w_, i64 h_, i64 l] w fun e w' => ∃ r0 L0, e = .returned (.tuple #[.agg (cScr r0).toArray, .bool (scrMay w_ h_ l)]) ∧ St w [] (L0) w' ∧ ownScrR r0 L0 ∧ r0.dat = scrRes w_ h_ l := by
 refine enter 32 Tryz.func157 rfl Tryz.ntmps157 rfl rfl ?_
 have hs1 := St.init w
 refine WC.sr (WL.al hs1 Tryz.zeroValue33 rfl rfl (fun b2 _ hs3 => WL.r 1 hs3 [] rfl (WL.nil (WC.seq (fun K4 hK4 => WC.sr (WL.r 2 hs3 [] rfl (WL.cl Tryz.call132 rfl (k55_ _ _ _) ?_)))))))
 rintro _ whs5 ⟨rfl, hs5⟩
 replace hs5 := hs3.call0 hs5
 refine ⟨_, rfl, WL.r 2 hs5 [] rfl ?_⟩
 apply WL.gO 3 Acts.nil hs5 rfl
 ·intro g6 J7
  have qg6 := g6
  try simp only [bf, within_iff, within_not] at qg6
  refine WL.runA tbk 1 (Acts.nil.cons (j := 4) rfl g6) hs5 [] rfl trivial (WL.call (wantF rfl g6) rfl rfl (Run.call Tryz.call97 rfl rfl rfl) (k0_ _ _ _ _) ?_)
  rintro _ whs8 ⟨rfl, hs8⟩
  replace hs8 := hs5.call0 hs8
  refine ⟨_, rfl, WL.runA tbk 1 (Acts.nil.cons (j := 4) rfl g6) hs8 [] rfl trivial (WL.eO 3 Acts.nil J7 hs8 g6 rfl rfl)⟩
 intro _ hs9
 refine WL.nil (WC.cq rfl (fun h10 qh10 => ?_) (fun h10 qh10 => ?_))
 ·have hm : scrMay w_ h_ l = false := by rw [← Bool.not_eq_true]; intro h9; unfold scrMay at h9; have h8 := h10; rw [← Bool.not_and, h9] at h8; cases h8
  refine WC.sr ?_
  refine WL.val rfl rfl rfl (Run.build rfl rfl rfl rfl (built_33)) (WL.st tbk hs9 0 rfl rfl (fun _ hs11 => WL.r 1 hs11 [] rfl (WL.nil (WC.ret (tkR ?_)))))
  clear hK4
  refine retV2 rfl (resV.cellA tbk hs11 0 rfl rfl rfl rfl) (resV.tmp rfl) ?_
  rw [hm]
  have hv : scrRes w_ h_ l = scr0 := by unfold scrRes; rw [hm]; rfl
  obtain ⟨L17, hs16, ho18⟩ := ownScrR.fl hs11 (OwnF.nil _ _) (OwnF.nil _ _) (OwnF.nil _ _) (OwnN.nil _ _ _)
  have hs19 := (hs16.fb b2)
  refine ⟨⟨0, 0, ⟨0, 0, ⟨none, 0, 0, []⟩⟩, ⟨0, 0, ⟨none, 0, 0, []⟩⟩, false, 0, 0, false, ⟨0, 0, false, false, false⟩, 0, 0, false, false, 0, 0, ⟨0, 0, false, false, false⟩, ⟨none, 0, 0, []⟩, 0, ⟨none, 0, 0, []⟩⟩, _, rfl, (St.keep1 (hs19.fr L17)), ?_, ?_⟩
  · exact (by exact ho18)
  · rw [hv]; rfl
 have hm : scrMay w_ h_ l = true := by unfold scrMay; rw [Bool.and_eq_true, within_iff]; exact qh10
 have hs : isSize w_ h_ = true := by unfold scrMay at hm; rw [Bool.and_eq_true] at hm; exact hm.1
 obtain ⟨hw, hh, hm1, hm2⟩ := isSize_bnd hs
 refine WC.skip (hK4 _ _ (WC.sr (WL.r 4 hs9 [] rfl ?_)))
 refine WL.cl Tryz.call215 rfl (k61_ _ _ _ ?_) ?_
 · first | assumption | rfl | omega
 rintro _ whs20 ⟨r21, L1_22, rfl, hs20, ho23, hd24⟩
 replace hs20 := hs9.callF hs20
 refine ⟨_, rfl, ?_⟩
 replace hs20 := St.back [_] hs20
 refine WL.r 2 hs20 [] rfl (WL.cl Tryz.call215 rfl (k61_ _ _ _ ?_) ?_)
 · first | assumption | rfl | omega
 rintro _ whs25 ⟨r26, L1_27, rfl, hs25, ho28, hd29⟩
 replace hs25 := hs20.callF hs25
 refine ⟨_, rfl, ?_⟩
 replace hs25 := St.back [_] hs25
 refine WL.r 3 hs25 [] rfl (WL.cl Tryz.call216 rfl (k62_ _ _ ?_) ?_)
 · first | assumption | rfl | omega
 rintro _ whs30 ⟨A31, c32, L1_33, rfl, hs30, ho34⟩
 replace hs30 := hs25.callF hs30
 refine ⟨_, rfl, ?_⟩
 replace hs30 := St.back [_] hs30
 refine WL.r 1 hs30 [] rfl ?_
 refine WL.val rfl rfl rfl (Run.build rfl rfl rfl rfl (built_33_0_1_2_3_10_16_17 _ _ _ _ _ _ _ _ _ _ _ _ _)) (WL.st tbk hs30 0 rfl rfl (fun _ hs35 => WL.r 1 hs35 [] rfl (WL.nil (WC.ret (retV2 rfl (resV.cellA tbk hs35 0 rfl rfl rfl rfl) (resV.tmp rfl) ?_)))))
 rw [hm]
 have hv : scrRes w_ h_ l = scrNew w_ h_ l := by unfold scrRes; rw [hm]; rfl
 obtain ⟨L38, hs37, ho39⟩ := ownScrR.fl hs35 ho23 ho28 ho34 (OwnN.nil _ _ _)
 have hs40 := (hs37.fb b2)
 refine ⟨⟨w_, h_, ⟨r21.W, r21.H, SlD.of ho23⟩, ⟨r26.W, r26.H, SlD.of ho28⟩, false, 0, 0, false, ⟨0, 0, false, false, false⟩, 0, (h_ - (1)), false, false, 0, 0, ⟨0, 0, false, false, false⟩, SlD.of ho34, l, ⟨none, 0, 0, []⟩⟩, _, rfl, (St.keep1 (hs40.fr L38)), ?_, ?_⟩
 · exact (by exact ho39)
 · rw [hv]; exact ScrD.ext' rfl rfl hd24 hd29 rfl rfl rfl rfl rfl rfl rfl rfl rfl rfl rfl rfl rfl rfl rfl
theorem built_28 : Tryz.prog.built 28 [] = some (List.toArray [.int .i64 0, .int .i64 0, .slice none 0 0]) := by kernel_rfl
theorem built_28_0_1 (x0 : Int) (x1 : Int) : Tryz.prog.built 28 [(0, .int .i64 x0), (1, .int .i64 x1)] = some (List.toArray [.int .i64 x0, .int .i64 x1, .slice none 0 0]) := by kernel_rfl
theorem k64_ (g : GridR) (w : World) (f_g : okGridR 549755813888 w g) (hsm : smGrid 1099511627 g.dat) :
    Calls Tryz.prog 141 #[.agg #[i64 g.W, i64 g.H, .slice g.Cells.A g.Cells.n g.Cells.c]] w fun e w' => ∃ r L1, e = .returned (.agg #[i64 r.W, i64 r.H, .slice r.Cells.A r.Cells.n r.Cells.c]) ∧ St w [] L1 w' ∧ ownGridR r L1 ∧ r.dat = g.dat := by
 have nb_g_Cells := f_g.Cells_n
 have nl_g_Cells := f_g.Cells.len
 have hl9 : g.Cells.xs.length ≤ 1099511627 := hsm
 refine enter 9 Tryz.func141 rfl Tryz.ntmps141 rfl rfl ?_
 have hs1 := St.init w
 refine WC.sr (WL.bx hs1 rfl (fun b2 _ hs3 => WL.al hs3 Tryz.zeroValue28 rfl rfl (fun b4 _ hs5 => WL.nil (WC.sr (WL.buildF (F := encCell) hs5 ([]) Tryz.runUnderlying26 Tryz.sizeOf75 Tryz.zeroValue75 rfl rfl rfl rfl rfl rfl rfl rfl rfl rfl rfl rfl (fun A9 c10 L6 whs7 hs7 ho8 => ?_))))))
 replace hs7 := St.back [_, _] hs7
 refine WL.r 2 hs7 [1] rfl (WL.appendG (hs7.fr L6) ho8 (SlF.src (SlF.st0 f_g.Cells hs7) Tryz.underlying26) Tryz.underlying26 inf75 rfl rfl rfl rfl rfl rfl rfl rfl rfl rfl ?_ (fun A14 c15 L11 whs12 hs12 ho13 => ?_))
 · simp; omega
 replace hs12 := St.back [_, _] hs12
 refine WL.r 1 hs12 [] rfl (WL.st tbk hs12 1 rfl rfl (fun _ hs16 => WL.nil (WC.sr (WL.r 1 hs16 [1] rfl (WL.st tbk hs16 0 rfl rfl (fun _ hs17 => WL.nil (WC.ret ?_)))))))
 refine retV1 rfl (resV.cellA tbk hs17 0 rfl rfl rfl rfl) (⟨⟨g.W, g.H, SlD.of ho13⟩, _, rfl, (St.keep1 (hs17.fr L11)), ?_, ?_⟩)
 · exact ho13
 · rfl
theorem k65_ (w_ : Int) (h_ : Int) (w : World) :
    Calls Tryz.prog 146 #[i64 w_, i64 h_] w fun e w' => ∃ r0 L0, e = .returned (.tuple #[.agg #[i64 r0.W, i64 r0.H, .slice r0.Cells.A r0.Cells.n r0.Cells.c], .bool (isSize w_ h_)]) ∧ St w [] (L0) w' ∧ ownGridR r0 L0 ∧ r0.dat = gridRes w_ h_ := by
 refine enter 46 Tryz.func146 rfl Tryz.ntmps146 rfl rfl ?_
 have hs1 := St.init w
 refine WC.sr (WL.al hs1 Tryz.zeroValue28 rfl rfl (fun b2 _ hs3 => WL.r 1 hs3 [] rfl (WL.nil (WC.seq (fun K4 hK4 => WC.sr (WL.r 3 hs3 [] rfl (WL.pO tbk 2 Acts.nil hs3 [] rfl rfl rfl rfl (fun g_ => trivial) ?_)))))))
 refine WL.r 1 hs3 [] rfl (WL.pO tbk 2 Acts.nil hs3 [] rfl rfl rfl rfl (fun g_ => trivial) (WL.r 1 hs3 [] rfl (WL.pO tbk 2 Acts.nil hs3 [] rfl rfl rfl rfl (fun g_ => trivial) (WL.r 1 hs3 [] rfl ?_))))
 apply WL.gO 4 Acts.nil hs3 rfl
 ·intro g5 J6
  have qg5 := g5
  try simp only [bf, within_iff, within_not] at qg5
  refine WL.runA tbk 4 (Acts.nil.cons (j := 14) rfl g5) hs3 [] rfl ⟨?_, trivial⟩ ?_
  · (have h9 := mul_size (w := w_) (h := h_) (by omega) (by omega); constructor <;> omega)
  exact WL.eO 4 Acts.nil J6 hs3 g5 rfl rfl
 intro _ hs7
 refine WL.nil (WC.cq rfl (fun h8 qh8 => ?_) (fun h8 qh8 => ?_))
 ·have hm : isSize w_ h_ = false := by rw [← Bool.not_eq_true, isSize_iff]; have h8 := h8; simp at h8; omega
  refine WC.sr ?_
  refine WL.val rfl rfl rfl (Run.build rfl rfl rfl rfl (built_28)) (WL.st tbk hs7 0 rfl rfl (fun _ hs9 => WL.r 1 hs9 [] rfl (WL.nil (WC.ret (tkR ?_)))))
  clear hK4
  refine retV2 rfl (resV.cellA tbk hs9 0 rfl rfl rfl rfl) (resV.tmp rfl) ?_
  rw [show isSize w_ h_ = false from hm]
  have hv : gridRes w_ h_ = grid0 := by unfold gridRes; rw [hm]; rfl
  refine ⟨⟨0, 0, ⟨none, 0, 0, []⟩⟩, _, rfl, (St.keep1 (hs9.fr ([] : Hp))), ?_, ?_⟩
  · exact (OwnF.nil _ _)
  · rw [hv]; rfl
 have hm : isSize w_ h_ = true := by rw [isSize_iff]; have h8 := h8; simp at h8; omega
 obtain ⟨hw, hh, hm1, hm2⟩ := isSize_bnd hm
 refine WC.skip (hK4 _ _ (WC.sr (WL.r 2 hs7 [] rfl ?_)))
 refine WL.val rfl rfl rfl (Run.build rfl rfl rfl rfl (built_28_0_1 _ _)) (WL.al hs7 Tryz.zeroValue28 rfl rfl (fun b11 _ hs12 => WL.st tbk hs12 0 rfl rfl (fun _ hs13 => WL.nil (WC.seq (fun K14 hK14 => WC.r1 hs13 [] rfl (WC.block ?_))))))
 have hM20 := (St.grp1 (L1 := ([] : Hp)) [_] (((hs13.fb b2).fr ([] : Hp)).fb b11))
 refine WC.lV [0, 1, 4, 5, 6, 27] rfl hM20 (fun k_ (a_ : Hp) f => ∃ (i : Nat) (zs : List CellD) (A16 : Option Addr) (c17 : Nat) (L18 : Hp), k_ = (w_ * h_).toNat - i ∧ a_ = [(b11, .cells (List.toArray [i64 w_, i64 h_, .slice A16 zs.length c17]) 28 (0, 0))] ++ L18 ∧ (i ≤ (w_ * h_).toNat) ∧ (zs = List.replicate i blankC) ∧ OwnF encCell 75 (.slice A16 (zs).length c17) (zs) L18 ∧ Sub [(7, .int .i64 i)] f) (((fun (i : Nat) (zs : List CellD) => (w_ * h_).toNat - i) (0) ([]))) ?_ ?_
 ·refine ⟨0, [], none, 0, ([] : Hp), rfl, rfl, ?_, ?_, (OwnF.nil _ _), ⟨rfl, trivial⟩⟩
  · omega
  · rfl
 rintro _ _ f w ⟨i, zs, A16, c17, L18, rfl, rfl, p0, p1, ho19, hG⟩ hF hs21
 refine WC.sub _ (hG.app hF) ?_
 clear hG hF
 replace hs21 := St.ungrp1 [_] hs21
 have hs22 := ((hs21.fb b2).fb b11)
 have hzl : zs.length = i := by rw [p1]; simp
 refine WC.seq (fun K23 hK23 => WC.r1 hs22 [] rfl ?_)
 refine WC.cq rfl (fun h24 qh24 => ?_) (fun h24 qh24 => ?_)
 ·refine WC.skip (hK23 _ _ (WC.seq (fun K25 hK25 => WC.block (WC.rH (hs22.d1.rm L18) hs22 (fun _ hs26 => ?_)))))
  refine WH.rn [0] (hs26.d1.rm L18) [] rfl rfl (WH.all [1, 2] (by kernel_rfl) rfl (WHs.cons (i := 1) rfl ?_ (WHs.cons (i := 2) rfl ?_ WHs.nil)))
  ·refine WL.r 1 hs26 [0] rfl (WL.nil ⟨(hs26.d1.rm L18), WH.o1 2 rfl (WL.cl Tryz.call180 rfl (k57_ _) ?_)⟩)
   rintro _ whs27 ⟨rfl, hs27⟩
   replace hs27 := hs26.call0 hs27
   refine ⟨_, rfl, WL.nil ⟨(hs27.d1.rm L18), WH.o1 3 rfl (WL.buildF (F := encCell) hs27 ([blankC]) Tryz.runUnderlying26 Tryz.sizeOf75 Tryz.zeroValue75 rfl rfl rfl rfl rfl rfl rfl rfl rfl rfl rfl rfl (fun A31 c32 L28 whs29 hs29 ho30 => ?_))⟩⟩
   replace hs29 := St.back [_, _] hs29
   refine WL.nil ⟨((hs29.d1.rm L28).rm L18), WH.o1 4 rfl (WL.appendG (hs29.fr L18) ho19 (SlF.src (SlF.ofOwn ho30 (hs29.ow L28)) Tryz.underlying26) Tryz.underlying26 inf75 rfl rfl rfl rfl rfl rfl rfl rfl rfl rfl ?_ (fun A36 c37 L33 whs34 hs34 ho35 => ?_))⟩
   · simp; omega
   replace hs34 := St.back [_, _] hs34
   refine WL.nil ⟨((hs34.d1.rm L33).rm L28), WH.rn [5] ((hs34.d1.rm L33).rm L28) [] rfl rfl (WH.o1 6 rfl (WL.st tbk hs34 0 rfl rfl (fun _ hs38 => WL.nil ⟨((hs38.d1.rm L33).rm L28), WH.dn (hK25 _ _ (WC.region ?_))⟩)))⟩
   refine WL.r 3 hs38 [] rfl (WL.nil (tkN ?_))
   replace hs38 := (hs38.rm L28)
   have hF39 := (St.grp1 (L1 := L33) [_] (((hs38.fb b2).fr L33).fb b11))
   refine ⟨sbF rfl, _, hF39, _, ?_, i + 1, _, A36, c37, L33, rfl, rfl, ?_, ?_, ho35, ⟨rfl, trivial⟩⟩
   · omega
   · omega
   · rw [p1]; exact List.replicate_succ'.symm
  refine WL.cl Tryz.call180 rfl (k57_ _) ?_
  rintro _ whs40 ⟨rfl, hs40⟩
  replace hs40 := hs26.call0 hs40
  refine ⟨_, rfl, WL.nil ⟨(hs40.d1.rm L18), WH.all [1, 3] (by kernel_rfl) rfl (WHs.cons (i := 1) rfl ?_ (WHs.cons (i := 3) rfl ?_ WHs.nil))⟩⟩
  ·refine WL.r 1 hs40 [0] rfl (WL.nil ⟨(hs40.d1.rm L18), WH.o1 3 rfl (WL.buildF (F := encCell) hs40 ([blankC]) Tryz.runUnderlying26 Tryz.sizeOf75 Tryz.zeroValue75 rfl rfl rfl rfl rfl rfl rfl rfl rfl rfl rfl rfl (fun A44 c45 L41 whs42 hs42 ho43 => ?_))⟩)
   replace hs42 := St.back [_, _] hs42
   refine WL.nil ⟨((hs42.d1.rm L41).rm L18), WH.o1 4 rfl (WL.appendG (hs42.fr L18) ho19 (SlF.src (SlF.ofOwn ho43 (hs42.ow L41)) Tryz.underlying26) Tryz.underlying26 inf75 rfl rfl rfl rfl rfl rfl rfl rfl rfl rfl ?_ (fun A49 c50 L46 whs47 hs47 ho48 => ?_))⟩
   · simp; omega
   replace hs47 := St.back [_, _] hs47
   refine WL.nil ⟨((hs47.d1.rm L46).rm L41), WH.rn [5] ((hs47.d1.rm L46).rm L41) [] rfl rfl (WH.o1 6 rfl (WL.st tbk hs47 0 rfl rfl (fun _ hs51 => WL.nil ⟨((hs51.d1.rm L46).rm L41), WH.dn (hK25 _ _ (WC.region ?_))⟩)))⟩
   refine WL.r 3 hs51 [] rfl (WL.nil (tkN ?_))
   replace hs51 := (hs51.rm L41)
   have hF52 := (St.grp1 (L1 := L46) [_] (((hs51.fb b2).fr L46).fb b11))
   refine ⟨sbF rfl, _, hF52, _, ?_, i + 1, _, A49, c50, L46, rfl, rfl, ?_, ?_, ho48, ⟨rfl, trivial⟩⟩
   · omega
   · omega
   · rw [p1]; exact List.replicate_succ'.symm
  refine WL.buildF (F := encCell) hs40 ([blankC]) Tryz.runUnderlying26 Tryz.sizeOf75 Tryz.zeroValue75 rfl rfl rfl rfl rfl rfl rfl rfl rfl rfl rfl rfl (fun A56 c57 L53 whs54 hs54 ho55 => ?_)
  replace hs54 := St.back [_, _] hs54
  refine WL.nil ⟨((hs54.d1.rm L53).rm L18), WH.o1 1 rfl (WL.r 1 hs54 [0] rfl (WL.nil ⟨((hs54.d1.rm L53).rm L18), WH.o1 4 rfl (WL.appendG (hs54.fr L18) ho19 (SlF.src (SlF.ofOwn ho55 (hs54.ow L53)) Tryz.underlying26) Tryz.underlying26 inf75 rfl rfl rfl rfl rfl rfl rfl rfl rfl rfl ?_ (fun A61 c62 L58 whs59 hs59 ho60 => ?_))⟩))⟩
  · simp; omega
  replace hs59 := St.back [_, _] hs59
  refine WL.nil ⟨((hs59.d1.rm L58).rm L53), WH.rn [5] ((hs59.d1.rm L58).rm L53) [] rfl rfl (WH.o1 6 rfl (WL.st tbk hs59 0 rfl rfl (fun _ hs63 => WL.nil ⟨((hs63.d1.rm L58).rm L53), WH.dn (hK25 _ _ (WC.region ?_))⟩)))⟩
  refine WL.r 3 hs63 [] rfl (WL.nil (tkN ?_))
  replace hs63 := (hs63.rm L53)
  have hF64 := (St.grp1 (L1 := L58) [_] (((hs63.fb b2).fr L58).fb b11))
  refine ⟨sbF rfl, _, hF64, _, ?_, i + 1, _, A61, c62, L58, rfl, rfl, ?_, ?_, ho60, ⟨rfl, trivial⟩⟩
  · omega
  · omega
  · rw [p1]; exact List.replicate_succ'.symm
 refine WC.exit (hK14 _ _ (WC.sr (WL.r 1 hs22 [0] rfl (WL.st tbk hs22 1 rfl rfl (fun _ hs65 => WL.r 1 hs65 [] rfl (WL.nil (WC.ret ?_)))))))
 refine retV2 rfl (resV.cellA tbk hs65 1 rfl rfl rfl rfl) (resV.tmp rfl) ?_
 rw [hm]
 have hv : gridRes w_ h_ = gridNew w_ h_ := by unfold gridRes; rw [hm]; rfl
 refine ⟨⟨w_, h_, SlD.of ho19⟩, _, rfl, (St.keep1 (hs65.fr L18)), ?_, ?_⟩
 · exact ho19
 · rw [hv]; show GridD.mk w_ h_ zs = _; rw [p1, show i = (w_ * h_).toNat by omega]; rfl
theorem k66_ (w_ : Int) (w : World) (hw : 1 ≤ w_ ∧ w_ ≤ 120) :
    Calls Tryz.prog 147 #[i64 w_] w fun e w' => ∃ A c L1, e = .returned (.slice A (tabsL w_).length c) ∧ St w [] L1 w' ∧ OwnF encI 3 (.slice A (tabsL w_).length c) (tabsL w_) L1 := by
 refine enter 16 Tryz.func147 rfl Tryz.ntmps147 rfl rfl ?_
 have hs1 := St.init w
 refine WC.r1 hs1 [] rfl (WC.sr (WL.buildF (F := encI) hs1 ([]) Tryz.runUnderlying23 Tryz.sizeOf3 Tryz.zeroValue3 rfl rfl rfl rfl rfl rfl rfl rfl rfl rfl rfl rfl (fun A5 c6 L2 whs3 hs3 ho4 => WL.r 1 hs3 [] rfl (WL.nil (WC.seq (fun K7 hK7 => WC.r1 hs3 [] rfl (WC.block ?_)))))))
 refine WC.lO [0, 2] rfl hs3 (fun k_ f L_ => ∃ (i : Nat) (A8 : Option Addr) (c9 : Nat), k_ = 121 - i ∧ (i = 0 ∨ 8 * (i : Int) < w_) ∧ (i ≤ 120) ∧ OwnF encI 3 (.slice A8 (((List.range i).map (fun i : Nat => 8 * ((i : Int) + 1))).length) c9) (((List.range i).map (fun i : Nat => 8 * ((i : Int) + 1)))) L_ ∧ Sub [(3, .slice A8 (((List.range i).map (fun i : Nat => 8 * ((i : Int) + 1))).length) c9), (4, .int .i64 (8 * ((i : Int) + 1)))] f) (((fun (i : Nat) => 121 - i) (0))) ?_ ?_
 ·refine ⟨0, _, _, rfl, ?_, ?_, ho4, ⟨?_, ?_, trivial⟩⟩
  · exact .inl rfl
  · omega
  · rfl
  · rfl
 clear hs3
 rintro _ f w L10 ⟨i, A8, c9, rfl, p0, p1, ho11, hG⟩ hF hs12
 refine WC.sub _ (hG.app hF) ?_
 clear hG hF
 have hlt : (((List.range i).map (fun i : Nat => 8 * ((i : Int) + 1)))).length = i := by simp
 refine WC.seq (fun K13 hK13 => WC.r1 hs12 [] rfl ?_)
 refine WC.cq rfl (fun h14 qh14 => ?_) (fun h14 qh14 => ?_)
 ·refine WC.skip (hK13 _ _ (WC.seq (fun K15 hK15 => WC.block (WC.region (WL.r 2 hs12 [] rfl (WL.buildSlice hs12 Tryz.runUnderlying23 Tryz.sizeOf3 Tryz.zeroValue3 rfl rfl rfl rfl rfl rfl rfl rfl rfl rfl (fun b16 whs17 hs17 => ?_)))))))
  refine WL.appendG (hs17.fr L10) ho11 (srcI1 Tryz.underlying23 (hs17.own _ (nthL_mem (i := 0) rfl)).1) Tryz.underlying23 inf3 rfl rfl rfl rfl rfl rfl rfl rfl rfl rfl ?_ (fun A21 c22 L18 whs19 hs19 ho20 => ?_)
  · simp; omega
  replace hs19 := St.back [_] hs19
  refine WL.r 1 hs19 [] rfl (WL.nil (hK15 _ _ (WC.region (WL.r 3 hs19 [] rfl (WL.nil (tkN ?_))))))
  replace hs19 := hs19.d1
  refine ⟨sbF rfl, _, hs19, _, ?_, i + 1, _, _, rfl, ?_, ?_, (tabsL_take (w := w_) (by omega) ▸ ho20), ⟨?_, ?_, trivial⟩⟩
  · omega
  · right; omega
  · omega
  · (rw [tabsL_take (w := w_) (i := i) (by omega)]; rfl)
  · (refine congrArg some (congrArg (Value.int _) ?_); omega)
 refine WC.exit (hK7 _ _ (WC.r1 hs12 [] rfl (WC.ret (retV1 rfl (resV.tmp rfl) ?_))))
 have hx_ := OwnF.eqOf (xs := tabsL w_) ho11 (by exact tabsL_end (by omega) p0)
 rw [← hx_]
 first | exact ⟨_, _, _, rfl, (St.keep1 hs12), ho11⟩ | exact ⟨A8, c9, _, by rw [OwnF.len_ ho11], (St.keep1 hs12), by rw [OwnF.len_ ho11]; exact ho11⟩
theorem k67_ (w_ : Int) (h_ : Int) (l : Int) (w : World) :
    Calls Tryz.prog 70 #[i64 w_, i64 h_, i64 l] w fun e w' => ∃ r0 L0, e = .returned (.tuple #[.agg (cScr r0).toArray, .bool (scrMay w_ h_ l)]) ∧ St w [] (L0) w' ∧ ownScrR r0 L0 ∧ r0.dat = scrRes w_ h_ l := by
 refine enter 38 Tryz.func70 rfl Tryz.ntmps70 rfl rfl ?_
 have hs1 := St.init w
 refine WC.sr (WL.al hs1 Tryz.zeroValue33 rfl rfl (fun b2 _ hs3 => WL.r 1 hs3 [] rfl (WL.nil (WC.sr (WL.r 2 hs3 [] rfl (WL.cl Tryz.call146 rfl (k65_ _ _ _) ?_))))))
 rintro _ whs4 ⟨r0_5, L0_6, rfl, hs4, ho7, hd0_8⟩
 replace hs4 := hs3.callF hs4
 refine ⟨_, rfl, ?_⟩
 replace hs4 := St.back [_] hs4
 refine WL.r 3 hs4 [] rfl (WL.al hs4 Tryz.zeroValue28 rfl rfl (fun b9 _ hs10 => WL.st tbk hs10 0 rfl rfl (fun _ hs11 => WL.r 1 hs11 [] rfl (WL.nil (WC.seq (fun K12 hK12 => WC.sr (WL.r 3 hs11 [] rfl ?_)))))))
 refine WL.pO tbk 2 Acts.nil hs11 [] rfl rfl rfl rfl (fun g_ => trivial) (WL.r 1 hs11 [] rfl (WL.pO tbk 2 Acts.nil hs11 [] rfl rfl rfl rfl (fun g_ => trivial) (WL.nil (WC.cq rfl (fun h13 qh13 => ?_) (fun h13 qh13 => ?_)))))
 ·have hm : scrMay w_ h_ l = false := by rw [← Bool.not_eq_true]; intro h9; unfold scrMay at h9; rw [Bool.and_eq_true, within_iff] at h9; have h8 := h13; simp [h9.1] at h8; omega
  refine WC.sr ?_
  refine WL.val rfl rfl rfl (Run.build rfl rfl rfl rfl (built_33)) (WL.st tbk hs11 1 rfl rfl (fun _ hs14 => WL.r 1 hs14 [] rfl (WL.nil (WC.ret (tkR ?_)))))
  clear hK12
  refine retV2 rfl (resV.cellA tbk hs14 1 rfl rfl rfl rfl) (resV.tmp rfl) ?_
  rw [hm]
  have hv : scrRes w_ h_ l = scr0 := by unfold scrRes; rw [hm]; rfl
  obtain ⟨L20, hs19, ho21⟩ := ownScrR.fl hs14 (OwnF.nil _ _) (OwnF.nil _ _) (OwnF.nil _ _) (OwnN.nil _ _ _)
  have hs22 := ((hs19.fb b2).fb b9)
  refine ⟨⟨0, 0, ⟨0, 0, ⟨none, 0, 0, []⟩⟩, ⟨0, 0, ⟨none, 0, 0, []⟩⟩, false, 0, 0, false, ⟨0, 0, false, false, false⟩, 0, 0, false, false, 0, 0, ⟨0, 0, false, false, false⟩, ⟨none, 0, 0, []⟩, 0, ⟨none, 0, 0, []⟩⟩, _, rfl, (St.keep1 (hs22.fr L20)), ?_, ?_⟩
  · exact (by exact ho21)
  · rw [hv]; rfl
 have hm : scrMay w_ h_ l = true := by unfold scrMay; rw [Bool.and_eq_true, within_iff]; have h8 := h13; simp at h8; exact ⟨h8.1.1, by omega⟩
 have hs : isSize w_ h_ = true := by unfold scrMay at hm; rw [Bool.and_eq_true] at hm; exact hm.1
 obtain ⟨hw, hh, hm1, hm2⟩ := isSize_bnd hs
 have hgr : gridRes w_ h_ = gridNew w_ h_ := by unfold gridRes; rw [hs]; rfl
 have hgB : smGrid 1099511627 (gridRes w_ h_) := by rw [hgr]; show (List.replicate _ _).length ≤ _; rw [List.length_replicate]; omega
 have hgB2 : smGrid 549755813888 (gridRes w_ h_) := Nat.le_trans hgB (by decide)
 refine WC.skip (hK12 _ _ (WC.seq (fun K23 hK23 => WC.rH (hs11.fb b2).d1 hs11 (fun _ hs24 => ?_))))
 refine WH.rn [0, 1, 2, 3, 5, 6, 7, 9] (hs24.fb b2).d1 [0, 0] rfl rfl (WH.o1 4 rfl ?_)
 refine WL.cl Tryz.call141 rfl (k64_ r0_5 _ (ownGridR.ok (B := 549755813888) ho7 (hs24.ow L0_6) (by rw [hd0_8]; assumption)) ?_) ?_
 · first | assumption | rfl | omega | (rw [hd0_8]; assumption)
 rintro _ whs25 ⟨r26, L1_27, rfl, hs25, ho28, hd29⟩
 replace hs25 := hs24.callF hs25
 refine ⟨_, rfl, ?_⟩
 replace hs25 := St.back [_, _] hs25
 refine WL.nil ⟨((hs25.fb b2).d1.rm L1_27), WH.o1 8 rfl (WL.cl Tryz.call147 rfl (k66_ _ _ ?_) ?_)⟩
 · first | assumption | rfl | omega | (rw [hd0_8]; assumption)
 rintro _ whs30 ⟨A31, c32, L1_33, rfl, hs30, ho34⟩
 replace hs30 := hs25.callF hs30
 refine ⟨_, rfl, ?_⟩
 replace hs30 := St.back [_, _] hs30
 refine WL.nil ⟨(((hs30.fb b2).d1.rm L1_33).rm L1_27), ?_⟩
 refine WH.take 10 rfl (by kernel_rfl) rfl rfl rfl (((hs30.fb b2).d1.rm L1_33).rm L1_27) (fun w_ hs_ => (Run.build rfl rfl rfl rfl (built_33_0_1_2_3_10_16_17 _ _ _ _ _ _ _ _ _ _ _ _ _))) ?_
 refine WH.o1 11 rfl (WL.st tbk hs30 1 rfl rfl (fun _ hs35 => WL.nil ⟨(((hs35.fb b2).d1.rm L1_33).rm L1_27), WH.rn [12] (((hs35.fb b2).d1.rm L1_33).rm L1_27) [] rfl rfl (WH.dn (hK23 _ _ (WC.ret (retV2 rfl (resV.cellA tbk hs35 1 rfl rfl rfl rfl) (resV.tmp rfl) ?_))))⟩))
 rw [hm]
 have hv : scrRes w_ h_ l = scrNew w_ h_ l := by unfold scrRes; rw [hm]; rfl
 obtain ⟨L38, hs37, ho39⟩ := ownScrR.fl hs35 ho7 ho28 ho34 (OwnN.nil _ _ _)
 have hs40 := ((hs37.fb b2).fb b9)
 refine ⟨⟨w_, h_, ⟨r0_5.W, r0_5.H, SlD.of ho7⟩, ⟨r26.W, r26.H, SlD.of ho28⟩, false, 0, 0, false, ⟨0, 0, false, false, false⟩, 0, (h_ - (1)), false, false, 0, 0, ⟨0, 0, false, false, false⟩, SlD.of ho34, l, ⟨none, 0, 0, []⟩⟩, _, rfl, (St.keep1 (hs40.fr L38)), ?_, ?_⟩
 · exact (by exact ho39)
 · rw [hv]; exact ScrD.ext' rfl rfl (hd0_8.trans hgr) (hd29.trans (hd0_8.trans hgr)) rfl rfl rfl rfl rfl rfl rfl rfl rfl rfl rfl rfl rfl rfl rfl
theorem k68_ (g : GridR) (w : World) (f_g : okGridR 549755813888 w g) :
    Calls Tryz.prog 93 #[.agg #[i64 g.W, i64 g.H, .slice g.Cells.A g.Cells.n g.Cells.c]] w fun e w' => e = .returned (.bool (gridOk g.dat)) ∧ St w [] [] w' := by
 have nb_g_Cells := f_g.Cells_n
 have nl_g_Cells := f_g.Cells.len
 refine enter 24 Tryz.func93 rfl Tryz.ntmps93 rfl rfl ?_
 have hs1 := St.init w
 refine WC.sr (WL.bx hs1 rfl (fun b2 _ hs3 => WL.r 1 hs3 [] rfl (WL.nil (WC.sr (WL.r 4 hs3 [0, 0] rfl (WL.cl Tryz.call132 rfl (k55_ _ _ _) ?_))))))
 rintro _ whs4 ⟨rfl, hs4⟩
 replace hs4 := hs3.call0 hs4
 refine ⟨_, rfl, WL.r 1 hs4 [] rfl ?_⟩
 apply WL.gA 9 Acts.nil hs4 rfl
 ·intro g5 J6
  have qg5 := g5
  try simp only [bf, within_iff, within_not] at qg5
  refine WL.runA tbk 9 (Acts.nil.cons (j := 5) rfl g5) hs4 [0, 0, 0] rfl ⟨?_, rfl, rfl, rfl, trivial⟩ ?_
  · (obtain ⟨_, _, h9, h10⟩ := isSize_bnd (w := g.W) (h := g.H) (by assumption); constructor <;> omega)
  exact WL.eA 9 Acts.nil J6 hs4 g5 rfl rfl
 intro _ hs7
 refine WL.r 1 hs7 [] rfl ?_
 apply WL.gA 3 Acts.nil hs7 rfl
 ·intro g8 J9
  have qg8 := g8
  try simp only [bf, within_iff, within_not] at qg8
  refine WL.runA tbk 2 (Acts.nil.cons (j := 16) rfl g8) hs7 [0] rfl ⟨rfl, trivial⟩ (WL.call (wantT rfl g8) rfl rfl (Run.call Tryz.call109 rfl rfl rfl) (k47_ _ _ _ _ _ (SlF.st0 f_g.Cells hs7) ?_) ?_)
  · first | assumption | rfl | omega
  rintro _ whs10 ⟨rfl, hs10⟩
  replace hs10 := hs7.call0 hs10
  refine ⟨_, rfl, WL.eA 3 Acts.nil J9 hs10 g8 rfl rfl⟩
 intro _ hs11
 refine WL.r 1 hs11 [] rfl (WL.nil (WC.ret (rtv rfl rfl hs11 ?_)))
 rw [← nl_g_Cells]; rfl
theorem k69_ (g : GridR) (x : Int) (y : Int) (w : World) (f_g : okGridR 549755813888 w g) (hw : 0 ≤ g.W ∧ g.W ≤ 120) (hh : 0 ≤ g.H ∧ g.H ≤ 120) :
    Calls Tryz.prog 94 #[.agg #[i64 g.W, i64 g.H, .slice g.Cells.A g.Cells.n g.Cells.c], i64 x, i64 y] w fun e w' => e = .returned (.bool (gridHas g.dat x y)) ∧ St w [] [] w' := by
 have nb_g_Cells := f_g.Cells_n
 have nl_g_Cells := f_g.Cells.len
 refine enter 19 Tryz.func94 rfl Tryz.ntmps94 rfl rfl ?_
 have hs1 := St.init w
 refine WC.sr (WL.bx hs1 rfl (fun b2 _ hs3 => WL.r 1 hs3 [] rfl (WL.nil (WC.sr (WL.r 4 hs3 [0] rfl (WL.cl Tryz.call97 rfl (k0_ _ _ _ _) ?_))))))
 rintro _ whs4 ⟨rfl, hs4⟩
 replace hs4 := hs3.call0 hs4
 refine ⟨_, rfl, WL.r 1 hs4 [] rfl ?_⟩
 apply WL.gA 5 Acts.nil hs4 rfl
 ·intro g5 J6
  have qg5 := g5
  try simp only [bf, within_iff, within_not] at qg5
  refine WL.runA tbk 4 (Acts.nil.cons (j := 5) rfl g5) hs4 [0] rfl ⟨by omega, rfl, trivial⟩ (WL.call (wantT rfl g5) rfl rfl (Run.call Tryz.call97 rfl rfl rfl) (k0_ _ _ _ _) ?_)
  rintro _ whs7 ⟨rfl, hs7⟩
  replace hs7 := hs4.call0 hs7
  refine ⟨_, rfl, WL.eA 5 Acts.nil J6 hs7 g5 rfl rfl⟩
 intro _ hs8
 refine WL.r 1 hs8 [] rfl (WL.nil (WC.ret (rtv rfl rfl hs8 ?_)))
 rfl
theorem k70_ (A_l : Option Addr) (n_l c_l : Nat) (l : List Int) (lo : Int) (hi : Int) (w : World) (f_l : SlF encI w A_l n_l l) (hn : n_l ≤ 549755813888) :
    Calls Tryz.prog 96 #[.slice A_l n_l c_l, i64 lo, i64 hi] w fun e w' => e = .returned (.bool (isAsc l lo hi)) ∧ St w [] [] w' := by
 refine enter 35 Tryz.func96 rfl Tryz.ntmps96 rfl rfl ?_
 have hs1 := St.init w
 refine WC.r1 hs1 [] rfl (WC.seq (fun K2 hK2 => WC.r1 hs1 [] rfl (WC.block ?_)))
 refine WC.lS [0, 1, 2, 9, 10] rfl hs1 (fun k_ f w' => ∃ (i : Nat), k_ = n_l - i ∧ (i ≤ n_l) ∧ (∀ j, j < i → ascAt l lo hi j = true) ∧ Sub [(11, .int .i64 i)] f) ((fun (i : Nat) => n_l - i) (0)) ?_ ?_
 ·refine ⟨0, rfl, ?_, ?_, ⟨rfl, trivial⟩⟩
  · exact Nat.zero_le _
  · exact fun j hj => absurd hj (by omega)
 clear hs1
 rintro _ f w ⟨i, rfl, p0, p1, hG⟩ hF hs3
 refine WC.sub _ (hG.app hF) ?_
 clear hG hF
 refine WC.r1 hs3 [] rfl (WC.seq (fun K4 hK4 => ?_))
 refine WC.cq rfl (fun h5 qh5 => ?_) (fun h5 qh5 => ?_)
 ·refine WC.skip (hK4 _ _ (WC.seq (fun K6 hK6 => WC.block (WC.sr (WL.r 1 hs3 [] rfl ?_)))))
  refine WL.val rfl rfl rfl (Run.idxN Tryz.runUnderlying23 Tryz.sizeOf3 rfl rfl rfl ?_ ?_ ?_) ?_
  · exact SlF.some_ (SlF.st0 f_l hs3)
  · omega
  · omega
  refine WL.val rfl rfl rfl (Run.load Tryz.isAgg3 rfl rfl (SlF.one1 (SlF.st0 f_l hs3) ?_ rfl)) ?_
  · omega
  refine WL.r 2 hs3 [] rfl (WL.nil (WC.sr (WL.r 3 hs3 [] rfl (WL.cl Tryz.call97 rfl (k0_ _ _ _ _) ?_))))
  rintro _ whs7 ⟨rfl, hs7⟩
  replace hs7 := hs3.call0 hs7
  refine ⟨_, rfl, WL.r 2 hs7 [] rfl ?_⟩
  apply WL.gO 11 Acts.nil hs7 rfl
  ·intro g8 J9
   have qg8 := g8
   try simp only [bf, within_iff, within_not] at qg8
   refine WL.runA tbk 3 (Acts.nil.cons (j := 5) rfl g8) hs7 [] rfl trivial ?_
   apply WL.gA 7 (Acts.nil.cons (j := 5) rfl g8) hs7 rfl
   ·intro g10 J11
    have qg10 := g10
    try simp only [bf, within_iff, within_not] at qg10
    refine WL.runA tbk 3 (Acts.nil.cons (j := 8) rfl g10) hs7 [] rfl ⟨by omega, trivial⟩ (WL.val (wantT rfl g10) rfl rfl (Run.idxK (i - 1) Tryz.runUnderlying23 Tryz.sizeOf3 rfl rfl rfl ?_ ?_ ?_) ?_)
    · exact SlF.some_ (SlF.st0 f_l hs7)
    · omega
    · omega
    refine WL.val (wantT rfl g10) rfl rfl (Run.load Tryz.isAgg3 rfl rfl (SlF.one1 (SlF.st0 f_l hs7) ?_ rfl)) ?_
    · omega
    refine WL.runA tbk 2 (Acts.nil.cons (j := 8) rfl g10) hs7 [] rfl trivial (WL.eA 7 (Acts.nil.cons (j := 5) rfl g8) J11 hs7 g10 rfl rfl)
   intro _ hs12
   exact WL.eO 4 Acts.nil J9 hs12 g8 rfl rfl
  intro _ hs13
  refine WL.nil (WC.cq rfl (fun h14 qh14 => ?_) (fun h14 qh14 => ?_))
  ·have ha : ascAt l lo hi i = false := by unfold ascAt; have h9 := h14; simp only [iat]; cases hw_ : within (gat encI l i) lo hi <;> rw [hw_] at h9 <;> simp at h9 ⊢ <;> omega
   refine WC.r1 hs13 [] rfl (WC.ret (ibR (tkR (tkR (ibR (tkR ?_))))))
   clear hK6 hK2
   refine rtv rfl rfl hs13 ?_
   rw [isAsc_not (by rw [f_l.len]; omega) ha]
  have ha : ascAt l lo hi i = true := by unfold ascAt; have h9 := h14; simp only [iat]; cases hw_ : within (gat encI l i) lo hi <;> rw [hw_] at h9 <;> simp at h9 ⊢ <;> omega
  refine WC.skip (hK6 _ _ (WC.region (WL.r 2 hs13 [] rfl (WL.nil (tkN ?_)))))
  refine ⟨sbF rfl, hs13, _, ?_, i + 1, rfl, ?_, ?_, ⟨rfl, trivial⟩⟩
  · omega
  · omega
  · intro j hj; rcases Nat.lt_or_ge j i with h_ | h_
    · exact p1 j h_
    · obtain rfl : j = i := by omega
      exact ha
 refine WC.exit (hK2 _ _ (WC.r1 hs3 [] rfl (WC.ret (rtv rfl rfl hs3 ?_))))
 rw [isAsc_all (fun j hj => p1 j (by rw [f_l.len] at hj; omega))]
theorem k71_ (r : RowR) (w : World) (f_r : okRowR 549755813888 w r) :
    Calls Tryz.prog 176 #[.agg #[.slice r.Cells.A r.Cells.n r.Cells.c]] w fun e w' => e = .returned (.bool (!rowOk r.dat)) ∧ St w [] [] w' := by
 have nb_r_Cells := f_r.Cells_n
 have nl_r_Cells := f_r.Cells.len
 refine enter 14 Tryz.func176 rfl Tryz.ntmps176 rfl rfl ?_
 have hs1 := St.init w
 refine WC.sr (WL.bx hs1 rfl (fun b2 _ hs3 => WL.r 1 hs3 [] rfl (WL.nil (WC.sr (WL.r 3 hs3 [0] rfl (WL.cl Tryz.call97 rfl (k0_ _ _ _ _) ?_))))))
 rintro _ whs4 ⟨rfl, hs4⟩
 replace hs4 := hs3.call0 hs4
 refine ⟨_, rfl, WL.r 2 hs4 [] rfl ?_⟩
 apply WL.gO 4 Acts.nil hs4 rfl
 ·intro g5 J6
  have qg5 := g5
  try simp only [bf, within_iff, within_not] at qg5
  refine WL.runA tbk 2 (Acts.nil.cons (j := 5) rfl g5) hs4 [0] rfl ⟨rfl, trivial⟩ (WL.call (wantF rfl g5) rfl rfl (Run.call Tryz.call109 rfl rfl rfl) (k47_ _ _ _ _ _ (SlF.st0 f_r.Cells hs4) ?_) ?_)
  · first | assumption | rfl | omega
  rintro _ whs7 ⟨rfl, hs7⟩
  replace hs7 := hs4.call0 hs7
  refine ⟨_, rfl, WL.runA tbk 1 (Acts.nil.cons (j := 5) rfl g5) hs7 [] rfl trivial (WL.eO 4 Acts.nil J6 hs7 g5 rfl rfl)⟩
 intro _ hs8
 refine WL.r 1 hs8 [] rfl (WL.nil (WC.ret (rtv rfl rfl hs8 ?_)))
 rw [show rowOk r.dat = (within (r.Cells.n : Int) 1 120 && cellsOk r.Cells.xs) by unfold rowOk; rw [← nl_r_Cells]; rfl, Bool.not_and]
theorem k72_ (A_s : Option Addr) (n_s c_s : Nat) (s : List RowR) (w : World) (f_s : SlN encRowR (okRowR 549755813888) w A_s n_s s) (hn : n_s ≤ 549755813888) :
    Calls Tryz.prog 228 #[.slice A_s n_s c_s, .func (.func 176) #[] #[]] w fun e w' => e = .returned (.int .i64 (findI (fun r => !rowOk r.dat) s)) ∧ St w [] [] w' := by
 refine enter 19 Tryz.func228 rfl Tryz.ntmps228 rfl rfl ?_
 have hs1 := St.init w
 refine WC.r1 hs1 [] rfl (WC.seq (fun K2 hK2 => WC.r1 hs1 [] rfl (WC.block ?_)))
 refine WC.lS [0, 1, 7] rfl hs1 (fun k_ f w' => ∃ (i : Nat), k_ = n_s - i ∧ (i ≤ n_s) ∧ (∀ j, j < i → (fun r => !rowOk r.dat) (gat encRowR s j) = false) ∧ Sub [(8, .int .i64 i)] f) ((fun (i : Nat) => n_s - i) (0)) ?_ ?_
 ·refine ⟨0, rfl, ?_, ?_, ⟨rfl, trivial⟩⟩
  · exact Nat.zero_le _
  · exact fun j hj => absurd hj (by omega)
 clear hs1
 rintro _ f w ⟨i, rfl, p0, p1, hG⟩ hF hs3
 refine WC.sub _ (hG.app hF) ?_
 clear hG hF
 refine WC.r1 hs3 [] rfl (WC.seq (fun K4 hK4 => ?_))
 refine WC.cond rfl (fun h5 => ?_) (fun h5 => ?_)
 ·have qh5 := h5
  try simp only [decide_eq_true_eq, decide_eq_false_iff_not] at qh5
  refine WC.skip (hK4 _ _ (WC.seq (fun K6 hK6 => WC.block (WC.r1 hs3 [] rfl (WC.sr (WL.r 3 hs3 [] rfl ?_))))))
  refine WL.val rfl rfl rfl (Run.idxN Tryz.runUnderlying31 Tryz.sizeOf98 rfl rfl rfl ?_ ?_ ?_) ?_
  · exact SlF.some_ (SlF.st0 f_s.sl hs3)
  · omega
  · omega
  refine WL.val rfl rfl rfl (Run.loadA Tryz.isAgg98 Tryz.sizeOf98 rfl rfl (SlF.whole (SlF.st0 f_s.sl hs3) ?_)) ?_
  · omega
  refine WL.cl Tryz.call176 rfl (k71_ (gat encRowR s i) _ (okRowR.st0 (SlN.nth f_s (by omega)) hs3)) ?_
  rintro _ whs7 ⟨rfl, hs7⟩
  replace hs7 := hs3.call0 hs7
  refine ⟨_, rfl, WL.nil (WC.cond rfl (fun h8 => ?_) (fun h8 => ?_))⟩
  ·have qh8 := h8
   try simp only [decide_eq_true_eq, decide_eq_false_iff_not] at qh8
   refine WC.r1 hs7 [] rfl (WC.ret (ibR (tkR (tkR (ibR (tkR ?_))))))
   clear hK6 hK2
   refine rtv rfl rfl hs7 ?_
   rw [findI_some (F := encRowR) (by rw [f_s.len]; omega) p1 h8]
  have qh8 := h8
  try simp only [decide_eq_true_eq, decide_eq_false_iff_not] at qh8
  refine WC.skip (hK6 _ _ (WC.region (WL.r 2 hs7 [] rfl (WL.nil (tkN ?_)))))
  refine ⟨sbF rfl, hs7, _, ?_, i + 1, rfl, ?_, ?_, ⟨rfl, trivial⟩⟩
  · omega
  · omega
  · intro j hj; rcases Nat.lt_or_ge j i with h_ | h_
    · exact p1 j h_
    · obtain rfl : j = i := by omega
      exact h8
 have qh5 := h5
 try simp only [decide_eq_true_eq, decide_eq_false_iff_not] at qh5
 refine WC.exit (hK2 _ _ (WC.r1 hs3 [] rfl (WC.ret (rtv rfl rfl hs3 ?_))))
 rw [findI_none (F := encRowR) (fun j hj => p1 j (by rw [f_s.len] at hj; omega))]
theorem k73_ (A_s : Option Addr) (n_s c_s : Nat) (s : List RowR) (w : World) (f_s : SlN encRowR (okRowR 549755813888) w A_s n_s s) (hn : n_s ≤ 549755813888) :
    Calls Tryz.prog 175 #[.slice A_s n_s c_s, .func (.func 176) #[] #[]] w fun e w' => e = .returned (.bool (decide (0 ≤ findI (fun r => !rowOk r.dat) s))) ∧ St w [] [] w' := by
 refine enter 9 Tryz.func175 rfl Tryz.ntmps175 rfl rfl ?_
 have hs1 := St.init w
 refine WC.r1 hs1 [] rfl (WC.sr (WL.r 2 hs1 [] rfl (WL.cl Tryz.call228 rfl (k72_ _ _ _ _ _ (SlN.st0 okRowR.st0 f_s hs1) ?_) ?_)))
 · first | assumption | rfl | omega
 rintro _ whs2 ⟨rfl, hs2⟩
 replace hs2 := hs1.call0 hs2
 refine ⟨_, rfl, WL.r 2 hs2 [] rfl (WL.nil (WC.ret (rtv rfl rfl hs2 ?_)))⟩
 rfl
theorem k74_ (A_b : Option Addr) (n_b c_b : Nat) (b : List RowR) (l : Int) (w : World) (f_b : SlN encRowR (okRowR 549755813888) w A_b n_b b) (hn : n_b ≤ 549755813888) :
    Calls Tryz.prog 98 #[.slice A_b n_b c_b, i64 l] w fun e w' => e = .returned (.bool (backOk (b.map RowR.dat) l)) ∧ St w [] [] w' := by
 refine enter 14 Tryz.func98 rfl Tryz.ntmps98 rfl rfl ?_
 have hs1 := St.init w
 refine WC.r1 hs1 [] rfl (WC.sr (WL.r 5 hs1 [] rfl ?_))
 apply WL.gA 3 Acts.nil hs1 rfl
 ·intro g2 J3
  have qg2 := g2
  try simp only [bf, within_iff, within_not] at qg2
  refine WL.runA tbk 1 (Acts.nil.cons (j := 4) rfl g2) hs1 [] rfl trivial (WL.call (wantT rfl g2) rfl rfl (Run.call Tryz.call175 rfl rfl rfl) (k73_ _ _ _ _ _ (SlN.st0 okRowR.st0 f_b hs1) ?_) ?_)
  · first | assumption | rfl | omega
  rintro _ whs4 ⟨rfl, hs4⟩
  replace hs4 := hs1.call0 hs4
  refine ⟨_, rfl, WL.runA tbk 1 (Acts.nil.cons (j := 4) rfl g2) hs4 [] rfl trivial (WL.eA 3 Acts.nil J3 hs4 g2 rfl rfl)⟩
 intro _ hs5
 refine WL.r 1 hs5 [] rfl (WL.nil (WC.ret (rtv rfl rfl hs5 ?_)))
 unfold backOk; rw [List.length_map, f_b.len, List.all_map, ← all_find]; rfl
set_option maxHeartbeats 4000000 in
theorem k75_ (s : ScrR) (w : World) (f_s : okScrR 549755813888 w s) :
    Calls Tryz.prog 29 #[.agg (cScr s).toArray] w fun e w' => e = .returned (.bool (scrOk s.dat)) ∧ St w [] [] w' := by
 have nb_s_Main_Cells := f_s.Main.Cells_n
 have nl_s_Main_Cells := f_s.Main.Cells.len
 have nb_s_Alt_Cells := f_s.Alt.Cells_n
 have nl_s_Alt_Cells := f_s.Alt.Cells.len
 have nb_s_Tabs := f_s.Tabs_n
 have nl_s_Tabs := f_s.Tabs.len
 have nb_s_Back := f_s.Back_n
 have nl_s_Back := f_s.Back.sl.len
 have hlit : ∀ y, y ∈ [s.Main, s.Alt] → okGridR 549755813888 w y := by intro y hy; simp only [List.mem_cons, List.not_mem_nil, or_false] at hy; rcases hy with rfl | rfl; exact f_s.Main; exact f_s.Alt
 refine enter 122 Tryz.func29 rfl Tryz.ntmps29 rfl rfl ?_
 have hs1 := St.init w
 refine WC.sr (WL.bx hs1 rfl (fun b2 _ hs3 => WL.r 1 hs3 [] rfl (WL.nil (WC.seq (fun K4 hK4 => WC.sr (WL.r 4 hs3 [0, 0] rfl (WL.buildF (F := encGridR) hs3 ([s.Main, s.Alt]) Tryz.runUnderlying131 Tryz.sizeOf28 Tryz.zeroValue28 rfl rfl rfl rfl rfl rfl rfl rfl rfl rfl rfl rfl (fun A8 c9 L5 whs6 hs6 ho7 => ?_))))))))
 replace hs6 := St.back [_] hs6
 refine WL.r 2 hs6 [] rfl (WL.nil (WC.block (WC.lS [1, 9, 10] rfl hs6 (fun k_ f w' => ∃ (i : Nat), k_ = 2 - i ∧ (i ≤ 2) ∧ (∀ j, j < i → gridFit (GridR.dat (gat encGridR [s.Main, s.Alt] j)) s.W s.H = true) ∧ Sub [(11, .int .i64 i)] f) ((fun (i : Nat) => 2 - i) (0)) ?_ ?_)))
 ·refine ⟨0, rfl, ?_, ?_, ⟨rfl, trivial⟩⟩
  · omega
  · exact fun j hj => absurd hj (by omega)
 clear hs6
 rintro _ f w ⟨i, rfl, p0, p1, hG⟩ hF hs10
 refine WC.sub _ (hG.app hF) ?_
 clear hG hF
 refine WC.r1 hs10 [] rfl (WC.seq (fun K11 hK11 => ?_))
 refine WC.cq rfl (fun h12 qh12 => ?_) (fun h12 qh12 => ?_)
 ·have hi2 : i < 2 := by have h8 := h12; simp at h8; omega
  refine WC.skip (hK11 _ _ (WC.seq (fun K13 hK13 => WC.block (WC.sr ?_))))
  refine WL.val rfl rfl rfl (Run.idxN Tryz.runUnderlying131 Tryz.sizeOf28 rfl rfl rfl ?_ ?_ ?_) ?_
  · exact SlF.some_ (SlF.ofOwn ho7 (hs10.ow L5))
  · first | omega | (simp; omega)
  · first | omega | (simp; omega)
  refine WL.val rfl rfl rfl (Run.loadA Tryz.isAgg28 Tryz.sizeOf28 rfl rfl (SlF.whole (SlF.ofOwn ho7 (hs10.ow L5)) ?_)) ?_
  · first | omega | (simp; omega)
  refine WL.al hs10 Tryz.zeroValue28 rfl rfl (fun b14 _ hs15 => WL.st tbk hs15 0 rfl rfl (fun _ hs16 => WL.nil (WC.sr (WL.r 1 hs16 [0] rfl ?_))))
  refine WL.cl Tryz.call93 rfl (k68_ (gat encGridR [s.Main, s.Alt] i) _ (okGridR.st0 (hlit _ (gat_mem (by first | omega | (simp; omega)))) hs16)) ?_
  rintro _ whs17 ⟨rfl, hs17⟩
  replace hs17 := hs16.call0 hs17
  refine ⟨_, rfl, WL.r 2 hs17 [] rfl (WL.pO tbk 5 Acts.nil hs17 [0, 1] rfl rfl rfl rfl (fun g_ => ⟨rfl, rfl, trivial⟩) (WL.r 1 hs17 [] rfl (WL.pO tbk 5 Acts.nil hs17 [0, 1] rfl rfl rfl rfl (fun g_ => ⟨rfl, rfl, trivial⟩) (WL.nil (WC.cq rfl (fun h18 qh18 => ?_) (fun h18 qh18 => ?_))))))⟩
  ·have ha : gridFit (GridR.dat (gat encGridR [s.Main, s.Alt] i)) s.W s.H = false := by unfold gridFit; have h9 := h18; show (gridOk (GridR.dat (gat encGridR [s.Main, s.Alt] i)) && (decide ((gat encGridR [s.Main, s.Alt] i).W = s.W) && decide ((gat encGridR [s.Main, s.Alt] i).H = s.H))) = false; revert h9; cases gridOk (GridR.dat (gat encGridR [s.Main, s.Alt] i)) <;> cases decide ((gat encGridR [s.Main, s.Alt] i).W = s.W) <;> cases decide ((gat encGridR [s.Main, s.Alt] i).H = s.H) <;> simp
   have hp1 : scrP1 s.dat = false := by unfold scrP1; rcases (show i = 0 ∨ i = 1 by omega) with rfl | rfl; (rw [show gridFit s.dat.Main s.dat.W s.dat.H = false from ha]; rfl); (rw [show gridFit s.dat.Alt s.dat.W s.dat.H = false from ha, Bool.and_false])
   refine WC.r1 hs17 [] rfl (WC.ret (ibR (tkR (tkR (ibR (tkR ?_))))))
   clear hK13 hK4
   refine rtv rfl rfl hs17 ?_
   rw [scrOk_no (.inl hp1)]
  have ha : gridFit (GridR.dat (gat encGridR [s.Main, s.Alt] i)) s.W s.H = true := by unfold gridFit; have h9 := h18; show (gridOk (GridR.dat (gat encGridR [s.Main, s.Alt] i)) && (decide ((gat encGridR [s.Main, s.Alt] i).W = s.W) && decide ((gat encGridR [s.Main, s.Alt] i).H = s.H))) = true; revert h9; cases gridOk (GridR.dat (gat encGridR [s.Main, s.Alt] i)) <;> cases decide ((gat encGridR [s.Main, s.Alt] i).W = s.W) <;> cases decide ((gat encGridR [s.Main, s.Alt] i).H = s.H) <;> simp
  refine WC.skip (hK13 _ _ (WC.region (WL.r 2 hs17 [] rfl (WL.nil (tkN ?_)))))
  refine ⟨sbF rfl, (hs17.drop (by repeat (first | exact List.Sublist.refl _ | exact List.sublist_append_left _ _ | exact List.Sublist.trans (List.sublist_append_left _ _) (List.sublist_append_left _ _) | apply List.Sublist.cons | refine List.Sublist.trans ?_ (sR _)))), _, ?_, i + 1, rfl, ?_, ?_, ⟨rfl, trivial⟩⟩
  · omega
  · omega
  · intro j hj; rcases Nat.lt_or_ge j i with h_ | h_
    · exact p1 j h_
    · obtain rfl : j = i := by omega
      exact ha
 have hi2 : ¬ i < 2 := by have h8 := h12; simp at h8; omega
 have hp1 : scrP1 s.dat = true := by unfold scrP1; rw [show gridFit s.dat.Main s.dat.W s.dat.H = true from p1 0 (by omega), show gridFit s.dat.Alt s.dat.W s.dat.H = true from p1 1 (by omega)]; rfl
 have hbn : (1 ≤ s.W ∧ s.W ≤ 120) ∧ (1 ≤ s.H ∧ s.H ≤ 120) ∧ s.Main.W = s.W ∧ s.Main.H = s.H ∧ s.Alt.W = s.W ∧ s.Alt.H = s.H := scrP1_bnd hp1
 refine WC.exit (hK4 _ _ (WC.seq (fun K19 hK19 => WC.sr (WL.r 6 hs10 [0, 0, 0] rfl ?_))))
 refine WL.cl Tryz.call94 rfl (k69_ s.Main _ _ _ (okGridR.st0 f_s.Main hs10) ?_ ?_) ?_
 iterate 2 first | assumption | rfl | omega
 rintro _ whs20 ⟨rfl, hs20⟩
 replace hs20 := hs10.call0 hs20
 refine ⟨_, rfl, WL.r 2 hs20 [] rfl ?_⟩
 apply WL.gO 8 Acts.nil hs20 rfl
 ·intro g21 J22
  have qg21 := g21
  try simp only [bf, within_iff, within_not] at qg21
  refine WL.runA tbk 6 (Acts.nil.cons (j := 8) rfl g21) hs20 [0, 0, 0] rfl ⟨rfl, rfl, rfl, trivial⟩ (WL.call (wantF rfl g21) rfl rfl (Run.call Tryz.call94 rfl rfl rfl) (k69_ s.Main _ _ _ (okGridR.st0 f_s.Main hs20) ?_ ?_) ?_)
  iterate 2 first | assumption | rfl | omega
  rintro _ whs23 ⟨rfl, hs23⟩
  replace hs23 := hs20.call0 hs23
  refine ⟨_, rfl, WL.runA tbk 1 (Acts.nil.cons (j := 8) rfl g21) hs23 [] rfl trivial (WL.eO 8 Acts.nil J22 hs23 g21 rfl rfl)⟩
 intro _ hs24
 refine WL.r 1 hs24 [] rfl ?_
 apply WL.gO 10 Acts.nil hs24 rfl
 ·intro g25 J26
  have qg25 := g25
  try simp only [bf, within_iff, within_not] at qg25
  refine WL.runA tbk 3 (Acts.nil.cons (j := 18) rfl g25) hs24 [0] rfl ⟨rfl, trivial⟩ ?_
  refine WL.pA tbk 6 (Acts.nil.cons (j := 18) rfl g25) hs24 [0, 0] rfl rfl rfl rfl (fun g_ => by (try simp only [bf, within_iff, within_not] at g_); exact ⟨by omega, rfl, rfl, trivial⟩) (WL.eO 4 Acts.nil J26 hs24 g25 rfl rfl)
 intro _ hs27
 refine WL.r 1 hs27 [] rfl ?_
 apply WL.gO 4 Acts.nil hs27 rfl
 ·intro g28 J29
  have qg28 := g28
  try simp only [bf, within_iff, within_not] at qg28
  refine WL.runA tbk 2 (Acts.nil.cons (j := 30) rfl g28) hs27 [0] rfl ⟨rfl, trivial⟩ (WL.call (wantF rfl g28) rfl rfl (Run.call Tryz.call95 rfl rfl rfl) (k40_ _ _ _ _ _ _) ?_)
  rintro _ whs30 ⟨rfl, hs30⟩
  replace hs30 := hs27.call0 hs30
  refine ⟨_, rfl, WL.runA tbk 1 (Acts.nil.cons (j := 30) rfl g28) hs30 [] rfl trivial (WL.eO 4 Acts.nil J29 hs30 g28 rfl rfl)⟩
 intro _ hs31
 refine WL.r 1 hs31 [] rfl ?_
 apply WL.gO 4 Acts.nil hs31 rfl
 ·intro g32 J33
  have qg32 := g32
  try simp only [bf, within_iff, within_not] at qg32
  refine WL.runA tbk 2 (Acts.nil.cons (j := 36) rfl g32) hs31 [0] rfl ⟨rfl, trivial⟩ (WL.call (wantF rfl g32) rfl rfl (Run.call Tryz.call95 rfl rfl rfl) (k40_ _ _ _ _ _ _) ?_)
  rintro _ whs34 ⟨rfl, hs34⟩
  replace hs34 := hs31.call0 hs34
  refine ⟨_, rfl, WL.runA tbk 1 (Acts.nil.cons (j := 36) rfl g32) hs34 [] rfl trivial (WL.eO 4 Acts.nil J33 hs34 g32 rfl rfl)⟩
 intro _ hs35
 refine WL.nil (WC.cq rfl (fun h36 qh36 => ?_) (fun h36 qh36 => ?_))
 ·have hp2 : scrP2 s.dat = false := by have h9 := h36; unfold scrP2; show (((gridHas s.Main.dat s.X s.Y && gridHas s.Main.dat s.SaveX s.SaveY) && ((!s.Wrap || decide (s.X = s.W - 1)) && (attrOk s.A.Fg s.A.Bg && attrOk s.SaveA.Fg s.SaveA.Bg)))) = false; revert h9; cases gridHas s.Main.dat s.X s.Y <;> cases gridHas s.Main.dat s.SaveX s.SaveY <;> cases s.Wrap <;> cases decide (s.X = s.W - 1) <;> cases attrOk s.A.Fg s.A.Bg <;> cases attrOk s.SaveA.Fg s.SaveA.Bg <;> simp
  refine WC.r1 hs35 [] rfl (WC.ret (tkR ?_))
  clear hK19
  refine rtv rfl rfl hs35 ?_
  rw [scrOk_no (.inr (.inl hp2))]
 have hp2 : scrP2 s.dat = true := by have h9 := h36; unfold scrP2; show (((gridHas s.Main.dat s.X s.Y && gridHas s.Main.dat s.SaveX s.SaveY) && ((!s.Wrap || decide (s.X = s.W - 1)) && (attrOk s.A.Fg s.A.Bg && attrOk s.SaveA.Fg s.SaveA.Bg)))) = true; revert h9; cases gridHas s.Main.dat s.X s.Y <;> cases gridHas s.Main.dat s.SaveX s.SaveY <;> cases s.Wrap <;> cases decide (s.X = s.W - 1) <;> cases attrOk s.A.Fg s.A.Bg <;> cases attrOk s.SaveA.Fg s.SaveA.Bg <;> simp
 refine WC.skip (hK19 _ _ (WC.seq (fun K37 hK37 => WC.sr (WL.r 4 hs35 [0] rfl (WL.pO tbk 5 Acts.nil hs35 [0, 0] rfl rfl rfl rfl (fun g_ => ⟨rfl, rfl, trivial⟩) (WL.r 1 hs35 [] rfl (WL.pO tbk 5 Acts.nil hs35 [0, 0] rfl rfl rfl rfl (fun g_ => ⟨rfl, rfl, trivial⟩) ?_)))))))
 refine WL.r 1 hs35 [] rfl ?_
 apply WL.gO 10 Acts.nil hs35 rfl
 ·intro g38 J39
  have qg38 := g38
  try simp only [bf, within_iff, within_not] at qg38
  refine WL.runA tbk 6 (Acts.nil.cons (j := 17) rfl g38) hs35 [0, 0] rfl ⟨rfl, rfl, trivial⟩ (WL.pA tbk 3 (Acts.nil.cons (j := 17) rfl g38) hs35 [0] rfl rfl rfl rfl (fun g_ => ⟨rfl, trivial⟩) (WL.eO 7 Acts.nil J39 hs35 g38 rfl rfl))
 intro _ hs40
 refine WL.nil (WC.cq rfl (fun h41 qh41 => ?_) (fun h41 qh41 => ?_))
 ·have hp3 : scrP3 s.dat = false := by have h9 := h41; unfold scrP3; show ((decide (0 ≤ s.Top) && decide (s.Top ≤ s.Bot)) && (decide (s.Bot < s.H) && (!decide (s.Top = s.Bot) || decide (s.H = 1)))) = false; simp at h9 ⊢; omega
  refine WC.r1 hs40 [] rfl (WC.ret (tkR ?_))
  clear hK37
  refine rtv rfl rfl hs40 ?_
  rw [scrOk_no (.inr (.inr (.inl hp3)))]
 have hp3 : scrP3 s.dat = true := by have h9 := h41; unfold scrP3; show ((decide (0 ≤ s.Top) && decide (s.Top ≤ s.Bot)) && (decide (s.Bot < s.H) && (!decide (s.Top = s.Bot) || decide (s.H = 1)))) = true; simp at h9 ⊢; omega
 refine WC.skip (hK37 _ _ (WC.sr (WL.r 5 hs40 [0, 0] rfl ?_)))
 refine WL.cl Tryz.call96 rfl (k70_ _ _ _ _ _ _ _ (SlF.st0 f_s.Tabs hs40) ?_) ?_
 · first | assumption | rfl | omega
 rintro _ whs42 ⟨rfl, hs42⟩
 replace hs42 := hs40.call0 hs42
 refine ⟨_, rfl, WL.r 1 hs42 [] rfl ?_⟩
 apply WL.gA 3 Acts.nil hs42 rfl
 ·intro g43 J44
  have qg43 := g43
  try simp only [bf, within_iff, within_not] at qg43
  refine WL.runA tbk 2 (Acts.nil.cons (j := 6) rfl g43) hs42 [0] rfl ⟨rfl, trivial⟩ (WL.call (wantT rfl g43) rfl rfl (Run.call Tryz.call97 rfl rfl rfl) (k0_ _ _ _ _) ?_)
  rintro _ whs45 ⟨rfl, hs45⟩
  replace hs45 := hs42.call0 hs45
  refine ⟨_, rfl, WL.eA 3 Acts.nil J44 hs45 g43 rfl rfl⟩
 intro _ hs46
 refine WL.r 1 hs46 [] rfl ?_
 apply WL.gA 5 Acts.nil hs46 rfl
 ·intro g47 J48
  have qg47 := g47
  try simp only [bf, within_iff, within_not] at qg47
  refine WL.runA tbk 4 (Acts.nil.cons (j := 11) rfl g47) hs46 [0, 0] rfl ⟨rfl, rfl, trivial⟩ (WL.call (wantT rfl g47) rfl rfl (Run.call Tryz.call98 rfl rfl rfl) (k74_ _ _ _ _ _ _ (SlN.st0 okRowR.st0 f_s.Back hs46) ?_) ?_)
  · first | assumption | rfl | omega
  rintro _ whs49 ⟨rfl, hs49⟩
  replace hs49 := hs46.call0 hs49
  refine ⟨_, rfl, WL.eA 5 Acts.nil J48 hs49 g47 rfl rfl⟩
 intro _ hs50
 refine WL.r 1 hs50 [] rfl (WL.nil (WC.ret (rtv rfl rfl hs50 ?_)))
 rw [scrOk_yes hp1 hp2 hp3]; rfl
theorem k76_ (g : GridR) (w : World) (f_g : okGridR 549755813888 w g) :
    Calls Tryz.prog 138 #[.agg #[i64 g.W, i64 g.H, .slice g.Cells.A g.Cells.n g.Cells.c]] w fun e w' => e = .returned (.bool (gridOk g.dat)) ∧ St w [] [] w' := by
 have nb_g_Cells := f_g.Cells_n
 have nl_g_Cells := f_g.Cells.len
 refine enter 53 Tryz.func138 rfl Tryz.ntmps138 rfl rfl ?_
 have hs1 := St.init w
 refine WC.sr (WL.bx hs1 rfl (fun b2 _ hs3 => WL.r 1 hs3 [] rfl (WL.nil (WC.seq (fun K4 hK4 => WC.sr (WL.r 4 hs3 [0] rfl (WL.pO tbk 3 Acts.nil hs3 [0] rfl rfl rfl rfl (fun g_ => ⟨rfl, trivial⟩) ?_)))))))
 refine WL.r 1 hs3 [] rfl (WL.pO tbk 3 Acts.nil hs3 [0] rfl rfl rfl rfl (fun g_ => ⟨rfl, trivial⟩) (WL.r 1 hs3 [] rfl (WL.pO tbk 3 Acts.nil hs3 [0] rfl rfl rfl rfl (fun g_ => ⟨rfl, trivial⟩) (WL.r 1 hs3 [] rfl ?_))))
 apply WL.gO 6 Acts.nil hs3 rfl
 ·intro g5 J6
  have qg5 := g5
  try simp only [bf, within_iff, within_not] at qg5
  refine WL.runA tbk 6 (Acts.nil.cons (j := 18) rfl g5) hs3 [0, 0] rfl ⟨?_, rfl, rfl, trivial⟩ ?_
  · (have h9 := mul_size (w := g.W) (h := g.H) (by omega) (by omega); constructor <;> omega)
  exact WL.eO 6 Acts.nil J6 hs3 g5 rfl rfl
 intro _ hs7
 refine WL.r 1 hs7 [] rfl ?_
 apply WL.gO 9 Acts.nil hs7 rfl
 ·intro g8 J9
  have qg8 := g8
  try simp only [bf, within_iff, within_not] at qg8
  refine WL.runA tbk 9 (Acts.nil.cons (j := 26) rfl g8) hs7 [0, 0, 0] rfl ⟨?_, rfl, rfl, rfl, trivial⟩ ?_
  · (have h9 := mul_size (w := g.W) (h := g.H) (by omega) (by omega); constructor <;> omega)
  exact WL.eO 9 Acts.nil J9 hs7 g8 rfl rfl
 intro _ hs10
 refine WL.nil (WC.cq rfl (fun h11 qh11 => ?_) (fun h11 qh11 => ?_))
 ·have hg : gridOk g.dat = false := by rw [← Bool.not_eq_true]; intro h8; have hb : (1 ≤ g.W ∧ g.W ≤ 120) ∧ (1 ≤ g.H ∧ g.H ≤ 120) ∧ 1 ≤ g.W * g.H ∧ g.W * g.H ≤ 4000 := gridOk_bnd h8; unfold gridOk at h8; rw [Bool.and_eq_true, Bool.and_eq_true, decide_eq_true_eq] at h8; have h7 : (g.Cells.xs.length : Int) = g.W * g.H := h8.1.2; have h9 := h11; simp at h9; omega
  refine WC.r1 hs10 [] rfl (WC.ret (tkR ?_))
  clear hK4
  refine rtv rfl rfl hs10 ?_
  rw [hg]
 have hs : isSize g.W g.H = true ∧ (g.Cells.n : Int) = g.W * g.H := by rw [isSize_iff]; have h9 := h11; simp at h9; omega
 refine WC.skip (hK4 _ _ (WC.seq (fun K12 hK12 => WC.r1 hs10 [0] rfl (WC.block ?_))))
 refine WC.lS [41, 43, 44] rfl hs10 (fun k_ f w' => ∃ (i : Nat), k_ = g.Cells.n - i ∧ (i ≤ g.Cells.n) ∧ (∀ j, j < i → cellOk (gat encCell g.Cells.xs j) = true) ∧ Sub [(45, .int .i64 i)] f) ((fun (i : Nat) => g.Cells.n - i) (0)) ?_ ?_
 ·refine ⟨0, rfl, ?_, ?_, ⟨rfl, trivial⟩⟩
  · exact Nat.zero_le _
  · exact fun j hj => absurd hj (by omega)
 clear hs10
 rintro _ f w ⟨i, rfl, p0, p1, hG⟩ hF hs13
 refine WC.sub _ (hG.app hF) ?_
 clear hG hF
 refine WC.r1 hs13 [] rfl (WC.seq (fun K14 hK14 => ?_))
 refine WC.cq rfl (fun h15 qh15 => ?_) (fun h15 qh15 => ?_)
 ·refine WC.skip (hK14 _ _ (WC.seq (fun K16 hK16 => WC.block (WC.sr ?_))))
  refine WL.val rfl rfl rfl (Run.idxN Tryz.runUnderlying26 Tryz.sizeOf75 rfl rfl rfl ?_ ?_ ?_) ?_
  · exact SlF.some_ (SlF.st0 f_g.Cells hs13)
  · omega
  · omega
  refine WL.val rfl rfl rfl (Run.loadA Tryz.isAgg75 Tryz.sizeOf75 rfl rfl (SlF.whole (SlF.st0 f_g.Cells hs13) ?_)) ?_
  · omega
  refine WL.al hs13 Tryz.zeroValue75 rfl rfl (fun b17 _ hs18 => WL.st tbk hs18 0 rfl rfl (fun _ hs19 => WL.nil (WC.sr (WL.r 1 hs19 [0] rfl (WL.cl Tryz.call203 rfl (k43_ _ _ _ _ _ _ _) ?_)))))
  rintro _ whs20 ⟨rfl, hs20⟩
  replace hs20 := hs19.call0 hs20
  refine ⟨_, rfl, WL.r 1 hs20 [] rfl (WL.nil (WC.cq rfl (fun h21 qh21 => ?_) (fun h21 qh21 => ?_)))⟩
  ·have hci : cellOk (gat encCell g.Cells.xs i) = false := by simpa using h21
   refine WC.r1 hs20 [] rfl (WC.ret (ibR (tkR (tkR (ibR (tkR ?_))))))
   clear hK16 hK12
   refine rtv rfl rfl hs20 ?_
   rw [show gridOk g.dat = false from by unfold gridOk; rw [show cellsOk g.dat.Cells = false from cellsOk_not (i := i) (by show i < g.Cells.xs.length; omega) hci, Bool.and_false]]
  have hci : cellOk (gat encCell g.Cells.xs i) = true := by simpa using h21
  refine WC.skip (hK16 _ _ (WC.region (WL.r 2 hs20 [] rfl (WL.nil (tkN ?_)))))
  refine ⟨sbF rfl, (hs20.drop (by repeat (first | exact List.Sublist.refl _ | exact List.sublist_append_left _ _ | exact List.Sublist.trans (List.sublist_append_left _ _) (List.sublist_append_left _ _) | apply List.Sublist.cons | refine List.Sublist.trans ?_ (sR _)))), _, ?_, i + 1, rfl, ?_, ?_, ⟨rfl, trivial⟩⟩
  · omega
  · omega
  · intro j hj; rcases Nat.lt_or_ge j i with h_ | h_
    · exact p1 j h_
    · obtain rfl : j = i := by omega
      exact hci
 refine WC.exit (hK12 _ _ (WC.r1 hs13 [] rfl (WC.ret (rtv rfl rfl hs13 ?_))))
 rw [show gridOk g.dat = true from by unfold gridOk; rw [show cellsOk g.dat.Cells = true from cellsOk_all (fun j hj => p1 j (by have : j < g.Cells.xs.length := hj; omega)), show isSize g.dat.W g.dat.H = true from hs.1, decide_eq_true (show (g.dat.Cells.length : Int) = g.dat.W * g.dat.H from by show (g.Cells.xs.length : Int) = g.W * g.H; rw [nl_g_Cells]; exact hs.2)]; rfl]
theorem k77_ (r : RowR) (w : World) (f_r : okRowR 549755813888 w r) :
    Calls Tryz.prog 140 #[.agg #[.slice r.Cells.A r.Cells.n r.Cells.c]] w fun e w' => e = .returned (.bool (rowOk r.dat)) ∧ St w [] [] w' := by
 have nb_r_Cells := f_r.Cells_n
 have nl_r_Cells := f_r.Cells.len
 refine enter 26 Tryz.func140 rfl Tryz.ntmps140 rfl rfl ?_
 have hs1 := St.init w
 refine WC.sr (WL.bx hs1 rfl (fun b2 _ hs3 => WL.r 1 hs3 [] rfl (WL.nil (WC.seq (fun K4 hK4 => WC.r1 hs3 [0] rfl (WC.block ?_))))))
 refine WC.lS [1, 6, 7] rfl hs3 (fun k_ f w' => ∃ (i : Nat), k_ = r.Cells.n - i ∧ (i ≤ r.Cells.n) ∧ (∀ j, j < i → cellOk (gat encCell r.Cells.xs j) = true) ∧ Sub [(8, .int .i64 i)] f) ((fun (i : Nat) => r.Cells.n - i) (0)) ?_ ?_
 ·refine ⟨0, rfl, ?_, ?_, ⟨rfl, trivial⟩⟩
  · exact Nat.zero_le _
  · exact fun j hj => absurd hj (by omega)
 clear hs3
 rintro _ f w ⟨i, rfl, p0, p1, hG⟩ hF hs5
 refine WC.sub _ (hG.app hF) ?_
 clear hG hF
 refine WC.r1 hs5 [] rfl (WC.seq (fun K6 hK6 => ?_))
 refine WC.cq rfl (fun h7 qh7 => ?_) (fun h7 qh7 => ?_)
 ·refine WC.skip (hK6 _ _ (WC.seq (fun K8 hK8 => WC.block (WC.sr ?_))))
  refine WL.val rfl rfl rfl (Run.idxN Tryz.runUnderlying26 Tryz.sizeOf75 rfl rfl rfl ?_ ?_ ?_) ?_
  · exact SlF.some_ (SlF.st0 f_r.Cells hs5)
  · omega
  · omega
  refine WL.val rfl rfl rfl (Run.loadA Tryz.isAgg75 Tryz.sizeOf75 rfl rfl (SlF.whole (SlF.st0 f_r.Cells hs5) ?_)) ?_
  · omega
  refine WL.al hs5 Tryz.zeroValue75 rfl rfl (fun b9 _ hs10 => WL.st tbk hs10 0 rfl rfl (fun _ hs11 => WL.nil (WC.sr (WL.r 1 hs11 [0] rfl (WL.cl Tryz.call203 rfl (k43_ _ _ _ _ _ _ _) ?_)))))
  rintro _ whs12 ⟨rfl, hs12⟩
  replace hs12 := hs11.call0 hs12
  refine ⟨_, rfl, WL.r 1 hs12 [] rfl (WL.nil (WC.cq rfl (fun h13 qh13 => ?_) (fun h13 qh13 => ?_)))⟩
  ·have hci : cellOk (gat encCell r.Cells.xs i) = false := by simpa using h13
   refine WC.r1 hs12 [] rfl (WC.ret (ibR (tkR (tkR (ibR (tkR ?_))))))
   clear hK8 hK4
   refine rtv rfl rfl hs12 ?_
   rw [show rowOk r.dat = false from by unfold rowOk; rw [show cellsOk r.dat.Cells = false from cellsOk_not (i := i) (by show i < r.Cells.xs.length; omega) hci, Bool.and_false]]
  have hci : cellOk (gat encCell r.Cells.xs i) = true := by simpa using h13
  refine WC.skip (hK8 _ _ (WC.region (WL.r 2 hs12 [] rfl (WL.nil (tkN ?_)))))
  refine ⟨sbF rfl, (hs12.drop (by repeat (first | exact List.Sublist.refl _ | exact List.sublist_append_left _ _ | exact List.Sublist.trans (List.sublist_append_left _ _) (List.sublist_append_left _ _) | apply List.Sublist.cons | refine List.Sublist.trans ?_ (sR _)))), _, ?_, i + 1, rfl, ?_, ?_, ⟨rfl, trivial⟩⟩
  · omega
  · omega
  · intro j hj; rcases Nat.lt_or_ge j i with h_ | h_
    · exact p1 j h_
    · obtain rfl : j = i := by omega
      exact hci
 refine WC.exit (hK4 _ _ (WC.sr (WL.r 5 hs5 [0] rfl (WL.pA tbk 4 Acts.nil hs5 [0] rfl rfl rfl rfl (fun g_ => ⟨rfl, trivial⟩) (WL.r 1 hs5 [] rfl (WL.nil (WC.ret ?_)))))))
 refine rtv rfl rfl hs5 ?_
 rw [show rowOk r.dat = within (r.Cells.n : Int) 1 120 from by unfold rowOk; rw [show cellsOk r.dat.Cells = true from cellsOk_all (fun j hj => p1 j (by have : j < r.Cells.xs.length := hj; omega)), Bool.and_true, ← nl_r_Cells]; rfl]; rfl
set_option maxHeartbeats 4000000 in
theorem k78_ (s : ScrR) (w : World) (f_s : okScrR 549755813888 w s) :
    Calls Tryz.prog 63 #[.agg (cScr s).toArray] w fun e w' => e = .returned (.bool (scrOk s.dat)) ∧ St w [] [] w' := by
 have nb_s_Main_Cells := f_s.Main.Cells_n
 have nl_s_Main_Cells := f_s.Main.Cells.len
 have nb_s_Alt_Cells := f_s.Alt.Cells_n
 have nl_s_Alt_Cells := f_s.Alt.Cells.len
 have nb_s_Tabs := f_s.Tabs_n
 have nl_s_Tabs := f_s.Tabs.len
 have nb_s_Back := f_s.Back_n
 have nl_s_Back := f_s.Back.sl.len
 refine enter 208 Tryz.func63 rfl Tryz.ntmps63 rfl rfl ?_
 have hs1 := St.init w
 refine WC.sr (WL.bx hs1 rfl (fun b2 _ hs3 => WL.r 1 hs3 [] rfl (WL.nil (WC.seq (fun K4 hK4 => WC.sr (WL.r 2 hs3 [0] rfl (WL.cl Tryz.call138 rfl (k76_ s.Main _ (okGridR.st0 f_s.Main hs3)) ?_)))))))
 rintro _ whs5 ⟨rfl, hs5⟩
 replace hs5 := hs3.call0 hs5
 refine ⟨_, rfl, WL.r 2 hs5 [] rfl ?_⟩
 apply WL.gO 4 Acts.nil hs5 rfl
 ·intro g6 J7
  have qg6 := g6
  try simp only [bf, within_iff, within_not] at qg6
  refine WL.runA tbk 2 (Acts.nil.cons (j := 4) rfl g6) hs5 [0] rfl ⟨rfl, trivial⟩ (WL.call (wantF rfl g6) rfl rfl (Run.call Tryz.call138 rfl rfl rfl) (k76_ s.Alt _ (okGridR.st0 f_s.Alt hs5)) ?_)
  rintro _ whs8 ⟨rfl, hs8⟩
  replace hs8 := hs5.call0 hs8
  refine ⟨_, rfl, WL.runA tbk 1 (Acts.nil.cons (j := 4) rfl g6) hs8 [] rfl trivial (WL.eO 4 Acts.nil J7 hs8 g6 rfl rfl)⟩
 intro _ hs9
 refine WL.r 1 hs9 [] rfl (WL.pO tbk 6 Acts.nil hs9 [0, 0] rfl rfl rfl rfl (fun g_ => ⟨rfl, rfl, trivial⟩) (WL.r 1 hs9 [] rfl (WL.pO tbk 6 Acts.nil hs9 [0, 0] rfl rfl rfl rfl (fun g_ => ⟨rfl, rfl, trivial⟩) (WL.r 1 hs9 [] rfl (WL.pO tbk 6 Acts.nil hs9 [0, 0] rfl rfl rfl rfl (fun g_ => ⟨rfl, rfl, trivial⟩) (WL.r 1 hs9 [] rfl (WL.pO tbk 6 Acts.nil hs9 [0, 0] rfl rfl rfl rfl (fun g_ => ⟨rfl, rfl, trivial⟩) ?_)))))))
 refine WL.nil (WC.cq rfl (fun h10 qh10 => ?_) (fun h10 qh10 => ?_))
 ·have hp1 : scrP1 s.dat = false := by have h9 := h10; unfold scrP1 gridFit; show ((gridOk s.Main.dat && (decide (s.Main.W = s.W) && decide (s.Main.H = s.H))) && (gridOk s.Alt.dat && (decide (s.Alt.W = s.W) && decide (s.Alt.H = s.H)))) = false; revert h9; cases gridOk s.Main.dat <;> cases gridOk s.Alt.dat <;> cases decide (s.Main.W = s.W) <;> cases decide (s.Main.H = s.H) <;> cases decide (s.Alt.W = s.W) <;> cases decide (s.Alt.H = s.H) <;> simp
  refine WC.r1 hs9 [] rfl (WC.ret (tkR ?_))
  clear hK4
  refine rtv rfl rfl hs9 ?_
  rw [scrOk_no (.inl hp1)]
 have hp1 : scrP1 s.dat = true := by have h9 := h10; unfold scrP1 gridFit; show ((gridOk s.Main.dat && (decide (s.Main.W = s.W) && decide (s.Main.H = s.H))) && (gridOk s.Alt.dat && (decide (s.Alt.W = s.W) && decide (s.Alt.H = s.H)))) = true; revert h9; cases gridOk s.Main.dat <;> cases gridOk s.Alt.dat <;> cases decide (s.Main.W = s.W) <;> cases decide (s.Main.H = s.H) <;> cases decide (s.Alt.W = s.W) <;> cases decide (s.Alt.H = s.H) <;> simp
 have hbn : (1 ≤ s.W ∧ s.W ≤ 120) ∧ (1 ≤ s.H ∧ s.H ≤ 120) ∧ s.Main.W = s.W ∧ s.Main.H = s.H ∧ s.Alt.W = s.W ∧ s.Alt.H = s.H := scrP1_bnd hp1
 refine WC.skip (hK4 _ _ (WC.seq (fun K11 hK11 => WC.sr (WL.r 4 hs9 [0] rfl (WL.pO tbk 5 Acts.nil hs9 [0, 0] rfl rfl rfl rfl (fun g_ => ⟨rfl, rfl, trivial⟩) (WL.r 1 hs9 [] rfl (WL.pO tbk 3 Acts.nil hs9 [0] rfl rfl rfl rfl (fun g_ => ⟨rfl, trivial⟩) ?_)))))))
 refine WL.r 1 hs9 [] rfl (WL.pO tbk 5 Acts.nil hs9 [0, 0] rfl rfl rfl rfl (fun g_ => ⟨rfl, rfl, trivial⟩) (WL.r 1 hs9 [] rfl ?_))
 apply WL.gO 10 Acts.nil hs9 rfl
 ·intro g12 J13
  have qg12 := g12
  try simp only [bf, within_iff, within_not] at qg12
  refine WL.runA tbk 3 (Acts.nil.cons (j := 22) rfl g12) hs9 [0] rfl ⟨rfl, trivial⟩ ?_
  refine WL.pA tbk 6 (Acts.nil.cons (j := 22) rfl g12) hs9 [0, 0] rfl rfl rfl rfl (fun g_ => by (try simp only [bf, within_iff, within_not] at g_); exact ⟨by omega, rfl, rfl, trivial⟩) (WL.eO 4 Acts.nil J13 hs9 g12 rfl rfl)
 intro _ hs14
 refine WL.r 1 hs14 [] rfl (WL.pO tbk 3 Acts.nil hs14 [0] rfl rfl rfl rfl (fun g_ => ⟨rfl, trivial⟩) (WL.r 1 hs14 [] rfl (WL.pO tbk 5 Acts.nil hs14 [0, 0] rfl rfl rfl rfl (fun g_ => ⟨rfl, rfl, trivial⟩) (WL.r 1 hs14 [] rfl (WL.pO tbk 3 Acts.nil hs14 [0] rfl rfl rfl rfl (fun g_ => ⟨rfl, trivial⟩) (WL.r 1 hs14 [] rfl (WL.pO tbk 5 Acts.nil hs14 [0, 0] rfl rfl rfl rfl (fun g_ => ⟨rfl, rfl, trivial⟩) ?_)))))))
 refine WL.r 1 hs14 [] rfl ?_
 apply WL.gO 4 Acts.nil hs14 rfl
 ·intro g15 J16
  have qg15 := g15
  try simp only [bf, within_iff, within_not] at qg15
  refine WL.runA tbk 2 (Acts.nil.cons (j := 58) rfl g15) hs14 [0] rfl ⟨rfl, trivial⟩ (WL.call (wantF rfl g15) rfl rfl (Run.call Tryz.call139 rfl rfl rfl) (k41_ _ _ _ _ _ _) ?_)
  rintro _ whs17 ⟨rfl, hs17⟩
  replace hs17 := hs14.call0 hs17
  refine ⟨_, rfl, WL.runA tbk 1 (Acts.nil.cons (j := 58) rfl g15) hs17 [] rfl trivial (WL.eO 4 Acts.nil J16 hs17 g15 rfl rfl)⟩
 intro _ hs18
 refine WL.r 1 hs18 [] rfl ?_
 apply WL.gO 4 Acts.nil hs18 rfl
 ·intro g19 J20
  have qg19 := g19
  try simp only [bf, within_iff, within_not] at qg19
  refine WL.runA tbk 2 (Acts.nil.cons (j := 64) rfl g19) hs18 [0] rfl ⟨rfl, trivial⟩ (WL.call (wantF rfl g19) rfl rfl (Run.call Tryz.call139 rfl rfl rfl) (k41_ _ _ _ _ _ _) ?_)
  rintro _ whs21 ⟨rfl, hs21⟩
  replace hs21 := hs18.call0 hs21
  refine ⟨_, rfl, WL.runA tbk 1 (Acts.nil.cons (j := 64) rfl g19) hs21 [] rfl trivial (WL.eO 4 Acts.nil J20 hs21 g19 rfl rfl)⟩
 intro _ hs22
 refine WL.nil (WC.cq rfl (fun h23 qh23 => ?_) (fun h23 qh23 => ?_))
 ·have hp2 : scrP2 s.dat = false := by have h9 := h23; unfold scrP2 gridHas within; show ((((decide (0 ≤ s.X) && decide (s.X ≤ s.Main.W - 1)) && (decide (0 ≤ s.Y) && decide (s.Y ≤ s.Main.H - 1))) && ((decide (0 ≤ s.SaveX) && decide (s.SaveX ≤ s.Main.W - 1)) && (decide (0 ≤ s.SaveY) && decide (s.SaveY ≤ s.Main.H - 1)))) && ((!s.Wrap || decide (s.X = s.W - 1)) && (attrOk s.A.Fg s.A.Bg && attrOk s.SaveA.Fg s.SaveA.Bg))) = false; revert h9; cases s.Wrap <;> cases attrOk s.A.Fg s.A.Bg <;> cases attrOk s.SaveA.Fg s.SaveA.Bg <;> intro h9 <;> simp at h9 ⊢ <;> omega
  refine WC.r1 hs22 [] rfl (WC.ret (tkR ?_))
  clear hK11
  refine rtv rfl rfl hs22 ?_
  rw [scrOk_no (.inr (.inl hp2))]
 have hp2 : scrP2 s.dat = true := by have h9 := h23; unfold scrP2 gridHas within; show ((((decide (0 ≤ s.X) && decide (s.X ≤ s.Main.W - 1)) && (decide (0 ≤ s.Y) && decide (s.Y ≤ s.Main.H - 1))) && ((decide (0 ≤ s.SaveX) && decide (s.SaveX ≤ s.Main.W - 1)) && (decide (0 ≤ s.SaveY) && decide (s.SaveY ≤ s.Main.H - 1)))) && ((!s.Wrap || decide (s.X = s.W - 1)) && (attrOk s.A.Fg s.A.Bg && attrOk s.SaveA.Fg s.SaveA.Bg))) = true; revert h9; cases s.Wrap <;> cases attrOk s.A.Fg s.A.Bg <;> cases attrOk s.SaveA.Fg s.SaveA.Bg <;> intro h9 <;> simp at h9 ⊢ <;> omega
 refine WC.skip (hK11 _ _ (WC.seq (fun K24 hK24 => WC.sr (WL.r 4 hs22 [0] rfl (WL.pO tbk 5 Acts.nil hs22 [0, 0] rfl rfl rfl rfl (fun g_ => ⟨rfl, rfl, trivial⟩) (WL.r 1 hs22 [] rfl (WL.pO tbk 5 Acts.nil hs22 [0, 0] rfl rfl rfl rfl (fun g_ => ⟨rfl, rfl, trivial⟩) ?_)))))))
 refine WL.r 1 hs22 [] rfl ?_
 apply WL.gO 10 Acts.nil hs22 rfl
 ·intro g25 J26
  have qg25 := g25
  try simp only [bf, within_iff, within_not] at qg25
  refine WL.runA tbk 6 (Acts.nil.cons (j := 17) rfl g25) hs22 [0, 0] rfl ⟨rfl, rfl, trivial⟩ (WL.pA tbk 3 (Acts.nil.cons (j := 17) rfl g25) hs22 [0] rfl rfl rfl rfl (fun g_ => ⟨rfl, trivial⟩) (WL.eO 7 Acts.nil J26 hs22 g25 rfl rfl))
 intro _ hs27
 refine WL.r 1 hs27 [] rfl (WL.pO tbk 3 Acts.nil hs27 [0] rfl rfl rfl rfl (fun g_ => ⟨rfl, trivial⟩) (WL.r 1 hs27 [] rfl (WL.pO tbk 3 Acts.nil hs27 [0] rfl rfl rfl rfl (fun g_ => ⟨rfl, trivial⟩) (WL.r 1 hs27 [] rfl (WL.pO tbk 6 Acts.nil hs27 [0, 0] rfl rfl rfl rfl (fun g_ => ⟨rfl, rfl, trivial⟩) (WL.nil (WC.cq rfl (fun h28 qh28 => ?_) (fun h28 qh28 => ?_))))))))
 ·have hp34 : scrP3 s.dat = false ∨ scrP4 s.dat = false := by have h9 := h28; unfold scrP3 scrP4 within; show ((decide (0 ≤ s.Top) && decide (s.Top ≤ s.Bot)) && (decide (s.Bot < s.H) && (!decide (s.Top = s.Bot) || decide (s.H = 1)))) = false ∨ ((decide (0 ≤ s.Limit) && decide (s.Limit ≤ 100)) && decide (((s.Back.xs.map RowR.dat).length : Int) ≤ s.Limit)) = false; rw [List.length_map, nl_s_Back]; simp at h9 ⊢; omega
  refine WC.r1 hs27 [] rfl (WC.ret (tkR ?_))
  clear hK24
  refine rtv rfl rfl hs27 ?_
  rw [scrOk_no (.inr (.inr (hp34.elim .inl (fun h => .inr (.inl h)))))]
 have hp34 : scrP3 s.dat = true ∧ scrP4 s.dat = true := by have h9 := h28; unfold scrP3 scrP4 within; show ((decide (0 ≤ s.Top) && decide (s.Top ≤ s.Bot)) && (decide (s.Bot < s.H) && (!decide (s.Top = s.Bot) || decide (s.H = 1)))) = true ∧ ((decide (0 ≤ s.Limit) && decide (s.Limit ≤ 100)) && decide (((s.Back.xs.map RowR.dat).length : Int) ≤ s.Limit)) = true; rw [List.length_map, nl_s_Back]; simp at h9 ⊢; omega
 refine WC.skip (hK24 _ _ (WC.seq (fun K29 hK29 => WC.r1 hs27 [0] rfl (WC.block ?_))))
 refine WC.lS [1, 48, 118, 165, 167, 168] rfl hs27 (fun k_ f w' => ∃ (i : Nat), k_ = s.Tabs.n - i ∧ (i ≤ s.Tabs.n) ∧ (∀ j, j < i → ascAt s.Tabs.xs 0 (s.W - 1) j = true) ∧ Sub [(169, .int .i64 i)] f) ((fun (i : Nat) => s.Tabs.n - i) (0)) ?_ ?_
 ·refine ⟨0, rfl, ?_, ?_, ⟨rfl, trivial⟩⟩
  · exact Nat.zero_le _
  · exact fun j hj => absurd hj (by omega)
 clear hs27
 rintro _ f w ⟨i, rfl, p0, p1, hG⟩ hF hs30
 refine WC.sub _ (hG.app hF) ?_
 clear hG hF
 refine WC.r1 hs30 [] rfl (WC.seq (fun K31 hK31 => ?_))
 refine WC.cq rfl (fun h32 qh32 => ?_) (fun h32 qh32 => ?_)
 ·refine WC.skip (hK31 _ _ (WC.seq (fun K33 hK33 => WC.block (WC.sr (WL.r 1 hs30 [] rfl ?_)))))
  refine WL.val rfl rfl rfl (Run.idxN Tryz.runUnderlying23 Tryz.sizeOf3 rfl rfl rfl ?_ ?_ ?_) ?_
  · exact SlF.some_ (SlF.st0 f_s.Tabs hs30)
  · omega
  · omega
  refine WL.val rfl rfl rfl (Run.load Tryz.isAgg3 rfl rfl (SlF.one1 (SlF.st0 f_s.Tabs hs30) ?_ rfl)) ?_
  · omega
  refine WL.r 2 hs30 [] rfl (WL.nil (WC.sr (WL.r 3 hs30 [] rfl (WL.pO tbk 4 Acts.nil hs30 [0] rfl rfl rfl rfl (fun g_ => ⟨rfl, trivial⟩) (WL.r 1 hs30 [] rfl ?_)))))
  apply WL.gO 12 Acts.nil hs30 rfl
  ·intro g34 J35
   have qg34 := g34
   try simp only [bf, within_iff, within_not] at qg34
   refine WL.runA tbk 3 (Acts.nil.cons (j := 8) rfl g34) hs30 [] rfl trivial ?_
   apply WL.gA 8 (Acts.nil.cons (j := 8) rfl g34) hs30 rfl
   ·intro g36 J37
    have qg36 := g36
    try simp only [bf, within_iff, within_not] at qg36
    refine WL.runA tbk 4 (Acts.nil.cons (j := 11) rfl g36) hs30 [0] rfl ⟨by omega, rfl, trivial⟩ (WL.val (wantT rfl g36) rfl rfl (Run.idxK (i - 1) Tryz.runUnderlying23 Tryz.sizeOf3 rfl rfl rfl ?_ ?_ ?_) ?_)
    · exact SlF.some_ (SlF.st0 f_s.Tabs hs30)
    · omega
    · omega
    refine WL.val (wantT rfl g36) rfl rfl (Run.load Tryz.isAgg3 rfl rfl (SlF.one1 (SlF.st0 f_s.Tabs hs30) ?_ rfl)) ?_
    · omega
    refine WL.runA tbk 2 (Acts.nil.cons (j := 11) rfl g36) hs30 [] rfl trivial (WL.eA 8 (Acts.nil.cons (j := 8) rfl g34) J37 hs30 g36 rfl rfl)
   intro _ hs38
   exact WL.eO 4 Acts.nil J35 hs38 g34 rfl rfl
  intro _ hs39
  refine WL.nil (WC.cq rfl (fun h40 qh40 => ?_) (fun h40 qh40 => ?_))
  ·have ha : ascAt s.Tabs.xs 0 (s.W - 1) i = false := by unfold ascAt within iat; have h9 := h40; simp at h9 ⊢; omega
   refine WC.r1 hs39 [] rfl (WC.ret (ibR (tkR (tkR (ibR (tkR ?_))))))
   clear hK33 hK29
   refine rtv rfl rfl hs39 ?_
   rw [scrOk_no (.inr (.inr (.inr (.inr (.inl (isAsc_not (i := i) (by show i < s.Tabs.xs.length; omega) ha))))))]
  have ha : ascAt s.Tabs.xs 0 (s.W - 1) i = true := by unfold ascAt within iat; have h9 := h40; simp at h9 ⊢; omega
  refine WC.skip (hK33 _ _ (WC.region (WL.r 2 hs39 [] rfl (WL.nil (tkN ?_)))))
  refine ⟨sbF rfl, hs39, _, ?_, i + 1, rfl, ?_, ?_, ⟨rfl, trivial⟩⟩
  · omega
  · omega
  · intro j hj; rcases Nat.lt_or_ge j i with h_ | h_
    · exact p1 j h_
    · obtain rfl : j = i := by omega
      exact ha
 have hasc : isAsc s.dat.Tabs 0 (s.dat.W - 1) = true := isAsc_all (fun j hj => p1 j (by have : j < s.Tabs.xs.length := hj; omega))
 refine WC.exit (hK29 _ _ (WC.seq (fun K41 hK41 => WC.r1 hs30 [0] rfl (WC.block ?_))))
 refine WC.lS [48, 118, 165, 170, 198, 199] rfl hs30 (fun k_ f w' => ∃ (i : Nat), k_ = s.Back.n - i ∧ (i ≤ s.Back.n) ∧ (∀ j, j < i → rowOk (RowR.dat (gat encRowR s.Back.xs j)) = true) ∧ Sub [(200, .int .i64 i)] f) ((fun (i : Nat) => s.Back.n - i) (0)) ?_ ?_
 ·refine ⟨0, rfl, ?_, ?_, ⟨rfl, trivial⟩⟩
  · exact Nat.zero_le _
  · exact fun j hj => absurd hj (by omega)
 clear hs30
 rintro _ f w ⟨i, rfl, r0, r1, hG⟩ hF hs42
 refine WC.sub _ (hG.app hF) ?_
 clear hG hF
 refine WC.r1 hs42 [] rfl (WC.seq (fun K43 hK43 => ?_))
 refine WC.cq rfl (fun h44 qh44 => ?_) (fun h44 qh44 => ?_)
 ·refine WC.skip (hK43 _ _ (WC.seq (fun K45 hK45 => WC.block (WC.sr ?_))))
  refine WL.val rfl rfl rfl (Run.idxN Tryz.runUnderlying31 Tryz.sizeOf98 rfl rfl rfl ?_ ?_ ?_) ?_
  · exact SlF.some_ (SlF.st0 f_s.Back.sl hs42)
  · omega
  · omega
  refine WL.val rfl rfl rfl (Run.loadA Tryz.isAgg98 Tryz.sizeOf98 rfl rfl (SlF.whole (SlF.st0 f_s.Back.sl hs42) ?_)) ?_
  · omega
  refine WL.al hs42 Tryz.zeroValue98 rfl rfl (fun b46 _ hs47 => WL.st tbk hs47 0 rfl rfl (fun _ hs48 => WL.nil (WC.sr (WL.r 1 hs48 [0] rfl (WL.cl Tryz.call140 rfl (k77_ (gat encRowR s.Back.xs i) _ (okRowR.st0 (SlN.nth f_s.Back (by omega)) hs48)) ?_)))))
  rintro _ whs49 ⟨rfl, hs49⟩
  replace hs49 := hs48.call0 hs49
  refine ⟨_, rfl, WL.r 1 hs49 [] rfl (WL.nil (WC.cq rfl (fun h50 qh50 => ?_) (fun h50 qh50 => ?_)))⟩
  ·refine WC.r1 hs49 [] rfl (WC.ret (ibR (tkR (tkR (ibR (tkR ?_))))))
   clear hK45 hK41
   refine rtv rfl rfl hs49 ?_
   rw [scrOk_no (.inr (.inr (.inr (.inr (.inr (all_gat_not (F := encRowR) (j := i) (by omega) (by simpa using h50)))))))]
  refine WC.skip (hK45 _ _ (WC.region (WL.r 2 hs49 [] rfl (WL.nil (tkN ?_)))))
  refine ⟨sbF rfl, (hs49.drop (by repeat (first | exact List.Sublist.refl _ | exact List.sublist_append_left _ _ | exact List.Sublist.trans (List.sublist_append_left _ _) (List.sublist_append_left _ _) | apply List.Sublist.cons | refine List.Sublist.trans ?_ (sR _)))), _, ?_, i + 1, rfl, ?_, ?_, ⟨rfl, trivial⟩⟩
  · omega
  · omega
  · intro j hj; rcases Nat.lt_or_ge j i with h_ | h_
    · exact r1 j h_
    · obtain rfl : j = i := by omega
      simpa using h50
 refine WC.exit (hK41 _ _ (WC.r1 hs42 [] rfl (WC.ret (rtv rfl rfl hs42 ?_))))
 rw [scrOk_all hp1 hp2 hp34.1 hp34.2 hasc (all_gat (F := encRowR) (fun j hj => r1 j (by omega)))]
end Go.Proofs.YtjmegoiclgancaaGreat
