/- Walks of Go functions, printed by a program (wip/gen). -/
import Derived.Test.YtlmcekfdlgkffaaM9
import Derived.Test.YtlmcekfdlgkffaaP4
namespace Go.Proofs.Ytlmcekfdlgkffaa
open Go Go.RowKit
set_option linter.unusedVariables false
set_option linter.unusedSimpArgs false
theorem built_100_0 (x0 : Int) : Try.prog.built 100 [(0, .int .i64 x0)] = some (List.toArray [.int .i64 x0, .int .i64 0, .int .i64 0, .bool false, .bool false, .bool false]) := by kernel_rfl
theorem built_28_0_1_2 (x0 : Int) (x1 : Int) (x2 : Option Addr) (x3 : Nat) (x4 : Nat) : Try.prog.built 28 [(0, .int .i64 x0), (1, .int .i64 x1), (2, .slice x2 x3 x4)] = some (List.toArray [.int .i64 x0, .int .i64 x1, .slice x2 x3 x4]) := by kernel_rfl
theorem built_33 : Try.prog.built 33 [] = some (List.toArray [.int .i64 0, .int .i64 0, .int .i64 0, .int .i64 0, .slice none 0 0, .int .i64 0, .int .i64 0, .slice none 0 0, .bool false, .int .i64 0, .int .i64 0, .bool false, .int .i64 0, .int .i64 0, .bool false, .bool false, .bool false, .int .i64 0, .int .i64 0, .bool false, .bool false, .int .i64 0, .int .i64 0, .int .i64 0, .int .i64 0, .bool false, .bool false, .bool false, .slice none 0 0, .int .i64 0, .slice none 0 0]) := by kernel_rfl
theorem built_33_0_1_2_3_10_16_17 (x0 : Int) (x1 : Int) (x2 : Value) (x3 : Value) (x4 : Value) (x5 : Value) (x6 : Value) (x7 : Value) (x8 : Int) (x9 : Option Addr) (x10 : Nat) (x11 : Nat) (x12 : Int) : Try.prog.built 33 [(0, .int .i64 x0), (1, .int .i64 x1), (2, .agg [x2, x3, x4].toArray), (3, .agg [x5, x6, x7].toArray), (10, .int .i64 x8), (16, .slice x9 x10 x11), (17, .int .i64 x12)] = some (List.toArray [.int .i64 x0, .int .i64 x1, x2, x3, x4, x5, x6, x7, .bool false, .int .i64 0, .int .i64 0, .bool false, .int .i64 0, .int .i64 0, .bool false, .bool false, .bool false, .int .i64 0, .int .i64 x8, .bool false, .bool false, .int .i64 0, .int .i64 0, .int .i64 0, .int .i64 0, .bool false, .bool false, .bool false, .slice x9 x10 x11, .int .i64 x12, .slice none 0 0]) := by kernel_rfl
theorem c_impl_isSize (w_ h_ : Int) (w : World) :
    Calls Try.prog 89 #[i64 w_, i64 h_] w fun e w' => e = .returned (.bool (isSize w_ h_)) ∧ St w [] [] w' := by
 refine enter (vs := [i64 w_, i64 h_]) 17 Try.func89 rfl Try.ntmps89 rfl rfl ?_
 have hs1 := St.init w
 refine WC.rr tbk hs1 [] rfl trivial ?_
 refine WC.sr ?_
 refine WL.run tbk 1 hs1 [] rfl trivial ?_
 refine WL.call rfl rfl rfl (Run.call Try.call72 rfl rfl rfl) (c_impl_within _ _ _ _) ?_
 rintro _ whs2 ⟨rfl, hs2⟩
 replace hs2 := hs1.call0 hs2
 refine ⟨_, rfl, ?_⟩
 refine WL.run tbk 1 hs2 [] rfl trivial ?_
 apply WL.gA 2 Acts.nil hs2 rfl
 ·intro g3 J4
  have qg3 := g3
  try simp only [bf, within_iff, within_not] at qg3
  refine WL.runA tbk 1 (Acts.nil.cons (j := 2) rfl g3) hs2 [] rfl trivial ?_
  refine WL.call (wantT rfl g3) rfl rfl (Run.call Try.call72 rfl rfl rfl) (c_impl_within _ _ _ _) ?_
  rintro _ whs5 ⟨rfl, hs5⟩
  replace hs5 := hs2.call0 hs5
  refine ⟨_, rfl, ?_⟩
  exact WL.eA 2 Acts.nil J4 hs5 g3 rfl rfl
 ·intro _ hs6
  refine WL.run tbk 1 hs6 [] rfl trivial ?_
  apply WL.gA 4 Acts.nil hs6 rfl
  ·intro g7 J8
   have qg7 := g7
   try simp only [bf, within_iff, within_not] at qg7
   refine WL.runA tbk 4 (Acts.nil.cons (j := 6) rfl g7) hs6 [] rfl ⟨?_, trivial⟩ ?_
   · (have h9 := mul_size (w := w_) (h := h_) (by omega) (by omega); constructor <;> omega)
   exact WL.eA 4 Acts.nil J8 hs6 g7 rfl rfl
  ·intro _ hs9
   refine WL.run tbk 1 hs9 [] rfl trivial ?_
   refine WL.nil ?_
   refine WC.ret ?_
   refine retV1 rfl (resV.tmp rfl) ?_
   refine ⟨congrArg Ending.returned ?_, hs9.nil⟩
   rfl
theorem c_impl_blank  (w : World) :
    Calls Try.prog 181 #[] w fun e w' => e = .returned (.agg #[i64 32, i64 0, i64 0, .bool false, .bool false, .bool false]) ∧ St w [] [] w' := by
 refine enter (vs := []) 2 Try.func181 rfl Try.ntmps181 rfl rfl ?_
 have hs1 := St.init w
 refine WC.sr ?_
 refine WL.al hs1 Try.zeroValue100 rfl rfl (fun b2 _ hs3 => ?_)
 refine WL.nil ?_
 refine WC.sr ?_
 refine WL.val rfl rfl rfl (Run.build rfl rfl rfl rfl (built_100_0 _)) ?_
 refine WL.st tbk hs3 0 rfl rfl (fun _ hs4 => ?_)
 refine WL.nil ?_
 refine WC.ret ?_
 refine retV1 rfl (resV.cellA tbk hs4 0 rfl rfl rfl rfl) ?_
 refine ⟨congrArg Ending.returned ?_, hs4.nil⟩
 rfl
theorem c_spec_l07Blank  (w : World) :
    Calls Try.prog 117 #[] w fun e w' => e = .returned (.agg #[i64 32, i64 0, i64 0, .bool false, .bool false, .bool false]) ∧ St w [] [] w' := by
 refine enter (vs := []) 2 Try.func117 rfl Try.ntmps117 rfl rfl ?_
 have hs1 := St.init w
 refine WC.sr ?_
 refine WL.al hs1 Try.zeroValue100 rfl rfl (fun b2 _ hs3 => ?_)
 refine WL.nil ?_
 refine WC.sr ?_
 refine WL.val rfl rfl rfl (Run.build rfl rfl rfl rfl (built_100_0 _)) ?_
 refine WL.st tbk hs3 0 rfl rfl (fun _ hs4 => ?_)
 refine WL.nil ?_
 refine WC.ret ?_
 refine retV1 rfl (resV.cellA tbk hs4 0 rfl rfl rfl rfl) ?_
 refine ⟨congrArg Ending.returned ?_, hs4.nil⟩
 rfl
theorem c_math_bits_Mul64 (c : Nat) (w : World) (hc : c < 4294967296) :
    Calls Try.prog 230 #[.int .u64 ((1 : Nat) : Int), .int .u64 (c : Int)] w fun e w' => e = .returned (.tuple #[.int .u64 ((0 : Nat) : Int), .int .u64 (c : Int)]) ∧ St w [] [] w' := by
 refine enter (vs := [.int .u64 ((1 : Nat) : Int), .int .u64 (c : Int)]) 51 Try.func230 rfl Try.ntmps230 rfl rfl ?_
 have hs1 := St.init w
 refine WC.rr tbk hs1 [] rfl trivial ?_
 refine WC.sr ?_
 refine WL.run tbk 1 hs1 [] rfl trivial ?_
 refine WL.val rfl rfl rfl (Run.maskU (1) rfl rfl rfl ?_) ?_
 · omega
 refine WL.run tbk 1 hs1 [] rfl trivial ?_
 refine WL.nil ?_
 refine WC.sr ?_
 refine WL.run tbk 1 hs1 [] rfl trivial ?_
 refine WL.val rfl rfl rfl (Run.shrU (1) (0) rfl rfl rfl ?_ ?_ ?_) ?_
 · omega
 · omega
 · show _ / 4294967296 = _; omega
 refine WL.run tbk 1 hs1 [] rfl trivial ?_
 refine WL.nil ?_
 refine WC.sr ?_
 refine WL.run tbk 1 hs1 [] rfl trivial ?_
 refine WL.val rfl rfl rfl (Run.maskU (c) rfl rfl rfl ?_) ?_
 · omega
 refine WL.run tbk 1 hs1 [] rfl trivial ?_
 refine WL.nil ?_
 refine WC.sr ?_
 refine WL.run tbk 1 hs1 [] rfl trivial ?_
 refine WL.val rfl rfl rfl (Run.shrU (c) (0) rfl rfl rfl ?_ ?_ ?_) ?_
 · omega
 · omega
 · show _ / 4294967296 = _; omega
 refine WL.run tbk 1 hs1 [] rfl trivial ?_
 refine WL.nil ?_
 refine WC.sr ?_
 refine WL.run tbk 2 hs1 [] rfl trivial ?_
 refine WL.val rfl rfl rfl (Run.asN (c) (Run.mulW rfl rfl rfl) ?_) ?_
 · exact wrapU _ (by omega) (by omega)
 refine WL.run tbk 1 hs1 [] rfl trivial ?_
 refine WL.nil ?_
 refine WC.sr ?_
 refine WL.run tbk 2 hs1 [] rfl trivial ?_
 refine WL.val rfl rfl rfl (Run.asN (0) (Run.mulW rfl rfl rfl) ?_) ?_
 · exact wrapU _ (by omega) (by omega)
 refine WL.run tbk 1 hs1 [] rfl trivial ?_
 refine WL.val rfl rfl rfl (Run.shrU (c) (0) rfl rfl rfl ?_ ?_ ?_) ?_
 · omega
 · omega
 · show _ / 4294967296 = _; omega
 refine WL.val rfl rfl rfl (Run.asN (0) (Run.addW rfl rfl rfl) ?_) ?_
 · exact wrapU _ (by omega) (by omega)
 refine WL.run tbk 1 hs1 [] rfl trivial ?_
 refine WL.nil ?_
 refine WC.sr ?_
 refine WL.run tbk 1 hs1 [] rfl trivial ?_
 refine WL.val rfl rfl rfl (Run.maskU (0) rfl rfl rfl ?_) ?_
 · omega
 refine WL.run tbk 1 hs1 [] rfl trivial ?_
 refine WL.nil ?_
 refine WC.sr ?_
 refine WL.run tbk 1 hs1 [] rfl trivial ?_
 refine WL.val rfl rfl rfl (Run.shrU (0) (0) rfl rfl rfl ?_ ?_ ?_) ?_
 · omega
 · omega
 · show _ / 4294967296 = _; omega
 refine WL.run tbk 1 hs1 [] rfl trivial ?_
 refine WL.nil ?_
 refine WC.sr ?_
 refine WL.run tbk 3 hs1 [] rfl trivial ?_
 refine WL.val rfl rfl rfl (Run.asN (0) (Run.mulW rfl rfl rfl) ?_) ?_
 · exact wrapU _ (by omega) (by omega)
 refine WL.val rfl rfl rfl (Run.asN (0) (Run.addW rfl rfl rfl) ?_) ?_
 · exact wrapU _ (by omega) (by omega)
 refine WL.run tbk 1 hs1 [] rfl trivial ?_
 refine WL.nil ?_
 refine WC.sr ?_
 refine WL.run tbk 2 hs1 [] rfl trivial ?_
 refine WL.val rfl rfl rfl (Run.asN (0) (Run.mulW rfl rfl rfl) ?_) ?_
 · exact wrapU _ (by omega) (by omega)
 refine WL.run tbk 1 hs1 [] rfl trivial ?_
 refine WL.val rfl rfl rfl (Run.asN (0) (Run.addW rfl rfl rfl) ?_) ?_
 · exact wrapU _ (by omega) (by omega)
 refine WL.run tbk 1 hs1 [] rfl trivial ?_
 refine WL.val rfl rfl rfl (Run.shrU (0) (0) rfl rfl rfl ?_ ?_ ?_) ?_
 · omega
 · omega
 · show _ / 4294967296 = _; omega
 refine WL.val rfl rfl rfl (Run.asN (0) (Run.addW rfl rfl rfl) ?_) ?_
 · exact wrapU _ (by omega) (by omega)
 refine WL.run tbk 1 hs1 [] rfl trivial ?_
 refine WL.nil ?_
 refine WC.sr ?_
 refine WL.run tbk 2 hs1 [] rfl trivial ?_
 refine WL.val rfl rfl rfl (Run.asN (c) (Run.mulW rfl rfl rfl) ?_) ?_
 · exact wrapU _ (by omega) (by omega)
 refine WL.run tbk 1 hs1 [] rfl trivial ?_
 refine WL.nil ?_
 refine WC.ret ?_
 refine retV2 rfl (resV.tmp rfl) (resV.tmp rfl) ?_
 refine ⟨congrArg Ending.returned ?_, hs1.nil⟩
 rfl
theorem c_math_bits_Mul (c : Nat) (w : World) (hc : c < 4294967296) :
    Calls Try.prog 219 #[.int .u64 ((1 : Nat) : Int), .int .u64 (c : Int)] w fun e w' => e = .returned (.tuple #[.int .u64 ((0 : Nat) : Int), .int .u64 (c : Int)]) ∧ St w [] [] w' := by
 refine enter (vs := [.int .u64 ((1 : Nat) : Int), .int .u64 (c : Int)]) 30 Try.func219 rfl Try.ntmps219 rfl rfl ?_
 have hs1 := St.init w
 refine WC.rr tbk hs1 [] rfl trivial ?_
 refine WC.seq (fun K2 hK2 => ?_)
 refine WC.condF rfl rfl ?_
 refine WC.skip ?_
 refine hK2 _ _ ?_
 refine WC.sr ?_
 refine WL.run tbk 2 hs1 [] rfl trivial ?_
 refine WL.call rfl rfl rfl (Run.call Try.call230 rfl rfl rfl) (c_math_bits_Mul64 _ _ ?_) ?_
 · first | assumption | rfl | omega
 rintro _ whs4 ⟨rfl, hs4⟩
 replace hs4 := hs1.call0 hs4
 refine ⟨_, rfl, ?_⟩
 refine WL.run tbk 5 hs4 [] rfl trivial ?_
 refine WL.nil ?_
 refine WC.rr tbk hs4 [] rfl trivial ?_
 refine WC.ret ?_
 refine retV2 rfl (resV.tmp rfl) (resV.tmp rfl) ?_
 refine ⟨congrArg Ending.returned ?_, hs4.nil⟩
 rfl
theorem c_slices_Repeat_impl_Cell_impl_Cell (A_x : Option Addr) (n_x c_x : Nat) (x : List CellD) (q_ : Int) (w : World) (f_x : SlF encCell w A_x n_x x) (hx : n_x = 1) (hc : 1 ≤ q_ ∧ q_ ≤ 4000) :
    Calls Try.prog 180 #[.slice A_x n_x c_x, i64 q_] w fun e w' => ∃ A c L1, e = .returned (.slice A (List.replicate q_.toNat (gat encCell x 0)).length c) ∧ St w [] L1 w' ∧ OwnF encCell 100 (.slice A (List.replicate q_.toNat (gat encCell x 0)).length c) (List.replicate q_.toNat (gat encCell x 0)) L1 := by
 have hx1 := hx ▸ f_x.len
 refine enter (vs := [.slice A_x n_x c_x, i64 q_]) 48 Try.func180 rfl Try.ntmps180 rfl rfl ?_
 have hs1 := St.init w
 refine WC.rr tbk hs1 [] rfl trivial ?_
 refine WC.seq (fun K2 hK2 => ?_)
 refine WC.rr tbk hs1 [] rfl trivial ?_
 refine WC.condF rfl (decide_eq_false (by omega)) ?_
 refine WC.skip ?_
 refine hK2 _ _ ?_
 refine WC.sr ?_
 refine WL.run tbk 2 hs1 [] rfl trivial ?_
 refine WL.val rfl rfl rfl (Run.asN (1) (Run.conv Try.runUnderlying3 Try.runUnderlying200 rfl rfl) ?_) ?_
 · exact wrapU _ (by omega) (by decide)
 refine WL.run tbk 1 hs1 [] rfl trivial ?_
 refine WL.val rfl rfl rfl (Run.asN (q_.toNat) (Run.conv Try.runUnderlying3 Try.runUnderlying200 rfl rfl) ?_) ?_
 · exact wrapU _ (by omega) (by omega)
 refine WL.call rfl rfl rfl (Run.call Try.call219 rfl rfl rfl) (c_math_bits_Mul _ _ ?_) ?_
 · first | assumption | rfl | omega
 rintro _ whs4 ⟨rfl, hs4⟩
 replace hs4 := hs1.call0 hs4
 refine ⟨_, rfl, ?_⟩
 refine WL.run tbk 5 hs4 [] rfl trivial ?_
 refine WL.nil ?_
 refine WC.seq (fun K5 hK5 => ?_)
 refine WC.sr ?_
 refine WL.run tbk 1 hs4 [] rfl trivial ?_
 refine WL.val rfl rfl rfl (Run.gtr rfl rfl rfl) ?_
 refine WL.run tbk 1 hs4 [] rfl trivial ?_
 apply WL.gO 2 Acts.nil hs4 rfl
 ·intro g6 J7
  have qg6 := g6
  try simp only [bf, within_iff, within_not] at qg6
  refine WL.runA tbk 1 (Acts.nil.cons (j := 2) rfl g6) hs4 [] rfl trivial ?_
  refine WL.val (wantF rfl g6) rfl rfl (Run.gtr rfl rfl rfl) ?_
  exact WL.eO 2 Acts.nil J7 hs4 g6 rfl rfl
 ·intro _ hs8
  refine WL.nil ?_
  refine WC.condF rfl (by (try simp only [bf]); constructor <;> omega) ?_
  refine WC.skip ?_
  refine hK5 _ _ ?_
  refine WC.sr ?_
  refine WL.run tbk 1 hs8 [] rfl trivial ?_
  refine WL.val rfl rfl rfl (Run.asN (q_.toNat) (Run.conv Try.runUnderlying200 Try.runUnderlying3 rfl rfl) ?_) ?_
  · exact wrap_in (by constructor <;> omega)
  refine WL.makeF (F := encCell) hs8 Try.underlying26 info_100 rfl rfl rfl rfl rfl rfl rfl rfl rfl ?_ ?_ (fun A13 c14 L10 whs11 hs11 ho12 => ?_)
  · have e_ : Try.t100.bytes = 32 := rfl
    rw [e_]; omega
  · omega
  refine WL.run tbk 1 hs11 [] rfl trivial ?_
  refine WL.nil ?_
  refine WC.sr ?_
  refine WL.run tbk 2 hs11 [] rfl trivial ?_
  refine WL.copyF (lo := 0) hs11 ho12 (SlF.st0 f_x hs11) Try.underlying26 Try.underlying26 info_100 rfl rfl rfl rfl rfl rfl rfl (.inr ⟨rfl, rfl⟩) ?_ ?_ (fun L15 _ hs16 ho17 => ?_)
  · first | omega | (simp; omega)
  · first | omega | (simp; omega)
  refine WL.run tbk 1 hs16 [] rfl trivial ?_
  refine WL.nil ?_
  refine WC.seq (fun K18 hK18 => ?_)
  refine WC.block ?_
  refine WC.loopO [(4, _), (10, _), (26, _)] ⟨rfl, rfl, rfl, trivial⟩ hs16 (fun k_ f L_ => ∃ (m : Nat), k_ = q_.toNat - m ∧ (1 ≤ m) ∧ (m ≤ q_.toNat) ∧ OwnF encCell 100 (.slice A13 (q_.toNat) c14) (List.replicate m (gat encCell x 0) ++ List.replicate (q_.toNat - m) encCell.dflt) L_ ∧ Sub [(7, .slice A13 (q_.toNat) c14), (8, .int .i64 m)] f) (((fun (m : Nat) => q_.toNat - m) (1))) ?_ ?_
  ·refine ⟨1, rfl, ?_, ?_, (rep_first (n := q_.toNat) (by omega) hx hx1 ▸ ho17), ⟨rfl, ?_, trivial⟩⟩
   · omega
   · omega
   · (refine congrArg some (congrArg (Value.int _) ?_); omega)
  ·clear hs16
   rintro _ f w L21 ⟨m, rfl, p0, p1, ho22, hG⟩ hF hs23
   refine WC.sub _ (hG.app hF) ?_
   clear hG hF
   have hlm : (List.replicate m (gat encCell x 0) ++ List.replicate (q_.toNat - m) encCell.dflt).length = q_.toNat := by simp; omega
   refine WC.seq (fun K24 hK24 => ?_)
   refine WC.rr tbk hs23 [] rfl trivial ?_
   refine WC.cond rfl (fun h25 => ?_) (fun h25 => ?_)
   ·have qh25 := h25
    try simp only [bf, within_iff, within_not] at qh25
    refine WC.skip ?_
    refine hK24 _ _ ?_
    refine WC.block ?_
    refine WC.regionH2 (fun w' => St _ _ _ w') (fun w' => St _ _ _ w') mixed (St.drew (St.drop hs23 (List.sublist_append_right L21 _))) (St.drew hs23) (fun whs26 hs26 => ?_)
    replace hs26 : St _ _ _ _ := hs26
    refine WH.take 0 rfl (by kernel_rfl) rfl rfl rfl (St.drop hs26 (List.sublist_append_right L21 _)) (fun w_ hs_ => (Run.move rfl rfl)) ?_
    refine WH.take 1 rfl (by kernel_rfl) rfl rfl rfl (St.drop hs26 (List.sublist_append_right L21 _)) (fun w_ hs_ => (Run.move rfl rfl)) ?_
    refine WH.take 2 rfl (by kernel_rfl) rfl rfl rfl (St.drop hs26 (List.sublist_append_right L21 _)) (fun w_ hs_ => (Run.move rfl rfl)) ?_
    have hc_ := OwnF.cap ho22
    refine WH.take 3 rfl (by kernel_rfl) rfl rfl rfl (St.drop hs26 (List.sublist_append_right L21 _)) (fun w_ hs_ => (Run.sliceL (m) Try.runUnderlying26 Try.sizeOf100 rfl rfl rfl ?_ ?_)) ?_
    · first | rfl | (omega)
    · refine ⟨?_, ?_, ?_⟩ <;> (omega)
    refine WH.take 4 rfl (by kernel_rfl) rfl rfl rfl (St.drop hs26 (List.sublist_append_right L21 _)) (fun w_ hs_ => (Run.move rfl rfl)) ?_
    refine WH.take 5 rfl (by kernel_rfl) rfl rfl rfl (St.drop hs26 (List.sublist_append_right L21 _)) (fun w_ hs_ => (Run.move rfl rfl)) ?_
    have hc_ := OwnF.cap ho22
    refine WH.take 6 rfl (by kernel_rfl) rfl rfl rfl (St.drop hs26 (List.sublist_append_right L21 _)) (fun w_ hs_ => (Run.sliceH (m) Try.runUnderlying26 Try.sizeOf100 rfl rfl rfl ?_ ?_)) ?_
    · first | rfl | (omega)
    · refine ⟨?_, ?_, ?_⟩ <;> (omega)
    refine WH.all [7] (by kernel_rfl) rfl (WHs.cons (i := 7) rfl ?_ WHs.nil)
    refine WL.copyF (lo := m) hs26 ho22 (SlF.cutH (m) (SlF.ofOwn ho22 (fun p_ hp_ => (hs26.own p_ (List.mem_append_left _ hp_)).1)) (by refine ⟨?_, ?_, ?_⟩ <;> (omega))) Try.underlying26 Try.underlying26 info_100 rfl rfl rfl rfl rfl rfl rfl (.inl rfl) ?_ ?_ (fun L27 _ hs28 ho29 => ?_)
    · first | omega | (simp; omega)
    · first | omega | (simp; omega)
    refine WL.nil ⟨(St.drop hs28 (List.sublist_append_right L27 _)), ?_⟩
    refine WH.take 8 rfl (by kernel_rfl) rfl rfl rfl (St.drop hs28 (List.sublist_append_right L27 _)) (fun w_ hs_ => (Run.add rfl rfl rfl ?_)) ?_
    · constructor <;> omega
    refine WH.take 9 rfl (by kernel_rfl) rfl rfl rfl (St.drop hs28 (List.sublist_append_right L27 _)) (fun w_ hs_ => (Run.assign rfl rfl)) ?_
    refine WH.done (by kernel_rfl) ?_
    refine ibN ?_
    refine tkN ?_
    refine ⟨⟨rfl, rfl, rfl, trivial⟩, _, hs28, _, ?_, (m + min m (q_.toNat - m)), rfl, ?_, ?_, (rep_next p0 p1 ▸ ho29), ⟨rfl, ?_, trivial⟩⟩
    · omega
    · omega
    · omega
    · (refine congrArg some (congrArg (Value.int _) ?_); omega)
   ·have qh25 := h25
    try simp only [bf, within_iff, within_not] at qh25
    refine WC.exit ?_
    refine hK18 _ _ ?_
    refine WC.rr tbk hs23 [] rfl trivial ?_
    refine WC.ret ?_
    refine retV1 rfl (resV.tmp rfl) ?_
    have hx_ := OwnF.eqOf (xs := List.replicate q_.toNat (gat encCell x 0)) ho22 (by rw [show m = q_.toNat by omega, Nat.sub_self]; simp)
    rw [← hx_]
    first | exact ⟨_, _, _, rfl, (St.keep1 hs23), ho22⟩ | exact ⟨A13, c14, _, by rw [OwnF.len_ ho22], (St.keep1 hs23), by rw [OwnF.len_ ho22]; exact ho22⟩
theorem c_impl_gridOf (w_ : Int) (h_ : Int) (w : World) (hs : isSize w_ h_ = true) :
    Calls Try.prog 132 #[i64 w_, i64 h_] w fun e w' => ∃ r L1, e = .returned (.agg #[i64 r.W, i64 r.H, .slice r.Cells.A r.Cells.n r.Cells.c]) ∧ St w [] L1 w' ∧ ownGridR r L1 ∧ r.dat = gridNew w_ h_ := by
 obtain ⟨hw, hh, hm1, hm2⟩ := isSize_bnd hs
 refine enter (vs := [i64 w_, i64 h_]) 14 Try.func132 rfl Try.ntmps132 rfl rfl ?_
 have hs1 := St.init w
 refine WC.sr ?_
 refine WL.al hs1 Try.zeroValue28 rfl rfl (fun b2 _ hs3 => ?_)
 refine WL.nil ?_
 refine WC.sr ?_
 refine WL.run tbk 2 hs3 [] rfl trivial ?_
 refine WL.call rfl rfl rfl (Run.call Try.call181 rfl rfl rfl) (c_impl_blank _) ?_
 rintro _ whs4 ⟨rfl, hs4⟩
 replace hs4 := hs3.call0 hs4
 refine ⟨_, rfl, ?_⟩
 refine WL.buildF (F := encCell) hs4 ([blankC]) Try.runUnderlying26 Try.sizeOf100 Try.zeroValue100 rfl rfl rfl rfl rfl rfl rfl rfl rfl rfl rfl rfl (fun A8 c9 L5 whs6 hs6 ho7 => ?_)
 replace hs6 := St.back [_] hs6
 refine WL.run tbk 3 hs6 [] rfl ⟨?_, trivial⟩ ?_
 · constructor <;> omega
 refine WL.call rfl rfl rfl (Run.call Try.call180 rfl rfl rfl) (c_slices_Repeat_impl_Cell_impl_Cell _ _ _ _ _ _ (SlF.ofOwn ho7 (fun p_ hp_ => (hs6.own p_ (List.mem_append_right [_] (List.mem_append_left _ hp_))).1)) ?_ ?_) ?_
 · first | (first | assumption | rfl | omega) | (first | rfl | omega)
 · first | (first | assumption | rfl | omega) | (first | rfl | omega)
 rintro _ whs10 ⟨A11, c12, L1_13, rfl, hs10, ho14⟩
 replace hs10 := hs6.callF hs10
 refine ⟨_, rfl, ?_⟩
 replace hs10 := St.back [_] hs10
 refine WL.val rfl rfl rfl (Run.build rfl rfl rfl rfl (built_28_0_1_2 _ _ _ _ _)) ?_
 refine WL.st tbk hs10 0 rfl rfl (fun _ hs15 => ?_)
 refine WL.nil ?_
 refine WC.ret ?_
 refine retV1 rfl (resV.cellA tbk hs15 0 rfl rfl rfl rfl) ?_
 refine ⟨⟨w_, h_, SlD.of ho14⟩, _, rfl, (St.keep1 (St.perm hs15 (L' := L1_13 ++ _) (perm_front (A := [_]) (List.Perm.refl _)))), ?_, ?_⟩
 · exact ho14
 · rfl
theorem c_impl_tabsOf (w_ : Int) (w : World) (hw : 1 ≤ w_ ∧ w_ ≤ 120) :
    Calls Try.prog 133 #[i64 w_] w fun e w' => ∃ A c L1, e = .returned (.slice A (tabsL w_).length c) ∧ St w [] L1 w' ∧ OwnF encI 3 (.slice A (tabsL w_).length c) (tabsL w_) L1 := by
 refine enter (vs := [i64 w_]) 16 Try.func133 rfl Try.ntmps133 rfl rfl ?_
 have hs1 := St.init w
 refine WC.rr tbk hs1 [] rfl trivial ?_
 refine WC.sr ?_
 refine WL.buildF (F := encI) hs1 ([]) Try.runUnderlying22 Try.sizeOf3 Try.zeroValue3 rfl rfl rfl rfl rfl rfl rfl rfl rfl rfl rfl rfl (fun A5 c6 L2 whs3 hs3 ho4 => ?_)
 refine WL.run tbk 1 hs3 [] rfl trivial ?_
 refine WL.nil ?_
 refine WC.seq (fun K7 hK7 => ?_)
 refine WC.rr tbk hs3 [] rfl trivial ?_
 refine WC.block ?_
 refine WC.loopO [(0, _), (2, _)] ⟨rfl, rfl, trivial⟩ hs3 (fun k_ f L_ => ∃ (i : Nat) (A8 : Option Addr) (c9 : Nat), k_ = 121 - i ∧ (i = 0 ∨ 8 * (i : Int) < w_) ∧ (i ≤ 120) ∧ OwnF encI 3 (.slice A8 (((List.range i).map (fun i : Nat => 8 * ((i : Int) + 1))).length) c9) (((List.range i).map (fun i : Nat => 8 * ((i : Int) + 1)))) L_ ∧ Sub [(3, .slice A8 (((List.range i).map (fun i : Nat => 8 * ((i : Int) + 1))).length) c9), (4, .int .i64 (8 * ((i : Int) + 1)))] f) (((fun (i : Nat) => 121 - i) (0))) ?_ ?_
 ·refine ⟨0, _, _, rfl, ?_, ?_, ho4, ⟨?_, ?_, trivial⟩⟩
  · exact .inl rfl
  · omega
  · rfl
  · rfl
 ·clear hs3
  rintro _ f w L10 ⟨i, A8, c9, rfl, p0, p1, ho11, hG⟩ hF hs12
  refine WC.sub _ (hG.app hF) ?_
  clear hG hF
  have hlt : (((List.range i).map (fun i : Nat => 8 * ((i : Int) + 1)))).length = i := by simp
  refine WC.seq (fun K13 hK13 => ?_)
  refine WC.rr tbk hs12 [] rfl trivial ?_
  refine WC.cond rfl (fun h14 => ?_) (fun h14 => ?_)
  ·have qh14 := h14
   try simp only [bf, within_iff, within_not] at qh14
   refine WC.skip ?_
   refine hK13 _ _ ?_
   refine WC.seq (fun K15 hK15 => ?_)
   refine WC.block ?_
   refine WC.region ?_
   refine WL.run tbk 2 hs12 [] rfl trivial ?_
   refine WL.buildSlice hs12 Try.runUnderlying22 Try.sizeOf3 Try.zeroValue3 rfl rfl rfl rfl rfl rfl rfl rfl rfl rfl (fun b16 whs17 hs17 => ?_)
   refine WL.appendG (St.perm hs17 (L' := L10 ++ _) (perm_front (A := [_]) (List.Perm.refl _))) ho11 (srcI1 Try.underlying22 (hs17.own _ (nthL_mem (i := 0) rfl)).1) Try.underlying22 info_3 rfl rfl rfl rfl rfl rfl rfl rfl rfl rfl ?_ (fun A21 c22 L18 whs19 hs19 ho20 => ?_)
   · simp; omega
   replace hs19 := St.back [_] hs19
   refine WL.run tbk 1 hs19 [] rfl trivial ?_
   refine WL.nil ?_
   refine hK15 _ _ ?_
   refine WC.region ?_
   refine WL.run tbk 3 hs19 [] rfl ⟨by omega, trivial⟩ ?_
   refine WL.nil ?_
   refine tkN ?_
   replace hs19 := St.drop hs19 (List.sublist_append_right [_] _)
   refine ⟨⟨rfl, rfl, trivial⟩, _, hs19, _, ?_, i + 1, _, _, rfl, ?_, ?_, (tabsL_take (w := w_) (by omega) ▸ ho20), ⟨?_, ?_, trivial⟩⟩
   · omega
   · right; omega
   · omega
   · (rw [tabsL_take (w := w_) (i := i) (by omega)]; rfl)
   · (refine congrArg some (congrArg (Value.int _) ?_); omega)
  ·have qh14 := h14
   try simp only [bf, within_iff, within_not] at qh14
   refine WC.exit ?_
   refine hK7 _ _ ?_
   refine WC.rr tbk hs12 [] rfl trivial ?_
   refine WC.ret ?_
   refine retV1 rfl (resV.tmp rfl) ?_
   have hx_ := OwnF.eqOf (xs := tabsL w_) ho11 (by exact tabsL_end (by omega) p0)
   rw [← hx_]
   first | exact ⟨_, _, _, rfl, (St.keep1 hs12), ho11⟩ | exact ⟨A8, c9, _, by rw [OwnF.len_ ho11], (St.keep1 hs12), by rw [OwnF.len_ ho11]; exact ho11⟩
theorem c_impl_ScrNew (w_ : Int) (h_ : Int) (l : Int) (w : World) :
    Calls Try.prog 63 #[i64 w_, i64 h_, i64 l] w fun e w' => ∃ r0 L0, e = .returned (.tuple #[.agg #[i64 r0.W, i64 r0.H, i64 r0.Main.W, i64 r0.Main.H, .slice r0.Main.Cells.A r0.Main.Cells.n r0.Main.Cells.c, i64 r0.Alt.W, i64 r0.Alt.H, .slice r0.Alt.Cells.A r0.Alt.Cells.n r0.Alt.Cells.c, .bool r0.OnAlt, i64 r0.X, i64 r0.Y, .bool r0.Wrap, i64 r0.A.Fg, i64 r0.A.Bg, .bool r0.A.Bold, .bool r0.A.Under, .bool r0.A.Turn, i64 r0.Top, i64 r0.Bot, .bool r0.NoWrap, .bool r0.Hide, i64 r0.SaveX, i64 r0.SaveY, i64 r0.SaveA.Fg, i64 r0.SaveA.Bg, .bool r0.SaveA.Bold, .bool r0.SaveA.Under, .bool r0.SaveA.Turn, .slice r0.Tabs.A r0.Tabs.n r0.Tabs.c, i64 r0.Limit, .slice r0.Back.A r0.Back.n r0.Back.c], .bool (scrMay w_ h_ l)]) ∧ St w [] (L0) w' ∧ ownScrR r0 L0 ∧ r0.dat = scrRes w_ h_ l := by
 refine enter (vs := [i64 w_, i64 h_, i64 l]) 32 Try.func63 rfl Try.ntmps63 rfl rfl ?_
 have hs1 := St.init w
 refine WC.sr ?_
 refine WL.al hs1 Try.zeroValue33 rfl rfl (fun b2 _ hs3 => ?_)
 refine WL.run tbk 1 hs3 [] rfl trivial ?_
 refine WL.nil ?_
 refine WC.seq (fun K4 hK4 => ?_)
 refine WC.sr ?_
 refine WL.run tbk 2 hs3 [] rfl trivial ?_
 refine WL.call rfl rfl rfl (Run.call Try.call89 rfl rfl rfl) (c_impl_isSize _ _ _) ?_
 rintro _ whs5 ⟨rfl, hs5⟩
 replace hs5 := hs3.call0 hs5
 refine ⟨_, rfl, ?_⟩
 refine WL.run tbk 2 hs5 [] rfl trivial ?_
 apply WL.gO 3 Acts.nil hs5 rfl
 ·intro g6 J7
  have qg6 := g6
  try simp only [bf, within_iff, within_not] at qg6
  refine WL.runA tbk 1 (Acts.nil.cons (j := 4) rfl g6) hs5 [] rfl trivial ?_
  refine WL.call (wantF rfl g6) rfl rfl (Run.call Try.call72 rfl rfl rfl) (c_impl_within _ _ _ _) ?_
  rintro _ whs8 ⟨rfl, hs8⟩
  replace hs8 := hs5.call0 hs8
  refine ⟨_, rfl, ?_⟩
  refine WL.runA tbk 1 (Acts.nil.cons (j := 4) rfl g6) hs8 [] rfl trivial ?_
  exact WL.eO 3 Acts.nil J7 hs8 g6 rfl rfl
 ·intro _ hs9
  refine WL.nil ?_
  refine WC.cond rfl (fun h10 => ?_) (fun h10 => ?_)
  ·have qh10 := h10
   try simp only [bf, within_iff, within_not] at qh10
   have hm : scrMay w_ h_ l = false := by rw [← Bool.not_eq_true]; intro h9; unfold scrMay at h9; have h8 := h10; rw [← Bool.not_and, h9] at h8; cases h8
   refine WC.sr ?_
   refine WL.val rfl rfl rfl (Run.build rfl rfl rfl rfl (built_33)) ?_
   refine WL.st tbk hs9 0 rfl rfl (fun _ hs11 => ?_)
   refine WL.run tbk 1 hs11 [] rfl trivial ?_
   refine WL.nil ?_
   refine WC.ret ?_
   refine tkR ?_
   clear hK4
   refine retV2 rfl (resV.cellA tbk hs11 0 rfl rfl rfl rfl) (resV.tmp rfl) ?_
   rw [hm]
   have hv : scrRes w_ h_ l = scr0 := by unfold scrRes; rw [hm]; rfl
   obtain ⟨L17, hs16, ho18⟩ := ownScrR.fold ⟨0, 0, ⟨0, 0, ⟨_, _, _, _⟩⟩, ⟨0, 0, ⟨_, _, _, _⟩⟩, false, 0, 0, false, ⟨0, 0, false, false, false⟩, 0, 0, false, false, 0, 0, ⟨0, 0, false, false, false⟩, ⟨_, _, _, _⟩, 0, ⟨_, _, _, _⟩⟩ (St.perm (St.perm (St.perm (St.perm hs11 (L' := ([] : Hp) ++ _) (perm_front (A := [_]) (List.Perm.refl _))) (L' := ([] : Hp) ++ _) (perm_front (A := ([] : Hp)) (perm_front (A := [_]) (List.Perm.refl _)))) (L' := ([] : Hp) ++ _) (perm_front (A := ([] : Hp)) (perm_front (A := ([] : Hp)) (perm_front (A := [_]) (List.Perm.refl _))))) (L' := ([] : Hp) ++ _) (perm_front (A := ([] : Hp)) (perm_front (A := ([] : Hp)) (perm_front (A := ([] : Hp)) (perm_front (A := [_]) (List.Perm.refl _)))))) (OwnF.nil _ _) (OwnF.nil _ _) (OwnF.nil _ _) (OwnN.nil _ _ _)
   have hs19 := (St.perm hs16 (L' := [_] ++ _) (perm_front (A := L17) (List.Perm.refl _)))
   refine ⟨⟨0, 0, ⟨0, 0, ⟨none, 0, 0, []⟩⟩, ⟨0, 0, ⟨none, 0, 0, []⟩⟩, false, 0, 0, false, ⟨0, 0, false, false, false⟩, 0, 0, false, false, 0, 0, ⟨0, 0, false, false, false⟩, ⟨none, 0, 0, []⟩, 0, ⟨none, 0, 0, []⟩⟩, _, rfl, (St.keep1 (St.perm hs19 (L' := L17 ++ _) (perm_front (A := [_]) (List.Perm.refl _)))), ?_, ?_⟩
   · exact (by exact ho18)
   · rw [hv]; rfl
  ·have qh10 := h10
   try simp only [bf, within_iff, within_not] at qh10
   have hm : scrMay w_ h_ l = true := by unfold scrMay; rw [Bool.and_eq_true, within_iff]; exact qh10
   have hs : isSize w_ h_ = true := by unfold scrMay at hm; rw [Bool.and_eq_true] at hm; exact hm.1
   obtain ⟨hw, hh, hm1, hm2⟩ := isSize_bnd hs
   refine WC.skip ?_
   refine hK4 _ _ ?_
   refine WC.sr ?_
   refine WL.run tbk 4 hs9 [] rfl trivial ?_
   refine WL.call rfl rfl rfl (Run.call Try.call132 rfl rfl rfl) (c_impl_gridOf _ _ _ ?_) ?_
   · first | assumption | rfl | omega
   rintro _ whs20 ⟨r21, L1_22, rfl, hs20, ho23, hd24⟩
   replace hs20 := hs9.callF hs20
   refine ⟨_, rfl, ?_⟩
   replace hs20 := St.back [_] hs20
   refine WL.run tbk 2 hs20 [] rfl trivial ?_
   refine WL.call rfl rfl rfl (Run.call Try.call132 rfl rfl rfl) (c_impl_gridOf _ _ _ ?_) ?_
   · first | assumption | rfl | omega
   rintro _ whs25 ⟨r26, L1_27, rfl, hs25, ho28, hd29⟩
   replace hs25 := hs20.callF hs25
   refine ⟨_, rfl, ?_⟩
   replace hs25 := St.back [_] hs25
   refine WL.run tbk 3 hs25 [] rfl ⟨by omega, trivial⟩ ?_
   refine WL.call rfl rfl rfl (Run.call Try.call133 rfl rfl rfl) (c_impl_tabsOf _ _ ?_) ?_
   · first | assumption | rfl | omega
   rintro _ whs30 ⟨A31, c32, L1_33, rfl, hs30, ho34⟩
   replace hs30 := hs25.callF hs30
   refine ⟨_, rfl, ?_⟩
   replace hs30 := St.back [_] hs30
   refine WL.run tbk 1 hs30 [] rfl trivial ?_
   refine WL.val rfl rfl rfl (Run.build rfl rfl rfl rfl (built_33_0_1_2_3_10_16_17 _ _ _ _ _ _ _ _ _ _ _ _ _)) ?_
   refine WL.st tbk hs30 0 rfl rfl (fun _ hs35 => ?_)
   refine WL.run tbk 1 hs35 [] rfl trivial ?_
   refine WL.nil ?_
   refine WC.ret ?_
   refine retV2 rfl (resV.cellA tbk hs35 0 rfl rfl rfl rfl) (resV.tmp rfl) ?_
   rw [hm]
   have hv : scrRes w_ h_ l = scrNew w_ h_ l := by unfold scrRes; rw [hm]; rfl
   obtain ⟨L38, hs37, ho39⟩ := ownScrR.fold ⟨0, 0, ⟨0, 0, ⟨_, _, _, _⟩⟩, ⟨0, 0, ⟨_, _, _, _⟩⟩, false, 0, 0, false, ⟨0, 0, false, false, false⟩, 0, 0, false, false, 0, 0, ⟨0, 0, false, false, false⟩, ⟨_, _, _, _⟩, 0, ⟨_, _, _, _⟩⟩ (St.perm (St.perm (St.perm (St.perm hs35 (L' := ([] : Hp) ++ _) (perm_front (A := [_]) (List.Perm.refl _))) (L' := L1_33 ++ _) (perm_front (A := ([] : Hp)) (perm_front (A := [_]) (List.Perm.refl _)))) (L' := L1_27 ++ _) (perm_front (A := L1_33) (perm_front (A := ([] : Hp)) (perm_front (A := [_]) (List.Perm.refl _))))) (L' := L1_22 ++ _) (perm_front (A := L1_27) (perm_front (A := L1_33) (perm_front (A := ([] : Hp)) (perm_front (A := [_]) (List.Perm.refl _)))))) ho23 ho28 ho34 (OwnN.nil _ _ _)
   have hs40 := (St.perm hs37 (L' := [_] ++ _) (perm_front (A := L38) (List.Perm.refl _)))
   refine ⟨⟨w_, h_, ⟨r21.W, r21.H, SlD.of ho23⟩, ⟨r26.W, r26.H, SlD.of ho28⟩, false, 0, 0, false, ⟨0, 0, false, false, false⟩, 0, (h_ - (1)), false, false, 0, 0, ⟨0, 0, false, false, false⟩, SlD.of ho34, l, ⟨none, 0, 0, []⟩⟩, _, rfl, (St.keep1 (St.perm hs40 (L' := L38 ++ _) (perm_front (A := [_]) (List.Perm.refl _)))), ?_, ?_⟩
   · exact (by exact ho39)
   · rw [hv]; exact ScrD.ext' rfl rfl hd24 hd29 rfl rfl rfl rfl rfl rfl rfl rfl rfl rfl rfl rfl rfl rfl rfl
end Go.Proofs.Ytlmcekfdlgkffaa
