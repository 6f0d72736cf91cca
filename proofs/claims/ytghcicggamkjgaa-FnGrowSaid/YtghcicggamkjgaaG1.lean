/- Walks of Go functions, printed by a program (wip/gen). -/
import Derived.Test.YtghcicggamkjgaaN4
import Derived.Test.YtghcicggamkjgaaE9
import Derived.Test.YtghcicggamkjgaaProg
namespace Go.Proofs.Ytghcicggamkjgaa
open Go Go.RowKit
set_option linter.unusedVariables false
set_option linter.unusedSimpArgs false
theorem mixed : Try.prog.follows .mixedOrders = true := by kernel_rfl
theorem info_62 : Try.prog.info? 62 = some Try.t62 := by kernel_rfl
theorem c_impl_within (n lo hi : Int) (w : World) :
    Calls Try.prog 83 #[i64 n, i64 lo, i64 hi] w fun e w' => e = .returned (.bool (within n lo hi)) ∧ St w [] [] w' := by
  refine enter (vs := [i64 n, i64 lo, i64 hi]) 15 Try.func83 rfl Try.ntmps83 rfl rfl ?_
  have hs1 := St.init w
  refine WC.seq (fun K2 hK2 => ?_)
  refine WC.region ?_
  refine WL.val rfl rfl rfl (Run.assign rfl rfl) ?_
  refine WL.nil ?_
  refine tkN ?_
  refine hK2 _ _ ?_
  clear hK2
  refine WC.seq (fun K3 hK3 => ?_)
  refine WC.region ?_
  refine WL.val rfl rfl rfl (Run.move rfl rfl) ?_
  refine WL.val rfl rfl rfl (Run.move rfl rfl) ?_
  refine WL.val rfl rfl rfl (Run.geq rfl rfl rfl) ?_
  refine WL.val rfl rfl rfl (Run.move rfl rfl) ?_
  apply WL.meetAnd 4 10 14 [(0, _), (1, _), (2, _), (6, _)] rfl hs1
  · intro g4 J5
    have qg4 := g4
    try simp only [decide_eq_true_eq, decide_eq_false_iff_not, Bool.not_eq_true', Bool.not_eq_false'] at qg4
    refine WL.val (wantT rfl g4) rfl rfl (Run.move rfl rfl) ?_
    refine WL.val (wantT rfl g4) rfl rfl (Run.move rfl rfl) ?_
    refine WL.val (wantT rfl g4) rfl rfl (Run.leq rfl rfl rfl) ?_
    refine WL.val rfl rfl rfl (Run.pickT rfl rfl g4 rfl) ?_
    exact WL.fin J5 hs1 rfl (andT g4) ⟨rfl, rfl, rfl, rfl, trivial⟩
  · intro g4 J5
    refine WL.skip (wantNT rfl g4) rfl rfl ?_
    refine WL.skip (wantNT rfl g4) rfl rfl ?_
    refine WL.skip (wantNT rfl g4) rfl rfl ?_
    refine WL.val rfl rfl rfl (Run.pickF rfl rfl g4 rfl) ?_
    exact WL.fin J5 hs1 rfl (andF g4) ⟨rfl, rfl, rfl, rfl, trivial⟩
  · intro whs6 hs6
    refine WL.val rfl rfl rfl (Run.assign rfl rfl) ?_
    refine WL.nil ?_
    refine tkN ?_
    refine hK3 _ _ ?_
    clear hK3
    refine WC.ret ?_
    refine retV1 rfl (resV.tmp rfl) ?_
    refine ⟨congrArg Ending.returned ?_, hs6.nil⟩
    rfl
theorem c_impl_isId (n : Int) (w : World) :
    Calls Try.prog 80 #[i64 n] w fun e w' => e = .returned (.bool (isId n)) ∧ St w [] [] w' := by
  refine enter (vs := [i64 n]) 5 Try.func80 rfl Try.ntmps80 rfl rfl ?_
  have hs1 := St.init w
  refine WC.seq (fun K2 hK2 => ?_)
  refine WC.region ?_
  refine WL.val rfl rfl rfl (Run.assign rfl rfl) ?_
  refine WL.nil ?_
  refine tkN ?_
  refine hK2 _ _ ?_
  clear hK2
  refine WC.seq (fun K3 hK3 => ?_)
  refine WC.region ?_
  refine WL.val rfl rfl rfl (Run.move rfl rfl) ?_
  refine WL.call rfl rfl rfl (Run.call Try.call83 rfl rfl rfl) (c_impl_within _ _ _ _) ?_
  rintro _ whs4 ⟨rfl, hs4⟩
  replace hs4 := hs1.call0 hs4
  refine ⟨_, rfl, ?_⟩
  refine WL.val rfl rfl rfl (Run.assign rfl rfl) ?_
  refine WL.nil ?_
  refine tkN ?_
  refine hK3 _ _ ?_
  clear hK3
  refine WC.ret ?_
  refine retV1 rfl (resV.tmp rfl) ?_
  refine ⟨congrArg Ending.returned ?_, hs4.nil⟩
  rfl
theorem c_impl_Node_isLeaf (n_Pane : Int) (n_Down : Bool) (n_First : Int) (w : World) :
    Calls Try.prog 84 #[.agg #[i64 n_Pane, .bool n_Down, i64 n_First]] w fun e w' => e = .returned (.bool (!decide (n_Pane = 0))) ∧ St w [] [] w' := by
  refine enter (vs := [.agg #[i64 n_Pane, .bool n_Down, i64 n_First]]) 6 Try.func84 rfl Try.ntmps84 rfl rfl ?_
  have hs1 := St.init w
  refine WC.seq (fun K2 hK2 => ?_)
  refine WC.region ?_
  refine WL.box hs1 rfl rfl rfl rfl rfl rfl (fun b3 whs4 hs4 => ?_)
  refine WL.val rfl rfl rfl (Run.assign rfl rfl) ?_
  refine WL.nil ?_
  refine tkN ?_
  refine hK2 _ _ ?_
  clear hK2
  refine WC.seq (fun K5 hK5 => ?_)
  refine WC.region ?_
  refine WL.val rfl rfl rfl (Run.field Try.runUnderlying62 rfl rfl rfl Try.sizeOf3 rfl) ?_
  refine WL.val rfl rfl rfl (Run.loadL hs4 0 Try.isAgg3 rfl rfl rfl rfl) ?_
  refine WL.val rfl rfl rfl (Run.neq rfl rfl rfl) ?_
  refine WL.val rfl rfl rfl (Run.assign rfl rfl) ?_
  refine WL.nil ?_
  refine tkN ?_
  refine hK5 _ _ ?_
  clear hK5
  refine WC.ret ?_
  refine retV1 rfl (resV.tmp rfl) ?_
  refine ⟨congrArg Ending.returned ?_, hs4.nil⟩
  first | rfl | simp
theorem c_laws_szNodeS (A_a : Option Addr) (n_a c_a : Nat) (a : List NodeD) (left : Int) (w : World) (f_a : SlF encNode w A_a n_a a) (h1 : 0 ≤ left) (h2 : left ≤ 1048576) (h3 : n_a ≤ 9223372036854775807) :
    Calls Try.prog 17 #[.slice A_a n_a c_a, i64 left] w fun e w' => e = .returned (.int .i64 (szR left n_a)) ∧ St w [] [] w' := by
  refine enter (vs := [.slice A_a n_a c_a, i64 left]) 12 Try.func17 rfl Try.ntmps17 rfl rfl ?_
  have hs1 := St.init w
  refine WC.seq (fun K2 hK2 => ?_)
  refine WC.region ?_
  refine WL.val rfl rfl rfl (Run.assign rfl rfl) ?_
  refine WL.nil ?_
  refine tkN ?_
  refine hK2 _ _ ?_
  clear hK2
  refine WC.seq (fun K3 hK3 => ?_)
  refine WC.region ?_
  refine WL.val rfl rfl rfl (Run.move rfl rfl) ?_
  refine WL.val rfl rfl rfl (Run.move rfl rfl) ?_
  refine WL.val rfl rfl rfl (Run.lenSl Try.runUnderlying22 rfl rfl) ?_
  refine WL.val rfl rfl rfl (Run.sub rfl rfl rfl ?_) ?_
  · constructor <;> omega
  refine WL.val rfl rfl rfl (Run.assign rfl rfl) ?_
  refine WL.nil ?_
  refine tkN ?_
  refine hK3 _ _ ?_
  clear hK3
  refine WC.seq (fun K4 hK4 => ?_)
  refine WC.seq (fun K5 hK5 => ?_)
  refine WC.region ?_
  refine WL.val rfl rfl rfl (Run.move rfl rfl) ?_
  refine WL.val rfl rfl rfl (Run.lss rfl rfl rfl) ?_
  refine WL.nil ?_
  refine tkN ?_
  refine hK5 _ _ ?_
  clear hK5
  refine WC.cond rfl (fun h6 => ?_) (fun h6 => ?_)
  · have qh6 := h6
    try simp only [decide_eq_true_eq, decide_eq_false_iff_not, Bool.not_eq_true', Bool.not_eq_false', Bool.and_eq_true, Bool.or_eq_false_iff, within_iff, within_not] at qh6
    refine WC.seq (fun K7 hK7 => ?_)
    refine WC.region ?_
    refine WL.val rfl rfl rfl (Run.assign rfl rfl) ?_
    refine WL.nil ?_
    refine tkN ?_
    refine hK7 _ _ ?_
    clear hK7
    refine WC.ret ?_
    refine tkR ?_
    clear hK4
    refine retV1 rfl (resV.tmp rfl) ?_
    refine ⟨congrArg Ending.returned ?_, hs1.nil⟩
    simp only [szR]; rw [if_neg (by omega)]
  · have qh6 := h6
    try simp only [decide_eq_true_eq, decide_eq_false_iff_not, Bool.not_eq_true', Bool.not_eq_false', Bool.and_eq_true, Bool.or_eq_false_iff, within_iff, within_not] at qh6
    refine WC.skip ?_
    refine tkN ?_
    refine hK4 _ _ ?_
    clear hK4
    refine WC.seq (fun K8 hK8 => ?_)
    refine WC.region ?_
    refine WL.val rfl rfl rfl (Run.move rfl rfl) ?_
    refine WL.val rfl rfl rfl (Run.assign rfl rfl) ?_
    refine WL.nil ?_
    refine tkN ?_
    refine hK8 _ _ ?_
    clear hK8
    refine WC.ret ?_
    refine retV1 rfl (resV.tmp rfl) ?_
    refine ⟨congrArg Ending.returned ?_, hs1.nil⟩
    simp only [szR]; rw [if_pos (by omega)]
theorem c_laws_toNode (a_Pane : Int) (a_Down : Bool) (a_First : Int) (w : World) :
    Calls Try.prog 55 #[.agg #[i64 a_Pane, .bool a_Down, i64 a_First]] w fun e w' => e = .returned (.agg #[i64 a_Pane, .bool a_Down, i64 a_First]) ∧ St w [] [] w' := by
  refine enter (vs := [.agg #[i64 a_Pane, .bool a_Down, i64 a_First]]) 14 Try.func55 rfl Try.ntmps55 rfl rfl ?_
  have hs1 := St.init w
  refine WC.seq (fun K2 hK2 => ?_)
  refine WC.region ?_
  refine WL.box hs1 rfl rfl rfl rfl rfl rfl (fun b3 whs4 hs4 => ?_)
  refine WL.alloc hs4 Try.zeroValue62 rfl rfl rfl rfl rfl (fun b5 whs6 hs6 => ?_)
  refine WL.nil ?_
  refine tkN ?_
  refine hK2 _ _ ?_
  clear hK2
  refine WC.seq (fun K7 hK7 => ?_)
  refine WC.region ?_
  refine WL.alloc hs6 Try.zeroValue62 rfl rfl rfl rfl rfl (fun b8 whs9 hs9 => ?_)
  refine WL.nil ?_
  refine tkN ?_
  refine hK7 _ _ ?_
  clear hK7
  refine WC.seq (fun K10 hK10 => ?_)
  refine WC.region ?_
  refine WL.val rfl rfl rfl (Run.field Try.runUnderlying65 rfl rfl rfl Try.sizeOf3 rfl) ?_
  refine WL.val rfl rfl rfl (Run.loadL hs9 2 Try.isAgg3 rfl rfl rfl rfl) ?_
  refine WL.val rfl rfl rfl (Run.field Try.runUnderlying62 rfl rfl rfl Try.sizeOf3 rfl) ?_
  refine WL.store hs9 0 Try.sizeOf3 rfl rfl rfl rfl rfl rfl rfl rfl rfl rfl (fun whs11 hs11 => ?_)
  refine WL.nil ?_
  refine tkN ?_
  refine hK10 _ _ ?_
  clear hK10
  refine WC.seq (fun K12 hK12 => ?_)
  refine WC.region ?_
  refine WL.val rfl rfl rfl (Run.field Try.runUnderlying65 rfl rfl rfl Try.sizeOf4 rfl) ?_
  refine WL.val rfl rfl rfl (Run.loadL hs11 2 Try.isAgg4 rfl rfl rfl rfl) ?_
  refine WL.val rfl rfl rfl (Run.field Try.runUnderlying62 rfl rfl rfl Try.sizeOf4 rfl) ?_
  refine WL.store hs11 0 Try.sizeOf4 rfl rfl rfl rfl rfl rfl rfl rfl rfl rfl (fun whs13 hs13 => ?_)
  refine WL.nil ?_
  refine tkN ?_
  refine hK12 _ _ ?_
  clear hK12
  refine WC.seq (fun K14 hK14 => ?_)
  refine WC.region ?_
  refine WL.val rfl rfl rfl (Run.field Try.runUnderlying65 rfl rfl rfl Try.sizeOf3 rfl) ?_
  refine WL.val rfl rfl rfl (Run.loadL hs13 2 Try.isAgg3 rfl rfl rfl rfl) ?_
  refine WL.val rfl rfl rfl (Run.field Try.runUnderlying62 rfl rfl rfl Try.sizeOf3 rfl) ?_
  refine WL.store hs13 0 Try.sizeOf3 rfl rfl rfl rfl rfl rfl rfl rfl rfl rfl (fun whs15 hs15 => ?_)
  refine WL.nil ?_
  refine tkN ?_
  refine hK14 _ _ ?_
  clear hK14
  refine WC.seq (fun K16 hK16 => ?_)
  refine WC.region ?_
  refine WL.val rfl rfl rfl (Run.loadLA hs15 0 Try.isAgg62 Try.sizeOf62 rfl rfl rfl rfl rfl) ?_
  refine WL.storeA hs15 1 Try.sizeOf62 rfl rfl rfl rfl rfl rfl rfl rfl rfl (Nat.le_of_ble_eq_true rfl) (.inl (Nat.le_of_ble_eq_true rfl)) (fun whs17 hs17 => ?_)
  refine WL.nil ?_
  refine tkN ?_
  refine hK16 _ _ ?_
  clear hK16
  refine WC.ret ?_
  refine retV1 rfl (resV.cell rfl (run_loadVarA Try.isAgg62 Try.sizeOf62 (cells_of_heap (hs17.own _ (nthL_mem (i := 1) rfl)).1 rfl rfl))) ?_
  refine ⟨congrArg Ending.returned ?_, hs17.nil⟩
  rfl
theorem c_laws_eqNode (a_Pane : Int) (a_Down : Bool) (a_First : Int) (b_Pane : Int) (b_Down : Bool) (b_First : Int) (w : World) (hab : (⟨a_Pane, a_Down, a_First⟩ : NodeD) = (⟨b_Pane, b_Down, b_First⟩ : NodeD)) :
    Calls Try.prog 61 #[.agg #[i64 a_Pane, .bool a_Down, i64 a_First], .agg #[i64 b_Pane, .bool b_Down, i64 b_First]] w fun e w' => e = .returned (.bool true) ∧ St w [] [] w' := by
  cases hab
  refine enter (vs := [.agg #[i64 a_Pane, .bool a_Down, i64 a_First], .agg #[i64 a_Pane, .bool a_Down, i64 a_First]]) 20 Try.func61 rfl Try.ntmps61 rfl rfl ?_
  have hs1 := St.init w
  refine WC.seq (fun K2 hK2 => ?_)
  refine WC.region ?_
  refine WL.box hs1 rfl rfl rfl rfl rfl rfl (fun b3 whs4 hs4 => ?_)
  refine WL.box hs4 rfl rfl rfl rfl rfl rfl (fun b5 whs6 hs6 => ?_)
  refine WL.val rfl rfl rfl (Run.assign rfl rfl) ?_
  refine WL.nil ?_
  refine tkN ?_
  refine hK2 _ _ ?_
  clear hK2
  refine WC.seq (fun K7 hK7 => ?_)
  refine WC.seq (fun K8 hK8 => ?_)
  refine WC.region ?_
  refine WL.val rfl rfl rfl (Run.field Try.runUnderlying62 rfl rfl rfl Try.sizeOf3 rfl) ?_
  refine WL.val rfl rfl rfl (Run.loadL hs6 1 Try.isAgg3 rfl rfl rfl rfl) ?_
  refine WL.val rfl rfl rfl (Run.field Try.runUnderlying62 rfl rfl rfl Try.sizeOf3 rfl) ?_
  refine WL.val rfl rfl rfl (Run.loadL hs6 0 Try.isAgg3 rfl rfl rfl rfl) ?_
  refine WL.val rfl rfl rfl (Run.neq rfl rfl rfl) ?_
  refine WL.nil ?_
  refine tkN ?_
  refine hK8 _ _ ?_
  clear hK8
  refine WC.condF rfl (by simp) ?_
  refine WC.skip ?_
  refine tkN ?_
  refine hK7 _ _ ?_
  clear hK7
  refine WC.seq (fun K10 hK10 => ?_)
  refine WC.seq (fun K11 hK11 => ?_)
  refine WC.region ?_
  refine WL.val rfl rfl rfl (Run.field Try.runUnderlying62 rfl rfl rfl Try.sizeOf4 rfl) ?_
  refine WL.val rfl rfl rfl (Run.loadL hs6 1 Try.isAgg4 rfl rfl rfl rfl) ?_
  refine WL.val rfl rfl rfl (Run.field Try.runUnderlying62 rfl rfl rfl Try.sizeOf4 rfl) ?_
  refine WL.val rfl rfl rfl (Run.loadL hs6 0 Try.isAgg4 rfl rfl rfl rfl) ?_
  refine WL.val rfl rfl rfl (Run.neqB Try.runUnderlying4 rfl rfl rfl) ?_
  refine WL.nil ?_
  refine tkN ?_
  refine hK11 _ _ ?_
  clear hK11
  refine WC.condF rfl (by simp) ?_
  refine WC.skip ?_
  refine tkN ?_
  refine hK10 _ _ ?_
  clear hK10
  refine WC.seq (fun K13 hK13 => ?_)
  refine WC.seq (fun K14 hK14 => ?_)
  refine WC.region ?_
  refine WL.val rfl rfl rfl (Run.field Try.runUnderlying62 rfl rfl rfl Try.sizeOf3 rfl) ?_
  refine WL.val rfl rfl rfl (Run.loadL hs6 1 Try.isAgg3 rfl rfl rfl rfl) ?_
  refine WL.val rfl rfl rfl (Run.field Try.runUnderlying62 rfl rfl rfl Try.sizeOf3 rfl) ?_
  refine WL.val rfl rfl rfl (Run.loadL hs6 0 Try.isAgg3 rfl rfl rfl rfl) ?_
  refine WL.val rfl rfl rfl (Run.neq rfl rfl rfl) ?_
  refine WL.nil ?_
  refine tkN ?_
  refine hK14 _ _ ?_
  clear hK14
  refine WC.condF rfl (by simp) ?_
  refine WC.skip ?_
  refine tkN ?_
  refine hK13 _ _ ?_
  clear hK13
  refine WC.seq (fun K16 hK16 => ?_)
  refine WC.region ?_
  refine WL.val rfl rfl rfl (Run.assign rfl rfl) ?_
  refine WL.nil ?_
  refine tkN ?_
  refine hK16 _ _ ?_
  clear hK16
  refine WC.ret ?_
  refine retV1 rfl (resV.tmp rfl) ?_
  refine ⟨congrArg Ending.returned ?_, hs6.nil⟩
  rfl
theorem c_laws_toNodeS (A_a : Option Addr) (n_a c_a : Nat) (a : List NodeD) (w : World) (f_a : SlF encNode w A_a n_a a) (hn : n_a ≤ 1099511627776) :
    Calls Try.prog 19 #[.slice A_a n_a c_a] w fun e w' => ∃ A c L1, e = .returned (.slice A (a).length c) ∧ St w [] L1 w' ∧ OwnF encNode 62 (.slice A (a).length c) (a) L1 := by
  refine enter (vs := [.slice A_a n_a c_a]) 23 Try.func19 rfl Try.ntmps19 rfl rfl ?_
  have hs1 := St.init w
  refine WC.seq (fun K2 hK2 => ?_)
  refine WC.region ?_
  refine WL.val rfl rfl rfl (Run.assign rfl rfl) ?_
  refine WL.nil ?_
  refine tkN ?_
  refine hK2 _ _ ?_
  clear hK2
  refine WC.seq (fun K3 hK3 => ?_)
  refine WC.region ?_
  refine WL.val rfl rfl rfl (Run.move rfl rfl) ?_
  refine WL.val rfl rfl rfl (Run.lenSl Try.runUnderlying22 rfl rfl) ?_
  refine WL.makeF (F := encNode) hs1 Try.underlying25 info_62 rfl rfl rfl rfl rfl rfl rfl rfl rfl ?_ ?_ (fun A7 c8 L4 whs5 hs5 ho6 => ?_)
  · have e_ : Try.t62.bytes = 24 := rfl
    rw [e_]; omega
  · omega
  refine WL.val rfl rfl rfl (Run.assign rfl rfl) ?_
  refine WL.nil ?_
  refine tkN ?_
  refine hK3 _ _ ?_
  clear hK3
  refine WC.seq (fun K9 hK9 => ?_)
  refine WC.seq (fun K10 hK10 => ?_)
  refine WC.region ?_
  refine WL.val rfl rfl rfl (Run.assign rfl rfl) ?_
  refine WL.nil ?_
  refine tkN ?_
  refine hK10 _ _ ?_
  clear hK10
  refine WC.block ?_
  refine WC.loopO [(0, _), (2, _), (5, _), (6, _), (7, _)] ⟨rfl, rfl, rfl, rfl, rfl, trivial⟩ hs5 (fun k_ f L_ => ∃ (i : Nat) (A11 : Option Addr) (c12 : Nat), k_ = n_a - i ∧ (i ≤ n_a) ∧ OwnF encNode 62 (.slice A11 (n_a) c12) (fillG encNode a i) L_ ∧ Sub [(3, .slice A11 (n_a) c12), (4, .int .i64 i)] f) (((fun (i : Nat) => n_a - i) (0))) ?_ ?_
  · refine ⟨0, _, _, rfl, ?_, (fillG_zero f_a.len ▸ ho6), ⟨rfl, rfl, trivial⟩⟩
    · exact Nat.zero_le _
  · clear hs5
    rintro _ f w L13 ⟨i, A11, c12, rfl, p0, ho14, hG⟩ hF hs15
    refine WC.sub _ (hG.app hF) ?_
    clear hG hF
    refine WC.seq (fun K16 hK16 => ?_)
    refine WC.seq (fun K17 hK17 => ?_)
    refine WC.region ?_
    refine WL.val rfl rfl rfl (Run.move rfl rfl) ?_
    refine WL.val rfl rfl rfl (Run.move rfl rfl) ?_
    refine WL.val rfl rfl rfl (Run.lenSl Try.runUnderlying22 rfl rfl) ?_
    refine WL.val rfl rfl rfl (Run.lss rfl rfl rfl) ?_
    refine WL.nil ?_
    refine tkN ?_
    refine hK17 _ _ ?_
    clear hK17
    refine WC.cond rfl (fun h18 => ?_) (fun h18 => ?_)
    · have qh18 := h18
      try simp only [decide_eq_true_eq, decide_eq_false_iff_not, Bool.not_eq_true', Bool.not_eq_false', Bool.and_eq_true, Bool.or_eq_false_iff, within_iff, within_not] at qh18
      refine WC.skip ?_
      refine tkN ?_
      refine hK16 _ _ ?_
      clear hK16
      refine WC.seq (fun K19 hK19 => ?_)
      refine WC.block ?_
      refine WC.region ?_
      refine WL.val rfl rfl rfl (Run.move rfl rfl) ?_
      refine WL.val rfl rfl rfl (Run.move rfl rfl) ?_
      refine WL.val rfl rfl rfl (Run.move rfl rfl) ?_
      refine WL.val rfl rfl rfl (Run.move rfl rfl) ?_
      refine WL.val rfl rfl rfl (Run.idxN Try.runUnderlying22 Try.sizeOf65 rfl rfl rfl ?_ ?_ ?_) ?_
      · exact SlF.some_ (SlF.st0 f_a hs15)
      · omega
      · omega
      refine WL.val rfl rfl rfl (Run.loadA Try.isAgg65 Try.sizeOf65 rfl rfl (SlF.whole (SlF.st0 f_a hs15) ?_)) ?_
      · omega
      refine WL.call rfl rfl rfl (Run.call Try.call55 rfl rfl rfl) (c_laws_toNode _ _ _ _) ?_
      rintro _ whs20 ⟨rfl, hs20⟩
      replace hs20 := hs15.call0 hs20
      refine ⟨_, rfl, ?_⟩
      refine WL.val rfl rfl rfl (Run.idxN Try.runUnderlying25 Try.sizeOf62 rfl rfl rfl ?_ ?_ ?_) ?_
      · exact SlF.some_ (SlF.ofOwn ho14 (fun p_ hp_ => (hs20.own p_ (List.mem_append_left _ hp_)).1))
      · omega
      · omega
      refine WL.storeF1 (x' := _) hs20 ho14 Try.sizeOf62 rfl rfl rfl rfl rfl rfl rfl rfl rfl ?_ rfl (fun L21 whs22 hs22 ho23 _ => ?_)
      · omega
      refine WL.nil ?_
      refine ibN ?_
      refine tkN ?_
      refine hK19 _ _ ?_
      clear hK19
      refine WC.region ?_
      refine WL.val rfl rfl rfl (Run.move rfl rfl) ?_
      refine WL.val rfl rfl rfl (Run.add rfl rfl rfl ?_) ?_
      · constructor <;> omega
      refine WL.val rfl rfl rfl (Run.assign rfl rfl) ?_
      refine WL.nil ?_
      refine tkN ?_
      rw [fillG_set (i := i) (by rw [f_a.len]; omega) (by simp) (by simp)] at ho23
      refine ⟨⟨rfl, rfl, rfl, rfl, rfl, trivial⟩, _, hs22, _, ?_, i + 1, _, _, rfl, ?_, ho23, ⟨rfl, rfl, trivial⟩⟩
      · omega
      · omega
    · have qh18 := h18
      try simp only [decide_eq_true_eq, decide_eq_false_iff_not, Bool.not_eq_true', Bool.not_eq_false', Bool.and_eq_true, Bool.or_eq_false_iff, within_iff, within_not] at qh18
      refine WC.exit ?_
      refine tkE ?_
      refine tkE ?_
      refine ibE ?_
      refine tkN ?_
      refine hK9 _ _ ?_
      clear hK9
      refine WC.seq (fun K24 hK24 => ?_)
      refine WC.region ?_
      refine WL.val rfl rfl rfl (Run.move rfl rfl) ?_
      refine WL.val rfl rfl rfl (Run.assign rfl rfl) ?_
      refine WL.nil ?_
      refine tkN ?_
      refine hK24 _ _ ?_
      clear hK24
      refine WC.ret ?_
      refine retV1 rfl (resV.tmp rfl) ?_
      have hx_ := OwnF.eqOf (xs := a) ho14 (fillG_full (by rw [f_a.len]; omega))
      have hy_ := ho14
      rw [hx_] at hy_
      obtain ⟨A_, c_, hz_⟩ := hy_.shape
      exact ⟨A_, c_, _, congrArg Ending.returned hz_, (St.keep1 hs15), hz_ ▸ hy_⟩
theorem c_laws_eqNodeS (A_a : Option Addr) (n_a c_a : Nat) (a : List NodeD) (A_b : Option Addr) (n_b c_b : Nat) (b : List NodeD) (w : World) (f_a : SlF encNode w A_a n_a a) (f_b : SlF encNode w A_b n_b b) (hn : n_a ≤ 1099511627776) (hab : a = b) :
    Calls Try.prog 21 #[.slice A_a n_a c_a, .slice A_b n_b c_b] w fun e w' => e = .returned (.bool true) ∧ St w [] [] w' := by
  subst hab
  obtain rfl : n_a = n_b := f_a.len.symm.trans f_b.len
  refine enter (vs := [.slice A_a n_a c_a, .slice A_b n_a c_b]) 27 Try.func21 rfl Try.ntmps21 rfl rfl ?_
  have hs1 := St.init w
  refine WC.seq (fun K2 hK2 => ?_)
  refine WC.region ?_
  refine WL.val rfl rfl rfl (Run.assign rfl rfl) ?_
  refine WL.nil ?_
  refine tkN ?_
  refine hK2 _ _ ?_
  clear hK2
  refine WC.seq (fun K3 hK3 => ?_)
  refine WC.seq (fun K4 hK4 => ?_)
  refine WC.region ?_
  refine WL.val rfl rfl rfl (Run.move rfl rfl) ?_
  refine WL.val rfl rfl rfl (Run.lenSl Try.runUnderlying25 rfl rfl) ?_
  refine WL.val rfl rfl rfl (Run.move rfl rfl) ?_
  refine WL.val rfl rfl rfl (Run.lenSl Try.runUnderlying25 rfl rfl) ?_
  refine WL.val rfl rfl rfl (Run.neq rfl rfl rfl) ?_
  refine WL.nil ?_
  refine tkN ?_
  refine hK4 _ _ ?_
  clear hK4
  refine WC.condF rfl (by simp) ?_
  refine WC.skip ?_
  refine tkN ?_
  refine hK3 _ _ ?_
  clear hK3
  refine WC.seq (fun K6 hK6 => ?_)
  refine WC.seq (fun K7 hK7 => ?_)
  refine WC.region ?_
  refine WL.val rfl rfl rfl (Run.assign rfl rfl) ?_
  refine WL.nil ?_
  refine tkN ?_
  refine hK7 _ _ ?_
  clear hK7
  refine WC.block ?_
  refine WC.loopS [(0, _), (1, _), (6, _), (7, _), (8, _), (9, _), (10, _)] ⟨rfl, rfl, rfl, rfl, rfl, rfl, rfl, trivial⟩ hs1 (fun k_ f w' => ∃ (i : Nat), k_ = n_a - i ∧ (i ≤ n_a) ∧ Sub [(5, .int .i64 i)] f) ((fun (i : Nat) => n_a - i) (0)) ?_ ?_
  · refine ⟨0, rfl, ?_, ⟨rfl, trivial⟩⟩
    · exact Nat.zero_le _
  · clear hs1
    rintro _ f w ⟨i, rfl, p0, hG⟩ hF hs8
    refine WC.sub _ (hG.app hF) ?_
    clear hG hF
    refine WC.seq (fun K9 hK9 => ?_)
    refine WC.seq (fun K10 hK10 => ?_)
    refine WC.region ?_
    refine WL.val rfl rfl rfl (Run.move rfl rfl) ?_
    refine WL.val rfl rfl rfl (Run.move rfl rfl) ?_
    refine WL.val rfl rfl rfl (Run.lenSl Try.runUnderlying25 rfl rfl) ?_
    refine WL.val rfl rfl rfl (Run.lss rfl rfl rfl) ?_
    refine WL.nil ?_
    refine tkN ?_
    refine hK10 _ _ ?_
    clear hK10
    refine WC.cond rfl (fun h11 => ?_) (fun h11 => ?_)
    · have qh11 := h11
      try simp only [decide_eq_true_eq, decide_eq_false_iff_not, Bool.not_eq_true', Bool.not_eq_false', Bool.and_eq_true, Bool.or_eq_false_iff, within_iff, within_not] at qh11
      refine WC.skip ?_
      refine tkN ?_
      refine hK9 _ _ ?_
      clear hK9
      refine WC.seq (fun K12 hK12 => ?_)
      refine WC.block ?_
      refine WC.seq (fun K13 hK13 => ?_)
      refine WC.regionQ (fun w' => St _ _ _ w') mixed (by kernel_rfl) hs8.drew ?_
      refine WQ.val rfl rfl rfl (fun w_ hs_ => (Run.move rfl rfl)) ?_
      refine WQ.val rfl rfl rfl (fun w_ hs_ => (Run.move rfl rfl)) ?_
      refine WQ.val rfl rfl rfl (fun w_ hs_ => (Run.idxN Try.runUnderlying25 Try.sizeOf62 rfl rfl rfl ?_ ?_ ?_)) ?_
      · exact SlF.some_ (SlF.st0 f_a (hs_ : St _ _ _ _))
      · omega
      · omega
      refine WQ.val rfl rfl rfl (fun w_ hs_ => (Run.loadA Try.isAgg62 Try.sizeOf62 rfl rfl (SlF.whole (SlF.st0 f_a (hs_ : St _ _ _ _)) ?_))) ?_
      · omega
      refine WQ.val rfl rfl rfl (fun w_ hs_ => (Run.move rfl rfl)) ?_
      refine WQ.val rfl rfl rfl (fun w_ hs_ => (Run.move rfl rfl)) ?_
      refine WQ.val rfl rfl rfl (fun w_ hs_ => (Run.idxN Try.runUnderlying25 Try.sizeOf62 rfl rfl rfl ?_ ?_ ?_)) ?_
      · exact SlF.some_ (SlF.st0 f_b (hs_ : St _ _ _ _))
      · omega
      · omega
      refine WQ.val rfl rfl rfl (fun w_ hs_ => (Run.loadA Try.isAgg62 Try.sizeOf62 rfl rfl (SlF.whole (SlF.st0 f_b (hs_ : St _ _ _ _)) ?_))) ?_
      · omega
      refine WQ.call rfl rfl rfl (fun w_ hs_ => (Run.call Try.call61 rfl rfl rfl)) (fun w_ hs_ => (c_laws_eqNode _ _ _ _ _ _ _ ?_).mono fun e_ w_ h_ => ⟨h_.1, (hs_ : St _ _ _ _).call0 h_.2⟩) ?_
      · first | assumption | rfl | omega
      refine WQ.val rfl rfl rfl (fun w_ hs_ => (Run.not rfl rfl)) ?_
      refine WQ.nil (fun whs14 hs14 => ?_)
      replace hs14 : St _ _ _ _ := hs14
      refine tkN ?_
      refine hK13 _ _ ?_
      clear hK13
      refine WC.condF rfl (by simp) ?_
      refine WC.skip ?_
      refine ibN ?_
      refine tkN ?_
      refine hK12 _ _ ?_
      clear hK12
      refine WC.region ?_
      refine WL.val rfl rfl rfl (Run.move rfl rfl) ?_
      refine WL.val rfl rfl rfl (Run.add rfl rfl rfl ?_) ?_
      · constructor <;> omega
      refine WL.val rfl rfl rfl (Run.assign rfl rfl) ?_
      refine WL.nil ?_
      refine tkN ?_
      refine ⟨⟨rfl, rfl, rfl, rfl, rfl, rfl, rfl, trivial⟩, hs14, _, ?_, i + 1, rfl, ?_, ⟨rfl, trivial⟩⟩
      · omega
      · omega
    · have qh11 := h11
      try simp only [decide_eq_true_eq, decide_eq_false_iff_not, Bool.not_eq_true', Bool.not_eq_false', Bool.and_eq_true, Bool.or_eq_false_iff, within_iff, within_not] at qh11
      refine WC.exit ?_
      refine tkE ?_
      refine tkE ?_
      refine ibE ?_
      refine tkN ?_
      refine hK6 _ _ ?_
      clear hK6
      refine WC.seq (fun K16 hK16 => ?_)
      refine WC.region ?_
      refine WL.val rfl rfl rfl (Run.assign rfl rfl) ?_
      refine WL.nil ?_
      refine tkN ?_
      refine hK16 _ _ ?_
      clear hK16
      refine WC.ret ?_
      refine retV1 rfl (resV.tmp rfl) ?_
      refine ⟨congrArg Ending.returned ?_, hs8.nil⟩
      rfl
theorem c_laws_eqIntS (A_a : Option Addr) (n_a c_a : Nat) (a : List Int) (A_b : Option Addr) (n_b c_b : Nat) (b : List Int) (w : World) (f_a : SlF encI w A_a n_a a) (f_b : SlF encI w A_b n_b b) (hn : n_a ≤ 1099511627776) (hab : a = b) :
    Calls Try.prog 26 #[.slice A_a n_a c_a, .slice A_b n_b c_b] w fun e w' => e = .returned (.bool true) ∧ St w [] [] w' := by
  subst hab
  obtain rfl : n_a = n_b := f_a.len.symm.trans f_b.len
  refine enter (vs := [.slice A_a n_a c_a, .slice A_b n_a c_b]) 26 Try.func26 rfl Try.ntmps26 rfl rfl ?_
  have hs1 := St.init w
  refine WC.seq (fun K2 hK2 => ?_)
  refine WC.region ?_
  refine WL.val rfl rfl rfl (Run.assign rfl rfl) ?_
  refine WL.nil ?_
  refine tkN ?_
  refine hK2 _ _ ?_
  clear hK2
  refine WC.seq (fun K3 hK3 => ?_)
  refine WC.seq (fun K4 hK4 => ?_)
  refine WC.region ?_
  refine WL.val rfl rfl rfl (Run.move rfl rfl) ?_
  refine WL.val rfl rfl rfl (Run.lenSl Try.runUnderlying31 rfl rfl) ?_
  refine WL.val rfl rfl rfl (Run.move rfl rfl) ?_
  refine WL.val rfl rfl rfl (Run.lenSl Try.runUnderlying31 rfl rfl) ?_
  refine WL.val rfl rfl rfl (Run.neq rfl rfl rfl) ?_
  refine WL.nil ?_
  refine tkN ?_
  refine hK4 _ _ ?_
  clear hK4
  refine WC.condF rfl (by simp) ?_
  refine WC.skip ?_
  refine tkN ?_
  refine hK3 _ _ ?_
  clear hK3
  refine WC.seq (fun K6 hK6 => ?_)
  refine WC.seq (fun K7 hK7 => ?_)
  refine WC.region ?_
  refine WL.val rfl rfl rfl (Run.assign rfl rfl) ?_
  refine WL.nil ?_
  refine tkN ?_
  refine hK7 _ _ ?_
  clear hK7
  refine WC.block ?_
  refine WC.loopS [(0, _), (1, _), (6, _), (7, _), (8, _), (9, _), (10, _)] ⟨rfl, rfl, rfl, rfl, rfl, rfl, rfl, trivial⟩ hs1 (fun k_ f w' => ∃ (i : Nat), k_ = n_a - i ∧ (i ≤ n_a) ∧ Sub [(5, .int .i64 i)] f) ((fun (i : Nat) => n_a - i) (0)) ?_ ?_
  · refine ⟨0, rfl, ?_, ⟨rfl, trivial⟩⟩
    · exact Nat.zero_le _
  · clear hs1
    rintro _ f w ⟨i, rfl, p0, hG⟩ hF hs8
    refine WC.sub _ (hG.app hF) ?_
    clear hG hF
    refine WC.seq (fun K9 hK9 => ?_)
    refine WC.seq (fun K10 hK10 => ?_)
    refine WC.region ?_
    refine WL.val rfl rfl rfl (Run.move rfl rfl) ?_
    refine WL.val rfl rfl rfl (Run.move rfl rfl) ?_
    refine WL.val rfl rfl rfl (Run.lenSl Try.runUnderlying31 rfl rfl) ?_
    refine WL.val rfl rfl rfl (Run.lss rfl rfl rfl) ?_
    refine WL.nil ?_
    refine tkN ?_
    refine hK10 _ _ ?_
    clear hK10
    refine WC.cond rfl (fun h11 => ?_) (fun h11 => ?_)
    · have qh11 := h11
      try simp only [decide_eq_true_eq, decide_eq_false_iff_not, Bool.not_eq_true', Bool.not_eq_false', Bool.and_eq_true, Bool.or_eq_false_iff, within_iff, within_not] at qh11
      refine WC.skip ?_
      refine tkN ?_
      refine hK9 _ _ ?_
      clear hK9
      refine WC.seq (fun K12 hK12 => ?_)
      refine WC.block ?_
      refine WC.seq (fun K13 hK13 => ?_)
      refine WC.regionQ (fun w' => St _ _ _ w') mixed (by kernel_rfl) hs8.drew ?_
      refine WQ.val rfl rfl rfl (fun w_ hs_ => (Run.move rfl rfl)) ?_
      refine WQ.val rfl rfl rfl (fun w_ hs_ => (Run.move rfl rfl)) ?_
      refine WQ.val rfl rfl rfl (fun w_ hs_ => (Run.idxN Try.runUnderlying31 Try.sizeOf3 rfl rfl rfl ?_ ?_ ?_)) ?_
      · exact SlF.some_ (SlF.st0 f_a (hs_ : St _ _ _ _))
      · omega
      · omega
      refine WQ.val rfl rfl rfl (fun w_ hs_ => (Run.load Try.isAgg3 rfl rfl (SlF.one1 (SlF.st0 f_a (hs_ : St _ _ _ _)) ?_ rfl))) ?_
      · omega
      refine WQ.val rfl rfl rfl (fun w_ hs_ => (Run.move rfl rfl)) ?_
      refine WQ.val rfl rfl rfl (fun w_ hs_ => (Run.move rfl rfl)) ?_
      refine WQ.val rfl rfl rfl (fun w_ hs_ => (Run.idxN Try.runUnderlying31 Try.sizeOf3 rfl rfl rfl ?_ ?_ ?_)) ?_
      · exact SlF.some_ (SlF.st0 f_b (hs_ : St _ _ _ _))
      · omega
      · omega
      refine WQ.val rfl rfl rfl (fun w_ hs_ => (Run.load Try.isAgg3 rfl rfl (SlF.one1 (SlF.st0 f_b (hs_ : St _ _ _ _)) ?_ rfl))) ?_
      · omega
      refine WQ.val rfl rfl rfl (fun w_ hs_ => (Run.neq rfl rfl rfl)) ?_
      refine WQ.nil (fun whs14 hs14 => ?_)
      replace hs14 : St _ _ _ _ := hs14
      refine tkN ?_
      refine hK13 _ _ ?_
      clear hK13
      refine WC.condF rfl (by simp) ?_
      refine WC.skip ?_
      refine ibN ?_
      refine tkN ?_
      refine hK12 _ _ ?_
      clear hK12
      refine WC.region ?_
      refine WL.val rfl rfl rfl (Run.move rfl rfl) ?_
      refine WL.val rfl rfl rfl (Run.add rfl rfl rfl ?_) ?_
      · constructor <;> omega
      refine WL.val rfl rfl rfl (Run.assign rfl rfl) ?_
      refine WL.nil ?_
      refine tkN ?_
      refine ⟨⟨rfl, rfl, rfl, rfl, rfl, rfl, rfl, trivial⟩, hs14, _, ?_, i + 1, rfl, ?_, ⟨rfl, trivial⟩⟩
      · omega
      · omega
    · have qh11 := h11
      try simp only [decide_eq_true_eq, decide_eq_false_iff_not, Bool.not_eq_true', Bool.not_eq_false', Bool.and_eq_true, Bool.or_eq_false_iff, within_iff, within_not] at qh11
      refine WC.exit ?_
      refine tkE ?_
      refine tkE ?_
      refine ibE ?_
      refine tkN ?_
      refine hK6 _ _ ?_
      clear hK6
      refine WC.seq (fun K16 hK16 => ?_)
      refine WC.region ?_
      refine WL.val rfl rfl rfl (Run.assign rfl rfl) ?_
      refine WL.nil ?_
      refine tkN ?_
      refine hK16 _ _ ?_
      clear hK16
      refine WC.ret ?_
      refine retV1 rfl (resV.tmp rfl) ?_
      refine ⟨congrArg Ending.returned ?_, hs8.nil⟩
      rfl
theorem c_laws_markNodeS (v_a : Value) (a : List NodeD) (L_a : Hp) (k : Int) (w : World) (o_a : OwnF encNode 62 v_a a L_a) (h_a : ∀ p, p ∈ L_a → w.heap[p.1]? = some p.2) (h1 : 0 ≤ k) (h2 : k ≤ 1099511627776) (h3 : a.length ≤ 1099511627776) :
    Calls Try.prog 27 #[v_a, i64 k] w fun e w' => ∃ L1, e = .returned (.int .i64 (k + 3 * a.length)) ∧ St w (L_a.map (·.1)) L1 w' ∧ OwnF encNode 62 v_a (marks mkNode 3 k a.length) L1 := by
  obtain ⟨A_a, c_a, rfl⟩ := o_a.shape
  refine enter (vs := [.slice A_a a.length c_a, i64 k]) 36 Try.func27 rfl Try.ntmps27 rfl rfl ?_
  have hs1 := St.lent1 w L_a o_a h_a
  refine WC.seq (fun K2 hK2 => ?_)
  refine WC.region ?_
  refine WL.val rfl rfl rfl (Run.assign rfl rfl) ?_
  refine WL.nil ?_
  refine tkN ?_
  refine hK2 _ _ ?_
  clear hK2
  refine WC.seq (fun K3 hK3 => ?_)
  refine WC.seq (fun K4 hK4 => ?_)
  refine WC.region ?_
  refine WL.val rfl rfl rfl (Run.assign rfl rfl) ?_
  refine WL.nil ?_
  refine tkN ?_
  refine hK4 _ _ ?_
  clear hK4
  refine WC.block ?_
  refine WC.loopO [(4, _)] ⟨rfl, trivial⟩ hs1 (fun k_ f L_ => ∃ (i : Nat) (q : Int), k_ = a.length - i ∧ (i ≤ a.length) ∧ (q = k + 3 * i) ∧ OwnF encNode 62 (.slice A_a (a.length) c_a) (fillM mkNode 3 k a i) L_ ∧ Sub [(0, .slice A_a (a.length) c_a), (5, .int .i64 i), (1, .int .i64 q)] f) (((fun (i : Nat) (q : Int) => a.length - i) (0) (k))) ?_ ?_
  · refine ⟨0, k, rfl, ?_, ?_, (fillM_zero.symm ▸ o_a), ⟨rfl, rfl, rfl, trivial⟩⟩
    · exact Nat.zero_le _
    · simp
  · clear hs1
    rintro _ f w L7 ⟨i, q, rfl, p0, p1, ho8, hG⟩ hF hs9
    refine WC.sub _ (hG.app hF) ?_
    clear hG hF
    have hfl : (fillM mkNode 3 k a i).length = a.length := fillM_len p0
    have hq : k + ((3 : Nat) : Int) * (i : Int) = q := by omega
    refine WC.seq (fun K10 hK10 => ?_)
    refine WC.seq (fun K11 hK11 => ?_)
    refine WC.region ?_
    refine WL.val rfl rfl rfl (Run.move rfl rfl) ?_
    refine WL.val rfl rfl rfl (Run.move rfl rfl) ?_
    refine WL.val rfl rfl rfl (Run.lenSl Try.runUnderlying25 rfl rfl) ?_
    refine WL.val rfl rfl rfl (Run.lss rfl rfl rfl) ?_
    refine WL.nil ?_
    refine tkN ?_
    refine hK11 _ _ ?_
    clear hK11
    refine WC.cond rfl (fun h12 => ?_) (fun h12 => ?_)
    · have qh12 := h12
      try simp only [decide_eq_true_eq, decide_eq_false_iff_not, Bool.not_eq_true', Bool.not_eq_false', Bool.and_eq_true, Bool.or_eq_false_iff, within_iff, within_not] at qh12
      refine WC.skip ?_
      refine tkN ?_
      refine hK10 _ _ ?_
      clear hK10
      refine WC.seq (fun K13 hK13 => ?_)
      refine WC.block ?_
      refine WC.seq (fun K14 hK14 => ?_)
      refine WC.region ?_
      refine WL.val rfl rfl rfl (Run.move rfl rfl) ?_
      refine WL.val rfl rfl rfl (Run.move rfl rfl) ?_
      refine WL.val rfl rfl rfl (Run.move rfl rfl) ?_
      refine WL.val rfl rfl rfl (Run.idxN Try.runUnderlying25 Try.sizeOf62 rfl rfl rfl ?_ ?_ ?_) ?_
      · exact SlF.some_ (SlF.ofOwn ho8 (fun p_ hp_ => (hs9.own p_ (List.mem_append_left _ hp_)).1))
      · omega
      · omega
      refine WL.val rfl rfl rfl (Run.fieldO Try.runUnderlying62 rfl rfl rfl Try.sizeOf3 rfl) ?_
      refine WL.storeF (x' := ⟨q, (gat encNode (fillM mkNode 3 k a i) i).Down, (gat encNode (fillM mkNode 3 k a i) i).First⟩) hs9 ho8 Try.sizeOf3 rfl rfl rfl rfl rfl rfl rfl rfl rfl ?_ (by first | rfl | (rw [gat_set (by (try simp only [List.length_set]); omega) rfl]; rfl)) (fun L15 whs16 hs16 ho17 _ => ?_)
      · omega
      refine WL.nil ?_
      refine tkN ?_
      refine hK14 _ _ ?_
      clear hK14
      refine WC.seq (fun K18 hK18 => ?_)
      refine WC.region ?_
      refine WL.val rfl rfl rfl (Run.move rfl rfl) ?_
      refine WL.val rfl rfl rfl (Run.add rfl rfl rfl ?_) ?_
      · constructor <;> omega
      refine WL.val rfl rfl rfl (Run.assign rfl rfl) ?_
      refine WL.nil ?_
      refine tkN ?_
      refine hK18 _ _ ?_
      clear hK18
      refine WC.seq (fun K19 hK19 => ?_)
      refine WC.region ?_
      refine WL.val rfl rfl rfl (Run.move rfl rfl) ?_
      refine WL.val rfl rfl rfl (Run.move rfl rfl) ?_
      refine WL.val rfl rfl rfl (Run.move rfl rfl) ?_
      refine WL.val rfl rfl rfl (Run.rem rfl rfl rfl ?_ ?_) ?_
      · omega
      · omega
      refine WL.val rfl rfl rfl (Run.eql rfl rfl rfl) ?_
      refine WL.val rfl rfl rfl (Run.idxN Try.runUnderlying25 Try.sizeOf62 rfl rfl rfl ?_ ?_ ?_) ?_
      · exact SlF.some_ (SlF.ofOwn ho17 (fun p_ hp_ => (hs16.own p_ (List.mem_append_left _ hp_)).1))
      · omega
      · omega
      refine WL.val rfl rfl rfl (Run.fieldO Try.runUnderlying62 rfl rfl rfl Try.sizeOf4 rfl) ?_
      refine WL.storeF (x' := ⟨q, decide ((q + 1) % 3 = 0), (gat encNode (fillM mkNode 3 k a i) i).First⟩) hs16 ho17 Try.sizeOf4 rfl rfl rfl rfl rfl rfl rfl rfl rfl ?_ (by first | rfl | (rw [gat_set (by (try simp only [List.length_set]); omega) rfl]; rfl)) (fun L20 whs21 hs21 ho22 _ => ?_)
      · omega
      refine WL.nil ?_
      refine tkN ?_
      refine hK19 _ _ ?_
      clear hK19
      refine WC.seq (fun K23 hK23 => ?_)
      refine WC.region ?_
      refine WL.val rfl rfl rfl (Run.move rfl rfl) ?_
      refine WL.val rfl rfl rfl (Run.add rfl rfl rfl ?_) ?_
      · constructor <;> omega
      refine WL.val rfl rfl rfl (Run.assign rfl rfl) ?_
      refine WL.nil ?_
      refine tkN ?_
      refine hK23 _ _ ?_
      clear hK23
      refine WC.seq (fun K24 hK24 => ?_)
      refine WC.region ?_
      refine WL.val rfl rfl rfl (Run.move rfl rfl) ?_
      refine WL.val rfl rfl rfl (Run.move rfl rfl) ?_
      refine WL.val rfl rfl rfl (Run.move rfl rfl) ?_
      refine WL.val rfl rfl rfl (Run.idxN Try.runUnderlying25 Try.sizeOf62 rfl rfl rfl ?_ ?_ ?_) ?_
      · exact SlF.some_ (SlF.ofOwn ho22 (fun p_ hp_ => (hs21.own p_ (List.mem_append_left _ hp_)).1))
      · omega
      · omega
      refine WL.val rfl rfl rfl (Run.fieldO Try.runUnderlying62 rfl rfl rfl Try.sizeOf3 rfl) ?_
      refine WL.storeF (x' := ⟨q, decide ((q + 1) % 3 = 0), (q + 1 + 1)⟩) hs21 ho22 Try.sizeOf3 rfl rfl rfl rfl rfl rfl rfl rfl rfl ?_ (by first | rfl | (rw [gat_set (by (try simp only [List.length_set]); omega) rfl]; rfl)) (fun L25 whs26 hs26 ho27 _ => ?_)
      · omega
      refine WL.nil ?_
      refine tkN ?_
      refine hK24 _ _ ?_
      clear hK24
      refine WC.region ?_
      refine WL.val rfl rfl rfl (Run.move rfl rfl) ?_
      refine WL.val rfl rfl rfl (Run.add rfl rfl rfl ?_) ?_
      · constructor <;> omega
      refine WL.val rfl rfl rfl (Run.assign rfl rfl) ?_
      refine WL.nil ?_
      refine ibN ?_
      refine tkN ?_
      refine hK13 _ _ ?_
      clear hK13
      refine WC.region ?_
      refine WL.val rfl rfl rfl (Run.move rfl rfl) ?_
      refine WL.val rfl rfl rfl (Run.add rfl rfl rfl ?_) ?_
      · constructor <;> omega
      refine WL.val rfl rfl rfl (Run.assign rfl rfl) ?_
      refine WL.nil ?_
      refine tkN ?_
      try simp only [List.set_set] at ho27
      rw [fillM_set (i := i) (by omega) (by rw [hq]; rfl) (by simp)] at ho27
      refine ⟨⟨rfl, trivial⟩, _, hs26, _, ?_, i + 1, _, rfl, ?_, ?_, ho27, ⟨rfl, rfl, rfl, trivial⟩⟩
      · omega
      · omega
      · omega
    · have qh12 := h12
      try simp only [decide_eq_true_eq, decide_eq_false_iff_not, Bool.not_eq_true', Bool.not_eq_false', Bool.and_eq_true, Bool.or_eq_false_iff, within_iff, within_not] at qh12
      refine WC.exit ?_
      refine tkE ?_
      refine tkE ?_
      refine ibE ?_
      refine tkN ?_
      refine hK3 _ _ ?_
      clear hK3
      refine WC.seq (fun K28 hK28 => ?_)
      refine WC.region ?_
      refine WL.val rfl rfl rfl (Run.move rfl rfl) ?_
      refine WL.val rfl rfl rfl (Run.assign rfl rfl) ?_
      refine WL.nil ?_
      refine tkN ?_
      refine hK28 _ _ ?_
      clear hK28
      refine WC.ret ?_
      refine retV1 rfl (resV.tmp rfl) ?_
      have hx_ := OwnF.eqOf (xs := marks mkNode 3 k a.length) ho8 (fillM_full (by omega))
      have hi_ : i = a.length := by omega
      refine ⟨_, ?_, (St.keep1 hs9), hx_ ▸ ho8⟩
      rw [p1, hi_]
theorem c_laws_markIntS (v_a : Value) (a : List Int) (L_a : Hp) (k : Int) (w : World) (o_a : OwnF encI 3 v_a a L_a) (h_a : ∀ p, p ∈ L_a → w.heap[p.1]? = some p.2) (h1 : 0 ≤ k) (h2 : k ≤ 1099511627776) (h3 : a.length ≤ 1099511627776) :
    Calls Try.prog 28 #[v_a, i64 k] w fun e w' => ∃ L1, e = .returned (.int .i64 (k + 1 * a.length)) ∧ St w (L_a.map (·.1)) L1 w' ∧ OwnF encI 3 v_a (marks (fun k => k) 1 k a.length) L1 := by
  obtain ⟨A_a, c_a, rfl⟩ := o_a.shape
  refine enter (vs := [.slice A_a a.length c_a, i64 k]) 19 Try.func28 rfl Try.ntmps28 rfl rfl ?_
  have hs1 := St.lent1 w L_a o_a h_a
  refine WC.seq (fun K2 hK2 => ?_)
  refine WC.region ?_
  refine WL.val rfl rfl rfl (Run.assign rfl rfl) ?_
  refine WL.nil ?_
  refine tkN ?_
  refine hK2 _ _ ?_
  clear hK2
  refine WC.seq (fun K3 hK3 => ?_)
  refine WC.seq (fun K4 hK4 => ?_)
  refine WC.region ?_
  refine WL.val rfl rfl rfl (Run.assign rfl rfl) ?_
  refine WL.nil ?_
  refine tkN ?_
  refine hK4 _ _ ?_
  clear hK4
  refine WC.block ?_
  refine WC.loopO [(4, _)] ⟨rfl, trivial⟩ hs1 (fun k_ f L_ => ∃ (i : Nat) (q : Int), k_ = a.length - i ∧ (i ≤ a.length) ∧ (q = k + 1 * i) ∧ OwnF encI 3 (.slice A_a (a.length) c_a) (fillM (fun k => k) 1 k a i) L_ ∧ Sub [(0, .slice A_a (a.length) c_a), (5, .int .i64 i), (1, .int .i64 q)] f) (((fun (i : Nat) (q : Int) => a.length - i) (0) (k))) ?_ ?_
  · refine ⟨0, k, rfl, ?_, ?_, (fillM_zero.symm ▸ o_a), ⟨rfl, rfl, rfl, trivial⟩⟩
    · exact Nat.zero_le _
    · simp
  · clear hs1
    rintro _ f w L7 ⟨i, q, rfl, p0, p1, ho8, hG⟩ hF hs9
    refine WC.sub _ (hG.app hF) ?_
    clear hG hF
    have hfl : (fillM (fun k => k) 1 k a i).length = a.length := fillM_len p0
    have hq : k + ((1 : Nat) : Int) * (i : Int) = q := by omega
    refine WC.seq (fun K10 hK10 => ?_)
    refine WC.seq (fun K11 hK11 => ?_)
    refine WC.region ?_
    refine WL.val rfl rfl rfl (Run.move rfl rfl) ?_
    refine WL.val rfl rfl rfl (Run.move rfl rfl) ?_
    refine WL.val rfl rfl rfl (Run.lenSl Try.runUnderlying31 rfl rfl) ?_
    refine WL.val rfl rfl rfl (Run.lss rfl rfl rfl) ?_
    refine WL.nil ?_
    refine tkN ?_
    refine hK11 _ _ ?_
    clear hK11
    refine WC.cond rfl (fun h12 => ?_) (fun h12 => ?_)
    · have qh12 := h12
      try simp only [decide_eq_true_eq, decide_eq_false_iff_not, Bool.not_eq_true', Bool.not_eq_false', Bool.and_eq_true, Bool.or_eq_false_iff, within_iff, within_not] at qh12
      refine WC.skip ?_
      refine tkN ?_
      refine hK10 _ _ ?_
      clear hK10
      refine WC.seq (fun K13 hK13 => ?_)
      refine WC.block ?_
      refine WC.seq (fun K14 hK14 => ?_)
      refine WC.region ?_
      refine WL.val rfl rfl rfl (Run.move rfl rfl) ?_
      refine WL.val rfl rfl rfl (Run.move rfl rfl) ?_
      refine WL.val rfl rfl rfl (Run.move rfl rfl) ?_
      refine WL.val rfl rfl rfl (Run.idxN Try.runUnderlying31 Try.sizeOf3 rfl rfl rfl ?_ ?_ ?_) ?_
      · exact SlF.some_ (SlF.ofOwn ho8 (fun p_ hp_ => (hs9.own p_ (List.mem_append_left _ hp_)).1))
      · omega
      · omega
      refine WL.storeF1 (x' := _) hs9 ho8 Try.sizeOf3 rfl rfl rfl rfl rfl rfl rfl rfl rfl ?_ (by first | rfl | (rw [gat_set (by (try simp only [List.length_set]); omega) rfl]; rfl)) (fun L15 whs16 hs16 ho17 _ => ?_)
      · omega
      refine WL.nil ?_
      refine tkN ?_
      refine hK14 _ _ ?_
      clear hK14
      refine WC.region ?_
      refine WL.val rfl rfl rfl (Run.move rfl rfl) ?_
      refine WL.val rfl rfl rfl (Run.add rfl rfl rfl ?_) ?_
      · constructor <;> omega
      refine WL.val rfl rfl rfl (Run.assign rfl rfl) ?_
      refine WL.nil ?_
      refine ibN ?_
      refine tkN ?_
      refine hK13 _ _ ?_
      clear hK13
      refine WC.region ?_
      refine WL.val rfl rfl rfl (Run.move rfl rfl) ?_
      refine WL.val rfl rfl rfl (Run.add rfl rfl rfl ?_) ?_
      · constructor <;> omega
      refine WL.val rfl rfl rfl (Run.assign rfl rfl) ?_
      refine WL.nil ?_
      refine tkN ?_
      try simp only [List.set_set] at ho17
      rw [fillM_set (i := i) (by omega) (by rw [hq]) (by simp)] at ho17
      refine ⟨⟨rfl, trivial⟩, _, hs16, _, ?_, i + 1, _, rfl, ?_, ?_, ho17, ⟨rfl, rfl, rfl, trivial⟩⟩
      · omega
      · omega
      · omega
    · have qh12 := h12
      try simp only [decide_eq_true_eq, decide_eq_false_iff_not, Bool.not_eq_true', Bool.not_eq_false', Bool.and_eq_true, Bool.or_eq_false_iff, within_iff, within_not] at qh12
      refine WC.exit ?_
      refine tkE ?_
      refine tkE ?_
      refine ibE ?_
      refine tkN ?_
      refine hK3 _ _ ?_
      clear hK3
      refine WC.seq (fun K18 hK18 => ?_)
      refine WC.region ?_
      refine WL.val rfl rfl rfl (Run.move rfl rfl) ?_
      refine WL.val rfl rfl rfl (Run.assign rfl rfl) ?_
      refine WL.nil ?_
      refine tkN ?_
      refine hK18 _ _ ?_
      clear hK18
      refine WC.ret ?_
      refine retV1 rfl (resV.tmp rfl) ?_
      have hx_ := OwnF.eqOf (xs := marks (fun k => k) 1 k a.length) ho8 (fillM_full (by omega))
      have hi_ : i = a.length := by omega
      refine ⟨_, ?_, (St.keep1 hs9), hx_ ▸ ho8⟩
      rw [p1, hi_]
theorem c_laws_heldIntS (A_a : Option Addr) (n_a c_a : Nat) (a : List Int) (k : Int) (w : World) (f_a : SlF encI w A_a n_a a) (h1 : 0 ≤ k) (h2 : k ≤ 1099511627776) (h3 : n_a ≤ 1099511627776) (hm : a = marks (fun k => k) 1 k n_a) :
    Calls Try.prog 29 #[.slice A_a n_a c_a, i64 k] w fun e w' => e = .returned (.int .i64 (k + 1 * n_a)) ∧ St w [] [] w' := by
  refine enter (vs := [.slice A_a n_a c_a, i64 k]) 21 Try.func29 rfl Try.ntmps29 rfl rfl ?_
  have hs1 := St.init w
  refine WC.seq (fun K2 hK2 => ?_)
  refine WC.region ?_
  refine WL.val rfl rfl rfl (Run.assign rfl rfl) ?_
  refine WL.nil ?_
  refine tkN ?_
  refine hK2 _ _ ?_
  clear hK2
  refine WC.seq (fun K3 hK3 => ?_)
  refine WC.seq (fun K4 hK4 => ?_)
  refine WC.region ?_
  refine WL.val rfl rfl rfl (Run.assign rfl rfl) ?_
  refine WL.nil ?_
  refine tkN ?_
  refine hK4 _ _ ?_
  clear hK4
  refine WC.block ?_
  refine WC.loopS [(0, _)] ⟨rfl, trivial⟩ hs1 (fun k_ f w' => ∃ (i : Nat) (q : Int), k_ = n_a - i ∧ (i ≤ n_a) ∧ (q = k + 1 * i) ∧ Sub [(5, .int .i64 i), (1, .int .i64 q)] f) ((fun (i : Nat) (q : Int) => n_a - i) (0) (k)) ?_ ?_
  · refine ⟨0, k, rfl, ?_, ?_, ⟨rfl, rfl, trivial⟩⟩
    · exact Nat.zero_le _
    · simp
  · clear hs1
    rintro _ f w ⟨i, q, rfl, p0, p1, hG⟩ hF hs5
    refine WC.sub _ (hG.app hF) ?_
    clear hG hF
    have hq : k + ((1 : Nat) : Int) * (i : Int) = q := by omega
    refine WC.seq (fun K6 hK6 => ?_)
    refine WC.seq (fun K7 hK7 => ?_)
    refine WC.region ?_
    refine WL.val rfl rfl rfl (Run.move rfl rfl) ?_
    refine WL.val rfl rfl rfl (Run.move rfl rfl) ?_
    refine WL.val rfl rfl rfl (Run.lenSl Try.runUnderlying31 rfl rfl) ?_
    refine WL.val rfl rfl rfl (Run.lss rfl rfl rfl) ?_
    refine WL.nil ?_
    refine tkN ?_
    refine hK7 _ _ ?_
    clear hK7
    refine WC.cond rfl (fun h8 => ?_) (fun h8 => ?_)
    · have qh8 := h8
      try simp only [decide_eq_true_eq, decide_eq_false_iff_not, Bool.not_eq_true', Bool.not_eq_false', Bool.and_eq_true, Bool.or_eq_false_iff, within_iff, within_not] at qh8
      have hg : gat encI a i = (fun k => k) q := by rw [hm, marks_gat (by omega), hq]
      refine WC.skip ?_
      refine tkN ?_
      refine hK6 _ _ ?_
      clear hK6
      refine WC.seq (fun K9 hK9 => ?_)
      refine WC.block ?_
      refine WC.seq (fun K10 hK10 => ?_)
      refine WC.seq (fun K11 hK11 => ?_)
      refine WC.region ?_
      refine WL.val rfl rfl rfl (Run.move rfl rfl) ?_
      refine WL.val rfl rfl rfl (Run.move rfl rfl) ?_
      refine WL.val rfl rfl rfl (Run.idxN Try.runUnderlying31 Try.sizeOf3 rfl rfl rfl ?_ ?_ ?_) ?_
      · exact SlF.some_ (SlF.st0 f_a hs5)
      · omega
      · omega
      refine WL.val rfl rfl rfl (Run.load Try.isAgg3 rfl rfl (SlF.one1 (SlF.st0 f_a hs5) ?_ rfl)) ?_
      · omega
      refine WL.val rfl rfl rfl (Run.move rfl rfl) ?_
      refine WL.val rfl rfl rfl (Run.neq rfl rfl rfl) ?_
      refine WL.nil ?_
      refine tkN ?_
      refine hK11 _ _ ?_
      clear hK11
      refine WC.condF rfl (by simp [hg]) ?_
      refine WC.skip ?_
      refine tkN ?_
      refine hK10 _ _ ?_
      clear hK10
      refine WC.region ?_
      refine WL.val rfl rfl rfl (Run.move rfl rfl) ?_
      refine WL.val rfl rfl rfl (Run.add rfl rfl rfl ?_) ?_
      · constructor <;> omega
      refine WL.val rfl rfl rfl (Run.assign rfl rfl) ?_
      refine WL.nil ?_
      refine ibN ?_
      refine tkN ?_
      refine hK9 _ _ ?_
      clear hK9
      refine WC.region ?_
      refine WL.val rfl rfl rfl (Run.move rfl rfl) ?_
      refine WL.val rfl rfl rfl (Run.add rfl rfl rfl ?_) ?_
      · constructor <;> omega
      refine WL.val rfl rfl rfl (Run.assign rfl rfl) ?_
      refine WL.nil ?_
      refine tkN ?_
      refine ⟨⟨rfl, trivial⟩, hs5, _, ?_, i + 1, _, rfl, ?_, ?_, ⟨rfl, rfl, trivial⟩⟩
      · omega
      · omega
      · omega
    · have qh8 := h8
      try simp only [decide_eq_true_eq, decide_eq_false_iff_not, Bool.not_eq_true', Bool.not_eq_false', Bool.and_eq_true, Bool.or_eq_false_iff, within_iff, within_not] at qh8
      refine WC.exit ?_
      refine tkE ?_
      refine tkE ?_
      refine ibE ?_
      refine tkN ?_
      refine hK3 _ _ ?_
      clear hK3
      refine WC.seq (fun K13 hK13 => ?_)
      refine WC.region ?_
      refine WL.val rfl rfl rfl (Run.move rfl rfl) ?_
      refine WL.val rfl rfl rfl (Run.assign rfl rfl) ?_
      refine WL.nil ?_
      refine tkN ?_
      refine hK13 _ _ ?_
      clear hK13
      refine WC.ret ?_
      refine retV1 rfl (resV.tmp rfl) ?_
      refine ⟨congrArg Ending.returned ?_, hs5.nil⟩
      rw [p1, show i = n_a from by omega]
theorem c_laws_heldNodeS (A_a : Option Addr) (n_a c_a : Nat) (a : List NodeD) (k : Int) (w : World) (f_a : SlF encNode w A_a n_a a) (h1 : 0 ≤ k) (h2 : k ≤ 1099511627776) (h3 : n_a ≤ 1099511627776) (hm : a = marks mkNode 3 k n_a) :
    Calls Try.prog 32 #[.slice A_a n_a c_a, i64 k] w fun e w' => e = .returned (.int .i64 (k + 3 * n_a)) ∧ St w [] [] w' := by
  refine enter (vs := [.slice A_a n_a c_a, i64 k]) 42 Try.func32 rfl Try.ntmps32 rfl rfl ?_
  have hs1 := St.init w
  refine WC.seq (fun K2 hK2 => ?_)
  refine WC.region ?_
  refine WL.val rfl rfl rfl (Run.assign rfl rfl) ?_
  refine WL.nil ?_
  refine tkN ?_
  refine hK2 _ _ ?_
  clear hK2
  refine WC.seq (fun K3 hK3 => ?_)
  refine WC.seq (fun K4 hK4 => ?_)
  refine WC.region ?_
  refine WL.val rfl rfl rfl (Run.assign rfl rfl) ?_
  refine WL.nil ?_
  refine tkN ?_
  refine hK4 _ _ ?_
  clear hK4
  refine WC.block ?_
  refine WC.loopS [(0, _)] ⟨rfl, trivial⟩ hs1 (fun k_ f w' => ∃ (i : Nat) (q : Int), k_ = n_a - i ∧ (i ≤ n_a) ∧ (q = k + 3 * i) ∧ Sub [(5, .int .i64 i), (1, .int .i64 q)] f) ((fun (i : Nat) (q : Int) => n_a - i) (0) (k)) ?_ ?_
  · refine ⟨0, k, rfl, ?_, ?_, ⟨rfl, rfl, trivial⟩⟩
    · exact Nat.zero_le _
    · simp
  · clear hs1
    rintro _ f w ⟨i, q, rfl, p0, p1, hG⟩ hF hs5
    refine WC.sub _ (hG.app hF) ?_
    clear hG hF
    have hq : k + ((3 : Nat) : Int) * (i : Int) = q := by omega
    refine WC.seq (fun K6 hK6 => ?_)
    refine WC.seq (fun K7 hK7 => ?_)
    refine WC.region ?_
    refine WL.val rfl rfl rfl (Run.move rfl rfl) ?_
    refine WL.val rfl rfl rfl (Run.move rfl rfl) ?_
    refine WL.val rfl rfl rfl (Run.lenSl Try.runUnderlying25 rfl rfl) ?_
    refine WL.val rfl rfl rfl (Run.lss rfl rfl rfl) ?_
    refine WL.nil ?_
    refine tkN ?_
    refine hK7 _ _ ?_
    clear hK7
    refine WC.cond rfl (fun h8 => ?_) (fun h8 => ?_)
    · have qh8 := h8
      try simp only [decide_eq_true_eq, decide_eq_false_iff_not, Bool.not_eq_true', Bool.not_eq_false', Bool.and_eq_true, Bool.or_eq_false_iff, within_iff, within_not] at qh8
      have hg : gat encNode a i = mkNode q := by rw [hm, marks_gat (by omega), hq]
      refine WC.skip ?_
      refine tkN ?_
      refine hK6 _ _ ?_
      clear hK6
      refine WC.seq (fun K9 hK9 => ?_)
      refine WC.block ?_
      refine WC.seq (fun K10 hK10 => ?_)
      refine WC.seq (fun K11 hK11 => ?_)
      refine WC.region ?_
      refine WL.val rfl rfl rfl (Run.move rfl rfl) ?_
      refine WL.val rfl rfl rfl (Run.move rfl rfl) ?_
      refine WL.val rfl rfl rfl (Run.idxN Try.runUnderlying25 Try.sizeOf62 rfl rfl rfl ?_ ?_ ?_) ?_
      · exact SlF.some_ (SlF.st0 f_a hs5)
      · omega
      · omega
      refine WL.val rfl rfl rfl (Run.fieldO Try.runUnderlying62 rfl rfl rfl Try.sizeOf3 rfl) ?_
      refine WL.val rfl rfl rfl (Run.load Try.isAgg3 rfl rfl (SlF.fld (SlF.st0 f_a hs5) ?_ rfl)) ?_
      · omega
      refine WL.val rfl rfl rfl (Run.move rfl rfl) ?_
      refine WL.val rfl rfl rfl (Run.neq rfl rfl rfl) ?_
      refine WL.nil ?_
      refine tkN ?_
      refine hK11 _ _ ?_
      clear hK11
      refine WC.condF rfl (by simp [hg, mkNode]) ?_
      refine WC.skip ?_
      refine tkN ?_
      refine hK10 _ _ ?_
      clear hK10
      refine WC.seq (fun K13 hK13 => ?_)
      refine WC.region ?_
      refine WL.val rfl rfl rfl (Run.move rfl rfl) ?_
      refine WL.val rfl rfl rfl (Run.add rfl rfl rfl ?_) ?_
      · constructor <;> omega
      refine WL.val rfl rfl rfl (Run.assign rfl rfl) ?_
      refine WL.nil ?_
      refine tkN ?_
      refine hK13 _ _ ?_
      clear hK13
      refine WC.seq (fun K14 hK14 => ?_)
      refine WC.seq (fun K15 hK15 => ?_)
      refine WC.region ?_
      refine WL.val rfl rfl rfl (Run.move rfl rfl) ?_
      refine WL.val rfl rfl rfl (Run.move rfl rfl) ?_
      refine WL.val rfl rfl rfl (Run.idxN Try.runUnderlying25 Try.sizeOf62 rfl rfl rfl ?_ ?_ ?_) ?_
      · exact SlF.some_ (SlF.st0 f_a hs5)
      · omega
      · omega
      refine WL.val rfl rfl rfl (Run.fieldO Try.runUnderlying62 rfl rfl rfl Try.sizeOf4 rfl) ?_
      refine WL.val rfl rfl rfl (Run.load Try.isAgg4 rfl rfl (SlF.fld (SlF.st0 f_a hs5) ?_ rfl)) ?_
      · omega
      refine WL.val rfl rfl rfl (Run.move rfl rfl) ?_
      refine WL.val rfl rfl rfl (Run.rem rfl rfl rfl ?_ ?_) ?_
      · omega
      · omega
      refine WL.val rfl rfl rfl (Run.eql rfl rfl rfl) ?_
      refine WL.val rfl rfl rfl (Run.neqB Try.runUnderlying4 rfl rfl rfl) ?_
      refine WL.nil ?_
      refine tkN ?_
      refine hK15 _ _ ?_
      clear hK15
      refine WC.condF rfl (by simp [hg, mkNode]) ?_
      refine WC.skip ?_
      refine tkN ?_
      refine hK14 _ _ ?_
      clear hK14
      refine WC.seq (fun K17 hK17 => ?_)
      refine WC.region ?_
      refine WL.val rfl rfl rfl (Run.move rfl rfl) ?_
      refine WL.val rfl rfl rfl (Run.add rfl rfl rfl ?_) ?_
      · constructor <;> omega
      refine WL.val rfl rfl rfl (Run.assign rfl rfl) ?_
      refine WL.nil ?_
      refine tkN ?_
      refine hK17 _ _ ?_
      clear hK17
      refine WC.seq (fun K18 hK18 => ?_)
      refine WC.seq (fun K19 hK19 => ?_)
      refine WC.region ?_
      refine WL.val rfl rfl rfl (Run.move rfl rfl) ?_
      refine WL.val rfl rfl rfl (Run.move rfl rfl) ?_
      refine WL.val rfl rfl rfl (Run.idxN Try.runUnderlying25 Try.sizeOf62 rfl rfl rfl ?_ ?_ ?_) ?_
      · exact SlF.some_ (SlF.st0 f_a hs5)
      · omega
      · omega
      refine WL.val rfl rfl rfl (Run.fieldO Try.runUnderlying62 rfl rfl rfl Try.sizeOf3 rfl) ?_
      refine WL.val rfl rfl rfl (Run.load Try.isAgg3 rfl rfl (SlF.fld (SlF.st0 f_a hs5) ?_ rfl)) ?_
      · omega
      refine WL.val rfl rfl rfl (Run.move rfl rfl) ?_
      refine WL.val rfl rfl rfl (Run.neq rfl rfl rfl) ?_
      refine WL.nil ?_
      refine tkN ?_
      refine hK19 _ _ ?_
      clear hK19
      refine WC.condF rfl (by simp [hg, mkNode]) ?_
      refine WC.skip ?_
      refine tkN ?_
      refine hK18 _ _ ?_
      clear hK18
      refine WC.region ?_
      refine WL.val rfl rfl rfl (Run.move rfl rfl) ?_
      refine WL.val rfl rfl rfl (Run.add rfl rfl rfl ?_) ?_
      · constructor <;> omega
      refine WL.val rfl rfl rfl (Run.assign rfl rfl) ?_
      refine WL.nil ?_
      refine ibN ?_
      refine tkN ?_
      refine hK9 _ _ ?_
      clear hK9
      refine WC.region ?_
      refine WL.val rfl rfl rfl (Run.move rfl rfl) ?_
      refine WL.val rfl rfl rfl (Run.add rfl rfl rfl ?_) ?_
      · constructor <;> omega
      refine WL.val rfl rfl rfl (Run.assign rfl rfl) ?_
      refine WL.nil ?_
      refine tkN ?_
      refine ⟨⟨rfl, trivial⟩, hs5, _, ?_, i + 1, _, rfl, ?_, ?_, ⟨rfl, rfl, trivial⟩⟩
      · omega
      · omega
      · omega
    · have qh8 := h8
      try simp only [decide_eq_true_eq, decide_eq_false_iff_not, Bool.not_eq_true', Bool.not_eq_false', Bool.and_eq_true, Bool.or_eq_false_iff, within_iff, within_not] at qh8
      refine WC.exit ?_
      refine tkE ?_
      refine tkE ?_
      refine ibE ?_
      refine tkN ?_
      refine hK3 _ _ ?_
      clear hK3
      refine WC.seq (fun K21 hK21 => ?_)
      refine WC.region ?_
      refine WL.val rfl rfl rfl (Run.move rfl rfl) ?_
      refine WL.val rfl rfl rfl (Run.assign rfl rfl) ?_
      refine WL.nil ?_
      refine tkN ?_
      refine hK21 _ _ ?_
      clear hK21
      refine WC.ret ?_
      refine retV1 rfl (resV.tmp rfl) ?_
      refine ⟨congrArg Ending.returned ?_, hs5.nil⟩
      rw [p1, show i = n_a from by omega]
end Go.Proofs.Ytghcicggamkjgaa
