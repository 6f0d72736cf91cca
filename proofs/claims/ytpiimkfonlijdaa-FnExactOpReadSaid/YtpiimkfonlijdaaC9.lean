/- Walks of Go functions, printed by a program (wip/gen). -/
import Derived.Test.YtpiimkfonlijdaaC8
namespace Go.Proofs.Ytpiimkfonlijdaa
open Go Go.RowKit
set_option linter.unusedVariables false
set_option linter.unusedSimpArgs false
theorem c_laws_toOp (o_Kind : Int) (o_A : Int) (o_B : Int) (o_C : Int) (o_Name : ByteArray) (o_Text : ByteArray) (o_Dir : ByteArray) (A_o_Data : Option Addr) (n_o_Data c_o_Data : Nat) (o_Data : List UInt8) (w : World) (f_o_Data : SlF encB w A_o_Data n_o_Data o_Data) (hn : n_o_Data ≤ 1099511627776) :
    Calls Try.prog 12 #[.agg #[i64 o_Kind, i64 o_A, i64 o_B, i64 o_C, .string o_Name, .string o_Text, .string o_Dir, .slice A_o_Data n_o_Data c_o_Data]] w fun e w' => ∃ A c L1, e = .returned (.agg #[i64 o_Kind, i64 o_A, i64 o_B, i64 o_C, .string o_Name, .string o_Text, .string o_Dir, .slice A (o_Data).length c]) ∧ St w [] L1 w' ∧ OwnF encB 5 (.slice A (o_Data).length c) (o_Data) L1 := by
  refine enter (vs := [.agg #[i64 o_Kind, i64 o_A, i64 o_B, i64 o_C, .string o_Name, .string o_Text, .string o_Dir, .slice A_o_Data n_o_Data c_o_Data]]) 30 Try.func12 rfl Try.ntmps12 rfl rfl ?_
  have hs1 := St.init w
  refine WC.seq (fun K2 hK2 => ?_)
  refine WC.region ?_
  refine WL.box hs1 rfl rfl rfl rfl rfl rfl (fun b3 whs4 hs4 => ?_)
  refine WL.alloc hs4 Try.zeroValue27 rfl rfl rfl rfl rfl (fun b5 whs6 hs6 => ?_)
  refine WL.nil ?_
  refine tkN ?_
  refine hK2 _ _ ?_
  clear hK2
  refine WC.seq (fun K7 hK7 => ?_)
  refine WC.region ?_
  refine WL.alloc hs6 Try.zeroValue27 rfl rfl rfl rfl rfl (fun b8 whs9 hs9 => ?_)
  refine WL.nil ?_
  refine tkN ?_
  refine hK7 _ _ ?_
  clear hK7
  refine WC.seq (fun K10 hK10 => ?_)
  refine WC.region ?_
  refine WL.val rfl rfl rfl (Run.field Try.runUnderlying24 rfl rfl rfl Try.sizeOf3 rfl) ?_
  refine WL.val rfl rfl rfl (Run.loadL hs9 2 Try.isAgg3 rfl rfl rfl rfl) ?_
  refine WL.val rfl rfl rfl (Run.field Try.runUnderlying27 rfl rfl rfl Try.sizeOf3 rfl) ?_
  refine WL.store hs9 0 Try.sizeOf3 rfl rfl rfl rfl rfl rfl rfl rfl rfl rfl (fun whs11 hs11 => ?_)
  refine WL.nil ?_
  refine tkN ?_
  refine hK10 _ _ ?_
  clear hK10
  refine WC.seq (fun K12 hK12 => ?_)
  refine WC.region ?_
  refine WL.val rfl rfl rfl (Run.field Try.runUnderlying24 rfl rfl rfl Try.sizeOf3 rfl) ?_
  refine WL.val rfl rfl rfl (Run.loadL hs11 2 Try.isAgg3 rfl rfl rfl rfl) ?_
  refine WL.val rfl rfl rfl (Run.field Try.runUnderlying27 rfl rfl rfl Try.sizeOf3 rfl) ?_
  refine WL.store hs11 0 Try.sizeOf3 rfl rfl rfl rfl rfl rfl rfl rfl rfl rfl (fun whs13 hs13 => ?_)
  refine WL.nil ?_
  refine tkN ?_
  refine hK12 _ _ ?_
  clear hK12
  refine WC.seq (fun K14 hK14 => ?_)
  refine WC.region ?_
  refine WL.val rfl rfl rfl (Run.field Try.runUnderlying24 rfl rfl rfl Try.sizeOf3 rfl) ?_
  refine WL.val rfl rfl rfl (Run.loadL hs13 2 Try.isAgg3 rfl rfl rfl rfl) ?_
  refine WL.val rfl rfl rfl (Run.field Try.runUnderlying27 rfl rfl rfl Try.sizeOf3 rfl) ?_
  refine WL.store hs13 0 Try.sizeOf3 rfl rfl rfl rfl rfl rfl rfl rfl rfl rfl (fun whs15 hs15 => ?_)
  refine WL.nil ?_
  refine tkN ?_
  refine hK14 _ _ ?_
  clear hK14
  refine WC.seq (fun K16 hK16 => ?_)
  refine WC.region ?_
  refine WL.val rfl rfl rfl (Run.field Try.runUnderlying24 rfl rfl rfl Try.sizeOf3 rfl) ?_
  refine WL.val rfl rfl rfl (Run.loadL hs15 2 Try.isAgg3 rfl rfl rfl rfl) ?_
  refine WL.val rfl rfl rfl (Run.field Try.runUnderlying27 rfl rfl rfl Try.sizeOf3 rfl) ?_
  refine WL.store hs15 0 Try.sizeOf3 rfl rfl rfl rfl rfl rfl rfl rfl rfl rfl (fun whs17 hs17 => ?_)
  refine WL.nil ?_
  refine tkN ?_
  refine hK16 _ _ ?_
  clear hK16
  refine WC.seq (fun K18 hK18 => ?_)
  refine WC.region ?_
  refine WL.val rfl rfl rfl (Run.field Try.runUnderlying24 rfl rfl rfl Try.sizeOf9 rfl) ?_
  refine WL.val rfl rfl rfl (Run.loadL hs17 2 Try.isAgg9 rfl rfl rfl rfl) ?_
  refine WL.val rfl rfl rfl (Run.field Try.runUnderlying27 rfl rfl rfl Try.sizeOf9 rfl) ?_
  refine WL.store hs17 0 Try.sizeOf9 rfl rfl rfl rfl rfl rfl rfl rfl rfl rfl (fun whs19 hs19 => ?_)
  refine WL.nil ?_
  refine tkN ?_
  refine hK18 _ _ ?_
  clear hK18
  refine WC.seq (fun K20 hK20 => ?_)
  refine WC.region ?_
  refine WL.val rfl rfl rfl (Run.field Try.runUnderlying24 rfl rfl rfl Try.sizeOf9 rfl) ?_
  refine WL.val rfl rfl rfl (Run.loadL hs19 2 Try.isAgg9 rfl rfl rfl rfl) ?_
  refine WL.val rfl rfl rfl (Run.field Try.runUnderlying27 rfl rfl rfl Try.sizeOf9 rfl) ?_
  refine WL.store hs19 0 Try.sizeOf9 rfl rfl rfl rfl rfl rfl rfl rfl rfl rfl (fun whs21 hs21 => ?_)
  refine WL.nil ?_
  refine tkN ?_
  refine hK20 _ _ ?_
  clear hK20
  refine WC.seq (fun K22 hK22 => ?_)
  refine WC.region ?_
  refine WL.val rfl rfl rfl (Run.field Try.runUnderlying24 rfl rfl rfl Try.sizeOf9 rfl) ?_
  refine WL.val rfl rfl rfl (Run.loadL hs21 2 Try.isAgg9 rfl rfl rfl rfl) ?_
  refine WL.val rfl rfl rfl (Run.field Try.runUnderlying27 rfl rfl rfl Try.sizeOf9 rfl) ?_
  refine WL.store hs21 0 Try.sizeOf9 rfl rfl rfl rfl rfl rfl rfl rfl rfl rfl (fun whs23 hs23 => ?_)
  refine WL.nil ?_
  refine tkN ?_
  refine hK22 _ _ ?_
  clear hK22
  refine WC.seq (fun K24 hK24 => ?_)
  refine WC.region ?_
  refine WL.val rfl rfl rfl (Run.field Try.runUnderlying24 rfl rfl rfl Try.sizeOf22 rfl) ?_
  refine WL.val rfl rfl rfl (Run.loadL hs23 2 Try.isAgg22 rfl rfl rfl rfl) ?_
  refine WL.call rfl rfl rfl (Run.call Try.call28 rfl rfl rfl) (c_laws_toByteS _ _ _ _ _ (SlF.st0 f_o_Data hs23) ?_) ?_
  · first | assumption | rfl | omega
  rintro _ whs25 ⟨A26, c27, L128, rfl, hs25, ho29⟩
  replace hs25 := hs23.callF hs25
  refine ⟨_, rfl, ?_⟩
  replace hs25 := St.back [_, _, _] hs25
  refine WL.val rfl rfl rfl (Run.field Try.runUnderlying27 rfl rfl rfl Try.sizeOf22 rfl) ?_
  refine WL.store hs25 0 Try.sizeOf22 rfl rfl rfl rfl rfl rfl rfl rfl rfl rfl (fun whs30 hs30 => ?_)
  refine WL.nil ?_
  refine tkN ?_
  refine hK24 _ _ ?_
  clear hK24
  refine WC.seq (fun K31 hK31 => ?_)
  refine WC.region ?_
  refine WL.val rfl rfl rfl (Run.loadLA hs30 0 Try.isAgg27 Try.sizeOf27 rfl rfl rfl rfl rfl) ?_
  refine WL.storeA hs30 1 Try.sizeOf27 rfl rfl rfl rfl rfl rfl rfl rfl rfl (Nat.le_of_ble_eq_true rfl) (.inl (Nat.le_of_ble_eq_true rfl)) (fun whs32 hs32 => ?_)
  refine WL.nil ?_
  refine tkN ?_
  refine hK31 _ _ ?_
  clear hK31
  refine WC.ret ?_
  refine retV1 rfl (resV.cell rfl (run_loadVarA Try.isAgg27 Try.sizeOf27 (cells_of_heap (hs32.own _ (nthL_mem (i := 1) rfl)).1 rfl rfl))) ?_
  have hx_ := OwnF.eqOf (xs := o_Data) ho29 (by rfl)
  rw [← hx_]
  first | exact ⟨_, _, _, rfl, (St.keep1 (St.perm hs32 (L' := L128 ++ _) (perm_front (A := [_, _, _]) (List.Perm.refl _)))), ho29⟩ | exact ⟨A26, c27, _, by rw [OwnF.len_ ho29], (St.keep1 (St.perm hs32 (L' := L128 ++ _) (perm_front (A := [_, _, _]) (List.Perm.refl _)))), by rw [OwnF.len_ ho29]; exact ho29⟩
theorem c_laws_eqOp (a_Kind : Int) (a_A : Int) (a_B : Int) (a_C : Int) (a_Name : ByteArray) (a_Text : ByteArray) (a_Dir : ByteArray) (A_a_Data : Option Addr) (n_a_Data c_a_Data : Nat) (a_Data : List UInt8) (b_Kind : Int) (b_A : Int) (b_B : Int) (b_C : Int) (b_Name : ByteArray) (b_Text : ByteArray) (b_Dir : ByteArray) (A_b_Data : Option Addr) (n_b_Data c_b_Data : Nat) (b_Data : List UInt8) (w : World) (f_a_Data : SlF encB w A_a_Data n_a_Data a_Data) (f_b_Data : SlF encB w A_b_Data n_b_Data b_Data) (hn : n_a_Data ≤ 1099511627776) (hab : (⟨a_Kind, a_A, a_B, a_C, a_Name, a_Text, a_Dir, a_Data⟩ : OpD) = (⟨b_Kind, b_A, b_B, b_C, b_Name, b_Text, b_Dir, b_Data⟩ : OpD)) :
    Calls Try.prog 14 #[.agg #[i64 a_Kind, i64 a_A, i64 a_B, i64 a_C, .string a_Name, .string a_Text, .string a_Dir, .slice A_a_Data n_a_Data c_a_Data], .agg #[i64 b_Kind, i64 b_A, i64 b_B, i64 b_C, .string b_Name, .string b_Text, .string b_Dir, .slice A_b_Data n_b_Data c_b_Data]] w fun e w' => e = .returned (.bool true) ∧ St w [] [] w' := by
  cases hab
  refine enter (vs := [.agg #[i64 a_Kind, i64 a_A, i64 a_B, i64 a_C, .string a_Name, .string a_Text, .string a_Dir, .slice A_a_Data n_a_Data c_a_Data], .agg #[i64 a_Kind, i64 a_A, i64 a_B, i64 a_C, .string a_Name, .string a_Text, .string a_Dir, .slice A_b_Data n_b_Data c_b_Data]]) 46 Try.func14 rfl Try.ntmps14 rfl rfl ?_
  have hs1 := St.init w
  refine WC.seq (fun K2 hK2 => ?_)
  refine WC.region ?_
  refine WL.box hs1 rfl rfl rfl rfl rfl rfl (fun b3 whs4 hs4 => ?_)
  refine WL.box hs4 rfl rfl rfl rfl rfl rfl (fun b5 whs6 hs6 => ?_)
  refine WL.val rfl rfl rfl (Run.assign rfl rfl) ?_
  refine WL.nil ?_
  refine tkN ?_
  refine hK2 _ _ ?_
  clear hK2
  refine WC.seq (fun K7 hK7 => ?_)
  refine WC.seq (fun K8 hK8 => ?_)
  refine WC.region ?_
  refine WL.val rfl rfl rfl (Run.field Try.runUnderlying27 rfl rfl rfl Try.sizeOf3 rfl) ?_
  refine WL.val rfl rfl rfl (Run.loadL hs6 1 Try.isAgg3 rfl rfl rfl rfl) ?_
  refine WL.val rfl rfl rfl (Run.field Try.runUnderlying27 rfl rfl rfl Try.sizeOf3 rfl) ?_
  refine WL.val rfl rfl rfl (Run.loadL hs6 0 Try.isAgg3 rfl rfl rfl rfl) ?_
  refine WL.val rfl rfl rfl (Run.neq rfl rfl rfl) ?_
  refine WL.nil ?_
  refine tkN ?_
  refine hK8 _ _ ?_
  clear hK8
  refine WC.condF rfl (by simp) ?_
  refine WC.skip ?_
  refine tkN ?_
  refine hK7 _ _ ?_
  clear hK7
  refine WC.seq (fun K10 hK10 => ?_)
  refine WC.seq (fun K11 hK11 => ?_)
  refine WC.region ?_
  refine WL.val rfl rfl rfl (Run.field Try.runUnderlying27 rfl rfl rfl Try.sizeOf3 rfl) ?_
  refine WL.val rfl rfl rfl (Run.loadL hs6 1 Try.isAgg3 rfl rfl rfl rfl) ?_
  refine WL.val rfl rfl rfl (Run.field Try.runUnderlying27 rfl rfl rfl Try.sizeOf3 rfl) ?_
  refine WL.val rfl rfl rfl (Run.loadL hs6 0 Try.isAgg3 rfl rfl rfl rfl) ?_
  refine WL.val rfl rfl rfl (Run.neq rfl rfl rfl) ?_
  refine WL.nil ?_
  refine tkN ?_
  refine hK11 _ _ ?_
  clear hK11
  refine WC.condF rfl (by simp) ?_
  refine WC.skip ?_
  refine tkN ?_
  refine hK10 _ _ ?_
  clear hK10
  refine WC.seq (fun K13 hK13 => ?_)
  refine WC.seq (fun K14 hK14 => ?_)
  refine WC.region ?_
  refine WL.val rfl rfl rfl (Run.field Try.runUnderlying27 rfl rfl rfl Try.sizeOf3 rfl) ?_
  refine WL.val rfl rfl rfl (Run.loadL hs6 1 Try.isAgg3 rfl rfl rfl rfl) ?_
  refine WL.val rfl rfl rfl (Run.field Try.runUnderlying27 rfl rfl rfl Try.sizeOf3 rfl) ?_
  refine WL.val rfl rfl rfl (Run.loadL hs6 0 Try.isAgg3 rfl rfl rfl rfl) ?_
  refine WL.val rfl rfl rfl (Run.neq rfl rfl rfl) ?_
  refine WL.nil ?_
  refine tkN ?_
  refine hK14 _ _ ?_
  clear hK14
  refine WC.condF rfl (by simp) ?_
  refine WC.skip ?_
  refine tkN ?_
  refine hK13 _ _ ?_
  clear hK13
  refine WC.seq (fun K16 hK16 => ?_)
  refine WC.seq (fun K17 hK17 => ?_)
  refine WC.region ?_
  refine WL.val rfl rfl rfl (Run.field Try.runUnderlying27 rfl rfl rfl Try.sizeOf3 rfl) ?_
  refine WL.val rfl rfl rfl (Run.loadL hs6 1 Try.isAgg3 rfl rfl rfl rfl) ?_
  refine WL.val rfl rfl rfl (Run.field Try.runUnderlying27 rfl rfl rfl Try.sizeOf3 rfl) ?_
  refine WL.val rfl rfl rfl (Run.loadL hs6 0 Try.isAgg3 rfl rfl rfl rfl) ?_
  refine WL.val rfl rfl rfl (Run.neq rfl rfl rfl) ?_
  refine WL.nil ?_
  refine tkN ?_
  refine hK17 _ _ ?_
  clear hK17
  refine WC.condF rfl (by simp) ?_
  refine WC.skip ?_
  refine tkN ?_
  refine hK16 _ _ ?_
  clear hK16
  refine WC.seq (fun K19 hK19 => ?_)
  refine WC.seq (fun K20 hK20 => ?_)
  refine WC.region ?_
  refine WL.val rfl rfl rfl (Run.field Try.runUnderlying27 rfl rfl rfl Try.sizeOf9 rfl) ?_
  refine WL.val rfl rfl rfl (Run.loadL hs6 1 Try.isAgg9 rfl rfl rfl rfl) ?_
  refine WL.val rfl rfl rfl (Run.field Try.runUnderlying27 rfl rfl rfl Try.sizeOf9 rfl) ?_
  refine WL.val rfl rfl rfl (Run.loadL hs6 0 Try.isAgg9 rfl rfl rfl rfl) ?_
  refine WL.val rfl rfl rfl (Run.neqS rfl rfl rfl) ?_
  refine WL.nil ?_
  refine tkN ?_
  refine hK20 _ _ ?_
  clear hK20
  refine WC.condF rfl (by simp) ?_
  refine WC.skip ?_
  refine tkN ?_
  refine hK19 _ _ ?_
  clear hK19
  refine WC.seq (fun K22 hK22 => ?_)
  refine WC.seq (fun K23 hK23 => ?_)
  refine WC.region ?_
  refine WL.val rfl rfl rfl (Run.field Try.runUnderlying27 rfl rfl rfl Try.sizeOf9 rfl) ?_
  refine WL.val rfl rfl rfl (Run.loadL hs6 1 Try.isAgg9 rfl rfl rfl rfl) ?_
  refine WL.val rfl rfl rfl (Run.field Try.runUnderlying27 rfl rfl rfl Try.sizeOf9 rfl) ?_
  refine WL.val rfl rfl rfl (Run.loadL hs6 0 Try.isAgg9 rfl rfl rfl rfl) ?_
  refine WL.val rfl rfl rfl (Run.neqS rfl rfl rfl) ?_
  refine WL.nil ?_
  refine tkN ?_
  refine hK23 _ _ ?_
  clear hK23
  refine WC.condF rfl (by simp) ?_
  refine WC.skip ?_
  refine tkN ?_
  refine hK22 _ _ ?_
  clear hK22
  refine WC.seq (fun K25 hK25 => ?_)
  refine WC.seq (fun K26 hK26 => ?_)
  refine WC.region ?_
  refine WL.val rfl rfl rfl (Run.field Try.runUnderlying27 rfl rfl rfl Try.sizeOf9 rfl) ?_
  refine WL.val rfl rfl rfl (Run.loadL hs6 1 Try.isAgg9 rfl rfl rfl rfl) ?_
  refine WL.val rfl rfl rfl (Run.field Try.runUnderlying27 rfl rfl rfl Try.sizeOf9 rfl) ?_
  refine WL.val rfl rfl rfl (Run.loadL hs6 0 Try.isAgg9 rfl rfl rfl rfl) ?_
  refine WL.val rfl rfl rfl (Run.neqS rfl rfl rfl) ?_
  refine WL.nil ?_
  refine tkN ?_
  refine hK26 _ _ ?_
  clear hK26
  refine WC.condF rfl (by simp) ?_
  refine WC.skip ?_
  refine tkN ?_
  refine hK25 _ _ ?_
  clear hK25
  refine WC.seq (fun K28 hK28 => ?_)
  refine WC.seq (fun K29 hK29 => ?_)
  refine WC.region ?_
  refine WL.val rfl rfl rfl (Run.field Try.runUnderlying27 rfl rfl rfl Try.sizeOf22 rfl) ?_
  refine WL.val rfl rfl rfl (Run.loadL hs6 1 Try.isAgg22 rfl rfl rfl rfl) ?_
  refine WL.val rfl rfl rfl (Run.field Try.runUnderlying27 rfl rfl rfl Try.sizeOf22 rfl) ?_
  refine WL.val rfl rfl rfl (Run.loadL hs6 0 Try.isAgg22 rfl rfl rfl rfl) ?_
  refine WL.call rfl rfl rfl (Run.call Try.call19 rfl rfl rfl) (c_laws_eqByteS _ _ _ _ _ _ _ _ _ (SlF.st0 f_a_Data hs6) (SlF.st0 f_b_Data hs6) ?_ ?_) ?_
  · first | assumption | rfl | omega
  · first | assumption | rfl | omega
  rintro _ whs30 ⟨rfl, hs30⟩
  replace hs30 := hs6.call0 hs30
  refine ⟨_, rfl, ?_⟩
  refine WL.val rfl rfl rfl (Run.not rfl rfl) ?_
  refine WL.nil ?_
  refine tkN ?_
  refine hK29 _ _ ?_
  clear hK29
  refine WC.condF rfl (by simp) ?_
  refine WC.skip ?_
  refine tkN ?_
  refine hK28 _ _ ?_
  clear hK28
  refine WC.seq (fun K32 hK32 => ?_)
  refine WC.region ?_
  refine WL.val rfl rfl rfl (Run.assign rfl rfl) ?_
  refine WL.nil ?_
  refine tkN ?_
  refine hK32 _ _ ?_
  clear hK32
  refine WC.ret ?_
  refine retV1 rfl (resV.tmp rfl) ?_
  refine ⟨congrArg Ending.returned ?_, hs30.nil⟩
  rfl
theorem c_laws_markOp (a_Kind : Int) (a_A : Int) (a_B : Int) (a_C : Int) (a_Name : ByteArray) (a_Text : ByteArray) (a_Dir : ByteArray) (v_a_Data : Value) (a_Data : List UInt8) (L_a_Data : Hp) (k : Int) (w : World) (o_a_Data : OwnF encB 5 v_a_Data a_Data L_a_Data) (h_a_Data : ∀ p, p ∈ L_a_Data → w.heap[p.1]? = some p.2) (h1 : 0 ≤ k) (h2 : k ≤ 1099511627776) (h3 : a_Data.length ≤ 1099511627776) :
    Calls Try.prog 26 #[.agg #[i64 a_Kind, i64 a_A, i64 a_B, i64 a_C, .string a_Name, .string a_Text, .string a_Dir, v_a_Data], i64 k] w fun e w' => ∃ L1, e = .returned (.int .i64 (k + 1 * a_Data.length)) ∧ St w (L_a_Data.map (·.1)) L1 w' ∧ OwnF encB 5 v_a_Data (marks ub 1 k a_Data.length) L1 := by
  obtain ⟨A_a_Data, c_a_Data, rfl⟩ := o_a_Data.shape
  refine enter (vs := [.agg #[i64 a_Kind, i64 a_A, i64 a_B, i64 a_C, .string a_Name, .string a_Text, .string a_Dir, .slice A_a_Data a_Data.length c_a_Data], i64 k]) 10 Try.func26 rfl Try.ntmps26 rfl rfl ?_
  have hs1 := St.lent1 w L_a_Data o_a_Data h_a_Data
  refine WC.seq (fun K2 hK2 => ?_)
  refine WC.region ?_
  refine WL.box hs1 rfl rfl rfl rfl rfl rfl (fun b3 whs4 hs4 => ?_)
  refine WL.val rfl rfl rfl (Run.assign rfl rfl) ?_
  refine WL.nil ?_
  refine tkN ?_
  refine hK2 _ _ ?_
  clear hK2
  refine WC.seq (fun K5 hK5 => ?_)
  refine WC.region ?_
  refine WL.val rfl rfl rfl (Run.field Try.runUnderlying27 rfl rfl rfl Try.sizeOf22 rfl) ?_
  refine WL.val rfl rfl rfl (Run.loadL hs4 0 Try.isAgg22 rfl rfl rfl rfl) ?_
  refine WL.val rfl rfl rfl (Run.move rfl rfl) ?_
  refine WL.call rfl rfl rfl (Run.call Try.call22 rfl rfl rfl) (c_laws_markByteS _ _ _ _ _ o_a_Data (fun p_ hp_ => (hs4.own p_ (List.mem_append_right [_] (List.mem_append_left _ hp_))).1) ?_ ?_ ?_) ?_
  · first | assumption | rfl | omega
  · first | assumption | rfl | omega
  · first | assumption | rfl | omega
  rintro _ whs6 ⟨L17, rfl, hs6, ho8⟩
  replace hs6 := St.lend (St.perm hs4 (L' := L_a_Data ++ _) (perm_front (A := [_]) (List.Perm.refl _))) hs6
  refine ⟨_, rfl, ?_⟩
  replace hs6 := St.back [_] hs6
  refine WL.val rfl rfl rfl (Run.assign rfl rfl) ?_
  refine WL.nil ?_
  refine tkN ?_
  refine hK5 _ _ ?_
  clear hK5
  refine WC.seq (fun K9 hK9 => ?_)
  refine WC.region ?_
  refine WL.val rfl rfl rfl (Run.move rfl rfl) ?_
  refine WL.val rfl rfl rfl (Run.assign rfl rfl) ?_
  refine WL.nil ?_
  refine tkN ?_
  refine hK9 _ _ ?_
  clear hK9
  refine WC.ret ?_
  refine retV1 rfl (resV.tmp rfl) ?_
  exact ⟨_, rfl, (St.keep1 (St.perm hs6 (L' := L17 ++ _) (perm_front (A := [_]) (List.Perm.refl _)))), ho8⟩
theorem c_laws_heldOp (a_Kind : Int) (a_A : Int) (a_B : Int) (a_C : Int) (a_Name : ByteArray) (a_Text : ByteArray) (a_Dir : ByteArray) (A_a_Data : Option Addr) (n_a_Data c_a_Data : Nat) (a_Data : List UInt8) (k : Int) (w : World) (f_a_Data : SlF encB w A_a_Data n_a_Data a_Data) (h1 : 0 ≤ k) (h2 : k ≤ 1099511627776) (h3 : n_a_Data ≤ 1099511627776) (hm : a_Data = marks ub 1 k n_a_Data) :
    Calls Try.prog 33 #[.agg #[i64 a_Kind, i64 a_A, i64 a_B, i64 a_C, .string a_Name, .string a_Text, .string a_Dir, .slice A_a_Data n_a_Data c_a_Data], i64 k] w fun e w' => e = .returned (.int .i64 (k + 1 * n_a_Data)) ∧ St w [] [] w' := by
  refine enter (vs := [.agg #[i64 a_Kind, i64 a_A, i64 a_B, i64 a_C, .string a_Name, .string a_Text, .string a_Dir, .slice A_a_Data n_a_Data c_a_Data], i64 k]) 12 Try.func33 rfl Try.ntmps33 rfl rfl ?_
  have hs1 := St.init w
  refine WC.seq (fun K2 hK2 => ?_)
  refine WC.region ?_
  refine WL.box hs1 rfl rfl rfl rfl rfl rfl (fun b3 whs4 hs4 => ?_)
  refine WL.val rfl rfl rfl (Run.assign rfl rfl) ?_
  refine WL.nil ?_
  refine tkN ?_
  refine hK2 _ _ ?_
  clear hK2
  refine WC.seq (fun K5 hK5 => ?_)
  refine WC.region ?_
  refine WL.val rfl rfl rfl (Run.field Try.runUnderlying27 rfl rfl rfl Try.sizeOf22 rfl) ?_
  refine WL.val rfl rfl rfl (Run.loadL hs4 0 Try.isAgg22 rfl rfl rfl rfl) ?_
  refine WL.val rfl rfl rfl (Run.move rfl rfl) ?_
  refine WL.call rfl rfl rfl (Run.call Try.call23 rfl rfl rfl) (c_laws_heldByteS _ _ _ _ _ _ (SlF.st0 f_a_Data hs4) ?_ ?_ ?_ ?_) ?_
  · first | assumption | rfl | omega
  · first | assumption | rfl | omega
  · first | assumption | rfl | omega
  · first | assumption | rfl | omega
  rintro _ whs6 ⟨rfl, hs6⟩
  replace hs6 := hs4.call0 hs6
  refine ⟨_, rfl, ?_⟩
  refine WL.val rfl rfl rfl (Run.assign rfl rfl) ?_
  refine WL.nil ?_
  refine tkN ?_
  refine hK5 _ _ ?_
  clear hK5
  refine WC.seq (fun K7 hK7 => ?_)
  refine WC.seq (fun K8 hK8 => ?_)
  refine WC.region ?_
  refine WL.val rfl rfl rfl (Run.move rfl rfl) ?_
  refine WL.val rfl rfl rfl (Run.lss rfl rfl rfl) ?_
  refine WL.nil ?_
  refine tkN ?_
  refine hK8 _ _ ?_
  clear hK8
  refine WC.condF rfl (by simp; omega) ?_
  refine WC.skip ?_
  refine tkN ?_
  refine hK7 _ _ ?_
  clear hK7
  refine WC.seq (fun K10 hK10 => ?_)
  refine WC.region ?_
  refine WL.val rfl rfl rfl (Run.move rfl rfl) ?_
  refine WL.val rfl rfl rfl (Run.assign rfl rfl) ?_
  refine WL.nil ?_
  refine tkN ?_
  refine hK10 _ _ ?_
  clear hK10
  refine WC.ret ?_
  refine retV1 rfl (resV.tmp rfl) ?_
  refine ⟨congrArg Ending.returned ?_, hs6.nil⟩
  rfl
end Go.Proofs.Ytpiimkfonlijdaa
