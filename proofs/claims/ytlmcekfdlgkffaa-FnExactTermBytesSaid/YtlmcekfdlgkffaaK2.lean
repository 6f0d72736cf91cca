/- Walks of Go functions, printed by a program (wip/gen). -/
import Derived.Test.YtlmcekfdlgkffaaK1
namespace Go.Proofs.Ytlmcekfdlgkffaa
open Go Go.RowKit
set_option linter.unusedVariables false
set_option linter.unusedSimpArgs false
theorem eq_30 {d : Nat} (x y : AttrD) (w : World) : (Op.equalIn (d + 2) 30 (.agg (encAttr.enc x).toArray) (.agg (encAttr.enc y).toArray)).run Try.prog w = .ok (decide (x = y)) w := by
  obtain ⟨R, h, e⟩ : ∃ R, (Op.equalIn (d + 2) 30 (.agg (encAttr.enc x).toArray) (.agg (encAttr.enc y).toArray)).run Try.prog w = .ok R w ∧ R = decide (x = y) := ⟨_, equalIn_struct Try.underlying30 rfl (by kernel_rfl) (eqFields_cons rfl (part_one Try.isAgg3 rfl) (part_one Try.isAgg3 rfl) (equalIn_int Try.underlying3) (eqFields_cons rfl (part_one Try.isAgg3 rfl) (part_one Try.isAgg3 rfl) (equalIn_int Try.underlying3) (eqFields_cons rfl (part_one Try.isAgg4 rfl) (part_one Try.isAgg4 rfl) (equalIn_bool' Try.underlying4) (eqFields_cons rfl (part_one Try.isAgg4 rfl) (part_one Try.isAgg4 rfl) (equalIn_bool' Try.underlying4) (eqFields_cons rfl (part_one Try.isAgg4 rfl) (part_one Try.isAgg4 rfl) (equalIn_bool' Try.underlying4) eqFields_nil))))), by rw [Bool.eq_iff_iff]; simp [AttrD.iff']⟩
  rw [h, e]
theorem eq_100 {d : Nat} (x y : CellD) (w : World) : (Op.equalIn (d + 3) 100 (.agg (encCell.enc x).toArray) (.agg (encCell.enc y).toArray)).run Try.prog w = .ok (decide (x = y)) w := by
  obtain ⟨R, h, e⟩ : ∃ R, (Op.equalIn (d + 3) 100 (.agg (encCell.enc x).toArray) (.agg (encCell.enc y).toArray)).run Try.prog w = .ok R w ∧ R = decide (x = y) := ⟨_, equalIn_struct Try.underlying100 rfl (by kernel_rfl) (eqFields_cons rfl (part_one Try.isAgg3 rfl) (part_one Try.isAgg3 rfl) (equalIn_int Try.underlying3) (eqFields_cons rfl (part_agg Try.isAgg30 Try.sizeOf30 rfl) (part_agg Try.isAgg30 Try.sizeOf30 rfl) (eq_30 _ _ _) eqFields_nil)), by rw [Bool.eq_iff_iff]; simp [AttrD.iff', CellD.iff']⟩
  rw [h, e]
theorem c_impl_putCells (v_b : Value) (b : List UInt8) (L_b : Hp) (A_l : Option Addr) (n_l c_l : Nat) (l : List CellD) (w : World) (o_b : OwnF encB 5 v_b b L_b) (h_b : ∀ p, p ∈ L_b → w.heap[p.1]? = some p.2) (f_l : SlF encCell w A_l n_l l) (s_l : 0 < n_l → (adr A_l).block ∉ L_b.map (·.1)) (hn : n_l ≤ 4000) (hc : cellsOk l = true) (hx : b.length + 15 * n_l ≤ 268000000) :
    Calls Try.prog 177 #[v_b, .slice A_l n_l c_l] w fun e w' => ∃ A c L1, e = .returned (.slice A (b ++ cellsB l).length c) ∧ St w (L_b.map (·.1)) L1 w' ∧ OwnF encB 5 (.slice A (b ++ cellsB l).length c) (b ++ cellsB l) L1 := by
 obtain ⟨A_b, c_b, rfl⟩ := o_b.shape
 have hbl := cellsB_len (l := l) (by rw [f_l.len]; exact hn) hc
 refine enter (vs := [.slice A_b b.length c_b, .slice A_l n_l c_l]) 49 Try.func177 rfl Try.ntmps177 rfl rfl ?_
 have hs1 := St.lent1 w L_b o_b h_b
 refine WC.rr tbk hs1 [] rfl trivial ?_
 refine WC.seq (fun K2 hK2 => ?_)
 refine WC.rr tbk hs1 [] rfl trivial ?_
 refine WC.block ?_
 refine WC.loopO [(1, _), (4, _)] ⟨rfl, rfl, trivial⟩ hs1 (fun k_ f L_ => ∃ (zs : List UInt8) (i : Nat) (A3 : Option Addr) (c4 : Nat), k_ = n_l - i ∧ (i ≤ n_l) ∧ (b ++ cellsB l = zs ++ cellsGo 0 (l.drop i)) ∧ OwnF encB 5 (.slice A3 (zs.length) c4) (zs) L_ ∧ Sub [(0, .slice A3 (zs.length) c4), (5, .int .i64 i)] f) (((fun (zs : List UInt8) (i : Nat) => n_l - i) (b) (0))) ?_ ?_
 ·refine ⟨b, 0, _, _, rfl, ?_, ?_, o_b, ⟨rfl, rfl, trivial⟩⟩
  · exact Nat.zero_le _
  · rfl
 ·clear hs1
  rintro _ f w L5 ⟨zs, i, A3, c4, rfl, p0, p1, ho6, hG⟩ hF hs7
  refine WC.sub _ (hG.app hF) ?_
  clear hG hF
  have hblen := congrArg List.length p1
  have hll := f_l.len
  simp only [List.length_append] at hblen
  refine WC.seq (fun K8 hK8 => ?_)
  refine WC.rr tbk hs7 [] rfl trivial ?_
  refine WC.cond rfl (fun h9 => ?_) (fun h9 => ?_)
  ·have qh9 := h9
   try simp only [bf, within_iff, within_not] at qh9
   refine WC.skip ?_
   refine hK8 _ _ ?_
   refine WC.block ?_
   refine WC.rr tbk hs7 [] rfl trivial ?_
   refine WC.seq (fun K10 hK10 => ?_)
   refine WC.block ?_
   refine WC.loopS [(0, _), (1, _), (4, _), (5, _), (7, _), (8, _), (9, _), (10, _), (11, _)] ⟨rfl, rfl, rfl, rfl, rfl, rfl, rfl, rfl, rfl, trivial⟩ hs7 (fun k_ f w' => ∃ (j : Nat), k_ = n_l - j ∧ (i ≤ j) ∧ (j ≤ n_l) ∧ (∀ k, i ≤ k → k < j → gat encCell l k = gat encCell l i) ∧ Sub [(6, .int .i64 j)] f) ((fun (j : Nat) => n_l - j) (i)) ?_ ?_
   ·refine ⟨i, rfl, ?_, ?_, ?_, ⟨rfl, trivial⟩⟩
    · exact Nat.le_refl _
    · omega
    · exact fun k h1 h2 => absurd h1 (by omega)
   ·clear hs7
    rintro _ f w ⟨j, rfl, r0, r1, r2, hG⟩ hF hs11
    refine WC.sub _ (hG.app hF) ?_
    clear hG hF
    refine WC.seq (fun K12 hK12 => ?_)
    refine WC.sq hs11 mixed (by kernel_rfl) ?_
    refine WQ.run tbk 5 [] rfl trivial ?_
    apply WQ.gA 9 Acts.nil rfl
    ·intro g13 J14
     have qg13 := g13
     try simp only [bf, within_iff, within_not] at qg13
     refine WQ.runA tbk 2 (Acts.nil.cons (j := 4) rfl g13) [] rfl trivial ?_
     refine WQ.val (wantT rfl g13) rfl rfl (fun w_ hs_ => (Run.idxN Try.runUnderlying26 Try.sizeOf100 rfl rfl rfl ?_ ?_ ?_)) ?_
     · exact SlF.some_ (SlF.st f_l (hs_ : St _ _ _ _) s_l)
     · omega
     · omega
     refine WQ.val (wantT rfl g13) rfl rfl (fun w_ hs_ => (Run.loadA Try.isAgg100 Try.sizeOf100 rfl rfl (SlF.whole (SlF.st f_l (hs_ : St _ _ _ _) s_l) ?_))) ?_
     · omega
     refine WQ.runA tbk 2 (Acts.nil.cons (j := 4) rfl g13) [] rfl trivial ?_
     refine WQ.val (wantT rfl g13) rfl rfl (fun w_ hs_ => (Run.idxN Try.runUnderlying26 Try.sizeOf100 rfl rfl rfl ?_ ?_ ?_)) ?_
     · exact SlF.some_ (SlF.st f_l (hs_ : St _ _ _ _) s_l)
     · omega
     · omega
     refine WQ.val (wantT rfl g13) rfl rfl (fun w_ hs_ => (Run.loadA Try.isAgg100 Try.sizeOf100 rfl rfl (SlF.whole (SlF.st f_l (hs_ : St _ _ _ _) s_l) ?_))) ?_
     · omega
     refine WQ.val (wantT rfl g13) rfl rfl (fun w_ hs_ => (Run.eqlA (eq_100 _ _) (by kernel_rfl) rfl rfl rfl)) ?_
     exact WQ.eA 9 Acts.nil J14 g13 rfl rfl
    ·refine WQ.nil (fun _ (hs15 : St _ _ _ _) => ?_)
     refine WC.cond rfl (fun h16 => ?_) (fun h16 => ?_)
     ·have qh16 := h16
      try simp only [bf, within_iff, within_not] at qh16
      refine WC.skip ?_
      refine hK12 _ _ ?_
      refine WC.block ?_
      refine WC.region ?_
      refine WL.run tbk 3 hs15 [] rfl ⟨by omega, trivial⟩ ?_
      refine WL.nil ?_
      refine ibN ?_
      refine tkN ?_
      refine ⟨⟨rfl, rfl, rfl, rfl, rfl, rfl, rfl, rfl, rfl, trivial⟩, hs15, _, ?_, j + 1, rfl, ?_, ?_, ?_, ⟨rfl, trivial⟩⟩
      · omega
      · omega
      · omega
      · intro k h1 h2; rcases Nat.lt_or_ge k j with h_ | h_
        · exact r2 k h1 h_
        · obtain rfl : k = j := by omega
          exact (qh16).2
     ·have qh16 := h16
      try simp only [bf, within_iff, within_not] at qh16
      have hij : i < j := by
        rcases Nat.lt_or_ge i j with h_ | h_
        · exact h_
        · obtain rfl : j = i := by omega
          exact absurd qh16 (by simp; omega)
      have hcb := cellOk_bounds (cellsOk_gat (i := i) hc (by omega))
      have hcx : 0 ≤ attrNum ⟨(gat encCell l i).A.Fg, (gat encCell l i).A.Bg, (gat encCell l i).A.Bold, (gat encCell l i).A.Under, (gat encCell l i).A.Turn⟩ ∧ attrNum ⟨(gat encCell l i).A.Fg, (gat encCell l i).A.Bg, (gat encCell l i).A.Bold, (gat encCell l i).A.Under, (gat encCell l i).A.Turn⟩ ≤ 647 := hcb.2.2.2
      have hvx := varL_len (attrNum ⟨(gat encCell l i).A.Fg, (gat encCell l i).A.Bg, (gat encCell l i).A.Bold, (gat encCell l i).A.Under, (gat encCell l i).A.Turn⟩).toNat (by omega)
      have hrun := cellsGo_run (j - i - 1) 0 i (l := l) (by omega) (fun k hk => r2 _ (by omega) (by omega)) (fun hlt => by
        rw [show i + (j - i - 1) + 1 = j from by omega] at hlt ⊢
        intro he
        simp [he] at qh16
        omega)
      rw [show i + (j - i - 1) + 1 = j from by omega, show 0 + (j - i - 1) + 1 = j - i from by omega] at hrun
      have hjn : ((j : Int) - (i : Int)).toNat = j - i := by omega
      have hv1 := varL_len ((j : Int) - (i : Int)).toNat (by omega)
      have hv2 := varL_len (gat encCell l i).R.toNat (by omega)
      refine WC.exit ?_
      refine hK10 _ _ ?_
      refine WC.seq (fun K17 hK17 => ?_)
      refine WC.regionH2 (fun w' => St _ _ _ w') (fun w' => St _ _ _ w') mixed (St.drew (St.drop hs15 (List.sublist_append_right L5 _))) (St.drew hs15) (fun whs18 hs18 => ?_)
      replace hs18 : St _ _ _ _ := hs18
      refine WH.take 0 rfl (by kernel_rfl) rfl rfl rfl (St.drop hs18 (List.sublist_append_right L5 _)) (fun w_ hs_ => (Run.move rfl rfl)) ?_
      refine WH.take 1 rfl (by kernel_rfl) rfl rfl rfl (St.drop hs18 (List.sublist_append_right L5 _)) (fun w_ hs_ => (Run.move rfl rfl)) ?_
      refine WH.take 2 rfl (by kernel_rfl) rfl rfl rfl (St.drop hs18 (List.sublist_append_right L5 _)) (fun w_ hs_ => (Run.move rfl rfl)) ?_
      refine WH.take 3 rfl (by kernel_rfl) rfl rfl rfl (St.drop hs18 (List.sublist_append_right L5 _)) (fun w_ hs_ => (Run.sub rfl rfl rfl ?_)) ?_
      · constructor <;> omega
      refine WH.take 5 rfl (by kernel_rfl) rfl rfl rfl (St.drop hs18 (List.sublist_append_right L5 _)) (fun w_ hs_ => (Run.move rfl rfl)) ?_
      refine WH.take 6 rfl (by kernel_rfl) rfl rfl rfl (St.drop hs18 (List.sublist_append_right L5 _)) (fun w_ hs_ => (Run.move rfl rfl)) ?_
      refine WH.take 7 rfl (by kernel_rfl) rfl rfl rfl (St.drop hs18 (List.sublist_append_right L5 _)) (fun w_ hs_ => (Run.idxN Try.runUnderlying26 Try.sizeOf100 rfl rfl rfl ?_ ?_ ?_)) ?_
      · exact SlF.some_ (SlF.st f_l (hs_ : St _ _ _ _) s_l)
      · omega
      · omega
      refine WH.take 8 rfl (by kernel_rfl) rfl rfl rfl (St.drop hs18 (List.sublist_append_right L5 _)) (fun w_ hs_ => (Run.fieldO Try.runUnderlying100 rfl rfl rfl Try.sizeOf3 rfl)) ?_
      refine WH.take 9 rfl (by kernel_rfl) rfl rfl rfl (St.drop hs18 (List.sublist_append_right L5 _)) (fun w_ hs_ => (Run.load Try.isAgg3 rfl rfl (SlF.fld (SlF.st f_l (hs_ : St _ _ _ _) s_l) ?_ rfl))) ?_
      · omega
      refine WH.take 11 rfl (by kernel_rfl) rfl rfl rfl (St.drop hs18 (List.sublist_append_right L5 _)) (fun w_ hs_ => (Run.move rfl rfl)) ?_
      refine WH.take 12 rfl (by kernel_rfl) rfl rfl rfl (St.drop hs18 (List.sublist_append_right L5 _)) (fun w_ hs_ => (Run.move rfl rfl)) ?_
      refine WH.take 13 rfl (by kernel_rfl) rfl rfl rfl (St.drop hs18 (List.sublist_append_right L5 _)) (fun w_ hs_ => (Run.idxN Try.runUnderlying26 Try.sizeOf100 rfl rfl rfl ?_ ?_ ?_)) ?_
      · exact SlF.some_ (SlF.st f_l (hs_ : St _ _ _ _) s_l)
      · omega
      · omega
      refine WH.take 14 rfl (by kernel_rfl) rfl rfl rfl (St.drop hs18 (List.sublist_append_right L5 _)) (fun w_ hs_ => (Run.fieldO Try.runUnderlying100 rfl rfl rfl Try.sizeOf30 rfl)) ?_
      refine WH.take 15 rfl (by kernel_rfl) rfl rfl rfl (St.drop hs18 (List.sublist_append_right L5 _)) (fun w_ hs_ => (Run.loadA Try.isAgg30 Try.sizeOf30 rfl rfl (SlF.part (SlF.st f_l (hs_ : St _ _ _ _) s_l) ?_ rfl rfl))) ?_
      · omega
      refine WH.all [4] (by kernel_rfl) rfl (WHs.cons (i := 4) rfl ?_ WHs.nil)
      refine WL.call rfl rfl rfl (Run.call Try.call176 rfl rfl rfl) (c_impl_putVar _ _ _ _ _ ho6 (fun p_ hp_ => (hs18.own p_ (List.mem_append_left _ hp_)).1) ?_ ?_ ?_) ?_
      · first | omega | exact hcb.1 | exact hcx.1
      · first | omega
      · first | omega | (simp only [List.length_append]; omega)
      rintro _ whs19 ⟨A20, c21, L1_22, rfl, hs19, ho23⟩
      replace hs19 := St.lend hs18 hs19
      refine ⟨_, rfl, ?_⟩
      refine WL.nil ⟨(St.drop hs19 (List.sublist_append_right L1_22 _)), ?_⟩
      refine WH.all [10] (by kernel_rfl) rfl (WHs.cons (i := 10) rfl ?_ WHs.nil)
      refine WL.call rfl rfl rfl (Run.call Try.call176 rfl rfl rfl) (c_impl_putVar _ _ _ _ _ ho23 (fun p_ hp_ => (hs19.own p_ (List.mem_append_left _ hp_)).1) ?_ ?_ ?_) ?_
      · first | omega | exact hcb.1 | exact hcx.1
      · first | omega
      · first | omega | (simp only [List.length_append]; omega)
      rintro _ whs24 ⟨A25, c26, L1_27, rfl, hs24, ho28⟩
      replace hs24 := St.lend hs19 hs24
      refine ⟨_, rfl, ?_⟩
      refine WL.nil ⟨(St.drop hs24 (List.sublist_append_right L1_27 _)), ?_⟩
      refine WH.all [16] (by kernel_rfl) rfl (WHs.cons (i := 16) rfl ?_ WHs.nil)
      refine WL.call rfl rfl rfl (Run.call Try.call175 rfl rfl rfl) (c_impl_AttrNum _ _ _ _ _ _) ?_
      rintro _ whs29 ⟨rfl, hs29⟩
      replace hs29 := hs24.call0 hs29
      refine ⟨_, rfl, ?_⟩
      refine WL.nil ⟨(St.drop hs29 (List.sublist_append_right L1_27 _)), ?_⟩
      refine WH.all [17] (by kernel_rfl) rfl (WHs.cons (i := 17) rfl ?_ WHs.nil)
      refine WL.call rfl rfl rfl (Run.call Try.call176 rfl rfl rfl) (c_impl_putVar _ _ _ _ _ ho28 (fun p_ hp_ => (hs29.own p_ (List.mem_append_left _ hp_)).1) ?_ ?_ ?_) ?_
      · first | omega | exact hcb.1 | exact hcx.1
      · first | omega
      · first | omega | (simp only [List.length_append]; omega)
      rintro _ whs30 ⟨A31, c32, L1_33, rfl, hs30, ho34⟩
      replace hs30 := St.lend hs29 hs30
      refine ⟨_, rfl, ?_⟩
      refine WL.nil ⟨(St.drop hs30 (List.sublist_append_right L1_33 _)), ?_⟩
      refine WH.take 18 rfl (by kernel_rfl) rfl rfl rfl (St.drop hs30 (List.sublist_append_right L1_33 _)) (fun w_ hs_ => (Run.assign rfl rfl)) ?_
      refine WH.done (by kernel_rfl) ?_
      refine hK17 _ _ ?_
      refine WC.region ?_
      refine WL.run tbk 2 hs30 [] rfl trivial ?_
      refine WL.nil ?_
      refine ibN ?_
      refine tkN ?_
      refine ⟨⟨rfl, rfl, trivial⟩, _, hs30, _, ?_, _, j, _, _, rfl, ?_, ?_, ho34, ⟨rfl, rfl, trivial⟩⟩
      · omega
      · omega
      · rw [p1, hrun, List.append_assoc, List.append_assoc, List.append_assoc]; simp only [runB, hjn, List.append_assoc]
  ·have qh9 := h9
   try simp only [bf, within_iff, within_not] at qh9
   refine WC.exit ?_
   refine hK2 _ _ ?_
   refine WC.rr tbk hs7 [] rfl trivial ?_
   refine WC.ret ?_
   refine retV1 rfl (resV.tmp rfl) ?_
   have hx_ := OwnF.eqOf (xs := b ++ cellsB l) ho6 (by rw [p1, List.drop_eq_nil_of_le (by omega)]; simp [cellsGo])
   rw [← hx_]
   first | exact ⟨_, _, _, rfl, (St.keep1 hs7), ho6⟩ | exact ⟨A3, c4, _, by rw [OwnF.len_ ho6], (St.keep1 hs7), by rw [OwnF.len_ ho6]; exact ho6⟩
theorem c_spec_CellsBytes (A_l : Option Addr) (n_l c_l : Nat) (l : List CellD) (w : World) (f_l : SlF encCell w A_l n_l l) (hn : n_l ≤ 1099511627776) :
    Calls Try.prog 127 #[.slice A_l n_l c_l] w fun e w' => ∃ A c L1, e = .returned (.tuple #[.slice A (cellsOut l).length c, .bool (cellsFine l)]) ∧ St w [] L1 w' ∧ OwnF encB 5 (.slice A (cellsOut l).length c) (cellsOut l) L1 := by
 have hll := f_l.len
 refine enter (vs := [.slice A_l n_l c_l]) 61 Try.func127 rfl Try.ntmps127 rfl rfl ?_
 have hs1 := St.init w
 refine WC.rr tbk hs1 [] rfl trivial ?_
 refine WC.seq (fun K2 hK2 => ?_)
 refine WC.rr tbk hs1 [] rfl trivial ?_
 refine WC.cD rfl (fun qh3 => ?_) (fun qh3 => ?_)
 ·have hf : cellsFine l = false := by simp [cellsFine]; omega
  refine WC.rr tbk hs1 [] rfl trivial ?_
  refine WC.ret ?_
  refine tkR ?_
  clear hK2
  refine retV2 rfl (resV.tmp rfl) (resV.tmp rfl) ?_
  rw [hf]
  have hx_ := OwnF.eqOf (xs := cellsOut l) (OwnF.nil encB 5) (by simp [cellsOut, hf])
  rw [← hx_]
  exact ⟨_, _, _, rfl, hs1.nil, (OwnF.nil encB 5)⟩
 ·refine WC.skip ?_
  refine hK2 _ _ ?_
  refine WC.sr ?_
  refine WL.buildF (F := encB) hs1 ([]) Try.runUnderlying23 Try.sizeOf5 Try.zeroValue5 rfl rfl rfl rfl rfl rfl rfl rfl rfl rfl rfl rfl (fun A7 c8 L4 whs5 hs5 ho6 => ?_)
  refine WL.run tbk 1 hs5 [] rfl trivial ?_
  refine WL.nil ?_
  refine WC.rr tbk hs5 [] rfl trivial ?_
  refine WC.seq (fun K9 hK9 => ?_)
  refine WC.rr tbk hs5 [] rfl trivial ?_
  refine WC.block ?_
  refine WC.loopO [(0, _), (10, _), (12, _), (13, _)] ⟨rfl, rfl, rfl, rfl, trivial⟩ hs5 (fun k_ f L_ => ∃ (zs : List UInt8) (i m : Nat) (A10 : Option Addr) (c11 : Nat), k_ = n_l - i ∧ (i ≤ n_l) ∧ (m ≤ i) ∧ (zs.length ≤ 15 * i) ∧ (cellsB l = zs ++ cellsGo m (l.drop i)) ∧ (∀ k, k < i → cellOk (gat encCell l k) = true) ∧ OwnF encB 5 (.slice A10 (zs.length) c11) (zs) L_ ∧ Sub [(4, .slice A10 (zs.length) c11), (14, .int .i64 i), (5, .int .i64 m)] f) (((fun (zs : List UInt8) (i m : Nat) => n_l - i) ([]) (0) (0))) ?_ ?_
  ·refine ⟨[], 0, 0, _, _, rfl, ?_, ?_, ?_, ?_, ?_, ho6, ⟨rfl, rfl, rfl, trivial⟩⟩
   · exact Nat.zero_le _
   · exact Nat.le_refl _
   · simp
   · rfl
   · exact fun k hk => absurd hk (by omega)
  ·clear hs5
   rintro _ f w L12 ⟨zs, i, m, A10, c11, rfl, p0, p1, p2, p3, p4, ho13, hG⟩ hF hs14
   refine WC.sub _ (hG.app hF) ?_
   clear hG hF
   refine WC.rr tbk hs14 [] rfl trivial ?_
   refine WC.seq (fun K15 hK15 => ?_)
   refine WC.cD rfl (fun qh16 => ?_) (fun qh16 => ?_)
   ·refine WC.skip ?_
    refine hK15 _ _ ?_
    refine WC.seq (fun K17 hK17 => ?_)
    refine WC.block ?_
    refine WC.sr ?_
    refine WL.run tbk 1 hs14 [] rfl trivial ?_
    refine WL.val rfl rfl rfl (Run.idxN Try.runUnderlying26 Try.sizeOf100 rfl rfl rfl ?_ ?_ ?_) ?_
    · exact SlF.some_ (SlF.st0 f_l hs14)
    · omega
    · omega
    refine WL.val rfl rfl rfl (Run.loadA Try.isAgg100 Try.sizeOf100 rfl rfl (SlF.whole (SlF.st0 f_l hs14) ?_)) ?_
    · omega
    refine WL.al hs14 Try.zeroValue100 rfl rfl (fun b18 _ hs19 => ?_)
    refine WL.run tbk 1 hs19 [] rfl trivial ?_
    refine WL.st tbk hs19 0 rfl rfl (fun _ hs20 => ?_)
    refine WL.nil ?_
    refine WC.seq (fun K21 hK21 => ?_)
    refine WC.sr ?_
    refine WL.run tbk 1 hs20 [0] rfl ⟨rfl, trivial⟩ ?_
    refine WL.call rfl rfl rfl (Run.call Try.call171 rfl rfl rfl) (c_spec_CellOk _ _ _ _ _ _ _) ?_
    rintro _ whs22 ⟨rfl, hs22⟩
    replace hs22 := hs20.call0 hs22
    refine ⟨_, rfl, ?_⟩
    refine WL.run tbk 1 hs22 [] rfl trivial ?_
    refine WL.nil ?_
    refine WC.cond rfl (fun h23 => ?_) (fun h23 => ?_)
    ·have qh23 := h23
     try simp only [bf, within_iff, within_not] at qh23
     have hf : cellsFine l = false := by simp [cellsFine, cellsOk_not (l := l) (i := i) (by omega) qh23]
     refine WC.rr tbk hs22 [] rfl trivial ?_
     refine WC.ret ?_
     refine tkR (ibR (tkR (tkR (ibR (tkR ?_)))))
     clear hK21 hK17 hK9
     refine retV2 rfl (resV.tmp rfl) (resV.tmp rfl) ?_
     rw [hf]
     have hx_ := OwnF.eqOf (xs := cellsOut l) (OwnF.nil encB 5) (by simp [cellsOut, hf])
     rw [← hx_]
     exact ⟨_, _, _, rfl, hs22.nil, (OwnF.nil encB 5)⟩
    ·have qh23 := h23
     try simp only [bf, within_iff, within_not] at qh23
     have hci : cellOk (gat encCell l i) = true := qh23
     have hcb := cellOk_bounds hci
     have hcx : 0 ≤ attrNum ⟨(gat encCell l i).A.Fg, (gat encCell l i).A.Bg, (gat encCell l i).A.Bold, (gat encCell l i).A.Under, (gat encCell l i).A.Turn⟩ ∧ attrNum ⟨(gat encCell l i).A.Fg, (gat encCell l i).A.Bg, (gat encCell l i).A.Bold, (gat encCell l i).A.Under, (gat encCell l i).A.Turn⟩ ≤ 647 := hcb.2.2.2
     have hvx := varL_len (attrNum ⟨(gat encCell l i).A.Fg, (gat encCell l i).A.Bg, (gat encCell l i).A.Bold, (gat encCell l i).A.Under, (gat encCell l i).A.Turn⟩).toNat (by omega)
     refine WC.skip ?_
     refine hK21 _ _ ?_
     refine WC.rr tbk hs22 [] rfl ⟨by omega, trivial⟩ ?_
     refine WC.seq (fun K24 hK24 => ?_)
     refine WC.sq hs22 mixed (by kernel_rfl) ?_
     refine WQ.run tbk 6 [] rfl ⟨by omega, trivial⟩ ?_
     apply WQ.gA 7 Acts.nil rfl
     ·intro g25 J26
      have qg25 := g25
      try simp only [bf, within_iff, within_not] at qg25
      refine WQ.runA tbk 3 (Acts.nil.cons (j := 5) rfl g25) [] rfl ⟨by omega, trivial⟩ ?_
      refine WQ.val (wantT rfl g25) rfl rfl (fun w_ hs_ => (Run.idxK (i + 1) Try.runUnderlying26 Try.sizeOf100 rfl rfl rfl ?_ ?_ ?_)) ?_
      · exact SlF.some_ (SlF.st0 f_l (hs_ : St _ _ _ _))
      · omega
      · omega
      refine WQ.val (wantT rfl g25) rfl rfl (fun w_ hs_ => (Run.loadA Try.isAgg100 Try.sizeOf100 rfl rfl (SlF.whole (SlF.st0 f_l (hs_ : St _ _ _ _)) ?_))) ?_
      · omega
      refine WQ.runA tbk 1 (Acts.nil.cons (j := 5) rfl g25) [0] rfl ⟨rfl, trivial⟩ ?_
      refine WQ.val (wantT rfl g25) rfl rfl (fun w_ hs_ => (Run.eqlA (eq_100 _ _) (by kernel_rfl) rfl rfl rfl)) ?_
      exact WQ.eA 7 Acts.nil J26 g25 rfl rfl
     ·refine WQ.nil (fun _ (hs27 : St _ _ _ _) => ?_)
      refine WC.cond rfl (fun h28 => ?_) (fun h28 => ?_)
      ·have qh28 := h28
       try simp only [bf, within_iff, within_not] at qh28
       have hnx : i + 1 < l.length ∧ gat encCell l (i + 1) = gat encCell l i := by
         try simp only [Bool.and_eq_true, decide_eq_true_eq] at qh28
         exact ⟨by omega, qh28.2⟩
       refine WC.exit ?_
       refine hK17 _ _ ?_
       refine WC.region ?_
       refine WL.run tbk 2 hs27 [] rfl ⟨by omega, trivial⟩ ?_
       refine WL.nil ?_
       refine tkN ?_
       replace hs27 := St.drop hs27 (List.sublist_append_right [_] _)
       refine ⟨⟨rfl, rfl, rfl, rfl, trivial⟩, _, hs27, _, ?_, _, i + 1, (m + 1), _, _, rfl, ?_, ?_, ?_, ?_, ?_, ho13, ⟨rfl, rfl, rfl, trivial⟩⟩
       · omega
       · omega
       · omega
       · first | omega | (simp only [List.length_append]; omega)
       · first | (rw [p3, cellsGo_step (by omega), if_pos hnx]) | (rw [p3, cellsGo_step (by omega), if_neg hnx, runB]; simp only [List.append_assoc]; rfl)
       · intro k hk; rcases Nat.lt_or_ge k i with h_ | h_
         · exact p4 k h_
         · obtain rfl : k = i := by omega
           exact hci
      ·have qh28 := h28
       try simp only [bf, within_iff, within_not] at qh28
       have hnx : ¬ (i + 1 < l.length ∧ gat encCell l (i + 1) = gat encCell l i) := by
         rintro ⟨ha_, hb_⟩; try simp only [Bool.and_eq_false_imp, decide_eq_true_eq, decide_eq_false_iff_not] at qh28
         exact qh28 (by omega) hb_
       have hv1 := varL_len ((m : Int) + 1).toNat (by omega)
       have hv2 := varL_len (gat encCell l i).R.toNat (by omega)
       have hv3 := varL_len (attrNum (gat encCell l i).A).toNat (by omega)
       refine WC.skip ?_
       refine hK24 _ _ ?_
       refine WC.sr ?_
       refine WL.run tbk 2 hs27 [] rfl trivial ?_
       refine WL.call rfl rfl rfl (Run.call Try.call128 rfl rfl rfl) (c_spec_PutVar _ _ _ _ _ _ (SlF.ofOwn ho13 (fun p_ hp_ => (hs27.own p_ (List.mem_append_right [_] (List.mem_append_left _ hp_))).1)) ?_ ?_ ?_) ?_
       · first | omega | exact hcb.1 | exact hcx.1
       · omega
       · first | omega | (simp only [List.length_append]; omega)
       rintro _ whs29 ⟨A30, c31, L1_32, rfl, hs29, ho33⟩
       replace hs29 := hs27.callF hs29
       refine ⟨_, rfl, ?_⟩
       replace hs29 := St.back [_] hs29
       refine WL.run tbk 4 hs29 [] rfl trivial ?_
       refine WL.nil ?_
       refine WC.sr ?_
       refine WL.run tbk 3 hs29 [0] rfl ⟨rfl, trivial⟩ ?_
       refine WL.call rfl rfl rfl (Run.call Try.call128 rfl rfl rfl) (c_spec_PutVar _ _ _ _ _ _ (SlF.ofOwn ho33 (fun p_ hp_ => (hs29.own p_ (List.mem_append_right [_] (List.mem_append_left _ hp_))).1)) ?_ ?_ ?_) ?_
       · first | omega | exact hcb.1 | exact hcx.1
       · omega
       · first | omega | (simp only [List.length_append]; omega)
       rintro _ whs34 ⟨A35, c36, L1_37, rfl, hs34, ho38⟩
       replace hs34 := hs29.callF hs34
       refine ⟨_, rfl, ?_⟩
       replace hs34 := St.back [_] hs34
       refine WL.run tbk 4 hs34 [] rfl trivial ?_
       refine WL.nil ?_
       refine WC.sr ?_
       refine WL.run tbk 3 hs34 [0] rfl ⟨rfl, trivial⟩ ?_
       refine WL.call rfl rfl rfl (Run.call Try.call125 rfl rfl rfl) (c_spec_AttrNum _ _ _ _ _ _) ?_
       rintro _ whs39 ⟨rfl, hs39⟩
       replace hs39 := hs34.call0 hs39
       refine ⟨_, rfl, ?_⟩
       refine WL.call rfl rfl rfl (Run.call Try.call128 rfl rfl rfl) (c_spec_PutVar _ _ _ _ _ _ (SlF.ofOwn ho38 (fun p_ hp_ => (hs39.own p_ (List.mem_append_right [_] (List.mem_append_left _ hp_))).1)) ?_ ?_ ?_) ?_
       · first | omega | exact hcb.1 | exact hcx.1
       · omega
       · first | omega | (simp only [List.length_append]; omega)
       rintro _ whs40 ⟨A41, c42, L1_43, rfl, hs40, ho44⟩
       replace hs40 := hs39.callF hs40
       refine ⟨_, rfl, ?_⟩
       replace hs40 := St.back [_] hs40
       refine WL.run tbk 4 hs40 [] rfl trivial ?_
       refine WL.nil ?_
       refine WC.region ?_
       refine WL.run tbk 1 hs40 [] rfl trivial ?_
       refine WL.nil ?_
       refine hK17 _ _ ?_
       refine WC.region ?_
       refine WL.run tbk 2 hs40 [] rfl ⟨by omega, trivial⟩ ?_
       refine WL.nil ?_
       refine tkN ?_
       replace hs40 := St.drop hs40 (List.sublist_append_right [_] _)
       replace hs40 := St.drop (St.perm hs40 (L' := L1_37 ++ _) (perm_front (A := L1_43) (List.Perm.refl _))) (List.sublist_append_right L1_37 _)
       replace hs40 := St.drop (St.perm hs40 (L' := L1_32 ++ _) (perm_front (A := L1_43) (List.Perm.refl _))) (List.sublist_append_right L1_32 _)
       replace hs40 := St.drop (St.perm hs40 (L' := L12 ++ _) (perm_front (A := L1_43) (List.Perm.refl _))) (List.sublist_append_right L12 _)
       refine ⟨⟨rfl, rfl, rfl, rfl, trivial⟩, _, hs40, _, ?_, _, i + 1, 0, _, _, rfl, ?_, ?_, ?_, ?_, ?_, ho44, ⟨rfl, rfl, rfl, trivial⟩⟩
       · omega
       · omega
       · omega
       · first | omega | (simp only [List.length_append]; omega)
       · first | (rw [p3, cellsGo_step (by omega), if_pos hnx]) | (rw [p3, cellsGo_step (by omega), if_neg hnx, runB]; simp only [List.append_assoc]; rfl)
       · intro k hk; rcases Nat.lt_or_ge k i with h_ | h_
         · exact p4 k h_
         · obtain rfl : k = i := by omega
           exact hci
   ·have hok : cellsOk l = true := cellsOk_all (fun k hk => p4 k (by omega))
    have hf : cellsFine l = true := by simp [cellsFine, hok]; omega
    refine WC.exit ?_
    refine hK9 _ _ ?_
    refine WC.rr tbk hs14 [] rfl trivial ?_
    refine WC.ret ?_
    refine retV2 rfl (resV.tmp rfl) (resV.tmp rfl) ?_
    rw [hf]
    have hx_ := OwnF.eqOf (xs := cellsOut l) ho13 (by simp only [cellsOut, hf, if_true]; rw [p3, List.drop_eq_nil_of_le (by omega)]; simp [cellsGo])
    rw [← hx_]
    first | exact ⟨_, _, _, rfl, (St.keep1 hs14), ho13⟩ | exact ⟨A10, c11, _, by rw [OwnF.len_ ho13], (St.keep1 hs14), by rw [OwnF.len_ ho13]; exact ho13⟩
end Go.Proofs.Ytlmcekfdlgkffaa
