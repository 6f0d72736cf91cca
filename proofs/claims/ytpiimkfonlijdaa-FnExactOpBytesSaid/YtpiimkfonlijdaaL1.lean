/- Walks of Go functions, printed by a program (wip/gen). -/
import Derived.Test.YtpiimkfonlijdaaC9
namespace Go.Proofs.Ytpiimkfonlijdaa
open Go Go.RowKit
set_option linter.unusedVariables false
set_option linter.unusedSimpArgs false
set_option maxHeartbeats 4000000 in
theorem c_laws_FnExactOpBytes (o_Kind : Int) (o_A : Int) (o_B : Int) (o_C : Int) (o_Name : ByteArray) (o_Text : ByteArray) (o_Dir : ByteArray) (A_o_Data : Option Addr) (n_o_Data c_o_Data : Nat) (o_Data : List UInt8) (w : World) (f_o_Data : SlF encB w A_o_Data n_o_Data o_Data) (h3 : o_Name.size ≤ 9223372036854775807) (h4 : o_Text.size ≤ 9223372036854775807) (h5 : o_Dir.size ≤ 9223372036854775807) (h6 : n_o_Data ≤ 9223372036854775807) :
    Calls Try.prog 5 #[.agg #[i64 o_Kind, i64 o_A, i64 o_B, i64 o_C, .string o_Name, .string o_Text, .string o_Dir, .slice A_o_Data n_o_Data c_o_Data]] w fun e w' => e = .returned (.bool true) ∧ St w [] [] w' := by
  have hl := f_o_Data.len
  have hol := opB_len o_Kind o_A o_B o_C o_Name o_Text o_Dir o_Data
  refine enter (vs := [.agg #[i64 o_Kind, i64 o_A, i64 o_B, i64 o_C, .string o_Name, .string o_Text, .string o_Dir, .slice A_o_Data n_o_Data c_o_Data]]) 96 Try.func5 rfl Try.ntmps5 rfl rfl ?_
  have hs1 := St.init w
  refine WC.seq (fun K2 hK2 => ?_)
  refine WC.region ?_
  refine WL.box hs1 rfl rfl rfl rfl rfl rfl (fun b3 whs4 hs4 => ?_)
  refine WL.val rfl rfl rfl (Run.assign rfl rfl) ?_
  refine WL.nil ?_
  refine tkN ?_
  refine hK2 _ _ ?_
  clear hK2
  refine WC.seq (fun K5 hK5 => ?_)
  refine WC.region ?_
  refine WL.val rfl rfl rfl (Run.assign rfl rfl) ?_
  refine WL.nil ?_
  refine tkN ?_
  refine hK5 _ _ ?_
  clear hK5
  refine WC.seq (fun K6 hK6 => ?_)
  refine WC.region ?_
  refine WL.val rfl rfl rfl (Run.loadLA hs4 0 Try.isAgg24 Try.sizeOf24 rfl rfl rfl rfl rfl) ?_
  refine WL.val rfl rfl rfl (Run.move rfl rfl) ?_
  refine WL.call rfl rfl rfl (Run.call Try.call10 rfl rfl rfl) (c_laws_szOp _ _ _ _ _ _ _ _ _ _ _ _ _ (SlF.st0 f_o_Data hs4) ?_ ?_ ?_ ?_ ?_ ?_) ?_
  · first | assumption | rfl | omega
  · first | assumption | rfl | omega
  · first | assumption | rfl | omega
  · first | assumption | rfl | omega
  · first | assumption | rfl | omega
  · first | assumption | rfl | omega
  rintro _ whs7 ⟨rfl, hs7⟩
  replace hs7 := hs4.call0 hs7
  refine ⟨_, rfl, ?_⟩
  refine WL.val rfl rfl rfl (Run.assign rfl rfl) ?_
  refine WL.nil ?_
  refine tkN ?_
  refine hK6 _ _ ?_
  clear hK6
  refine WC.seq (fun K8 hK8 => ?_)
  refine WC.seq (fun K9 hK9 => ?_)
  refine WC.region ?_
  refine WL.val rfl rfl rfl (Run.move rfl rfl) ?_
  refine WL.val rfl rfl rfl (Run.lss rfl rfl rfl) ?_
  refine WL.nil ?_
  refine tkN ?_
  refine hK9 _ _ ?_
  clear hK9
  refine WC.cond rfl (fun h10 => ?_) (fun h10 => ?_)
  · have qh10 := h10
    try simp only [decide_eq_true_eq, decide_eq_false_iff_not, Bool.not_eq_true', Bool.not_eq_false', Bool.and_eq_true, Bool.or_eq_false_iff, within_iff, within_not] at qh10
    refine WC.seq (fun K11 hK11 => ?_)
    refine WC.region ?_
    refine WL.val rfl rfl rfl (Run.assign rfl rfl) ?_
    refine WL.nil ?_
    refine tkN ?_
    refine hK11 _ _ ?_
    clear hK11
    refine WC.ret ?_
    refine tkR ?_
    clear hK8
    refine retV1 rfl (resV.tmp rfl) ?_
    refine ⟨congrArg Ending.returned ?_, hs7.nil⟩
    rfl
  · have qh10 := h10
    try simp only [decide_eq_true_eq, decide_eq_false_iff_not, Bool.not_eq_true', Bool.not_eq_false', Bool.and_eq_true, Bool.or_eq_false_iff, within_iff, within_not] at qh10
    simp only [szR] at qh10
    have hb : o_Name.size + o_Text.size + o_Dir.size + n_o_Data ≤ 1048576 := by split at qh10 <;> omega
    refine WC.skip ?_
    refine tkN ?_
    refine hK8 _ _ ?_
    clear hK8
    refine WC.seq (fun K12 hK12 => ?_)
    refine WC.region ?_
    refine WL.val rfl rfl rfl (Run.loadLA hs7 0 Try.isAgg24 Try.sizeOf24 rfl rfl rfl rfl rfl) ?_
    refine WL.call rfl rfl rfl (Run.call Try.call12 rfl rfl rfl) (c_laws_toOp _ _ _ _ _ _ _ _ _ _ _ _ (SlF.st0 f_o_Data hs7) ?_) ?_
    · first | assumption | rfl | omega
    rintro _ whs13 ⟨A14, c15, L116, rfl, hs13, ho17⟩
    replace hs13 := hs7.callF hs13
    refine ⟨_, rfl, ?_⟩
    replace hs13 := St.back [_] hs13
    refine WL.call rfl rfl rfl (Run.call Try.call24 rfl rfl rfl) (c_spec_OpBytes _ _ _ _ _ _ _ _ _ _ _ _ (SlF.ofOwn ho17 (fun p_ hp_ => (hs13.own p_ (List.mem_append_right [_] (List.mem_append_left _ hp_))).1)) ?_) ?_
    · first | assumption | rfl | omega
    rintro _ whs18 ⟨A19, c20, L121, rfl, hs18, ho22⟩
    replace hs18 := hs13.callF hs18
    refine ⟨_, rfl, ?_⟩
    replace hs18 := St.back [_] hs18
    refine WL.val rfl rfl rfl (Run.move rfl rfl) ?_
    refine WL.val rfl rfl rfl (Run.extract rfl rfl rfl) ?_
    refine WL.val rfl rfl rfl (Run.extract rfl rfl rfl) ?_
    refine WL.val rfl rfl rfl (Run.assign rfl rfl) ?_
    refine WL.val rfl rfl rfl (Run.assign rfl rfl) ?_
    refine WL.nil ?_
    refine tkN ?_
    refine hK12 _ _ ?_
    clear hK12
    refine WC.seq (fun K23 hK23 => ?_)
    refine WC.region ?_
    refine WL.val rfl rfl rfl (Run.loadLA hs18 0 Try.isAgg24 Try.sizeOf24 rfl rfl rfl rfl rfl) ?_
    refine WL.call rfl rfl rfl (Run.call Try.call12 rfl rfl rfl) (c_laws_toOp _ _ _ _ _ _ _ _ _ _ _ _ (SlF.st0 f_o_Data hs18) ?_) ?_
    · first | assumption | rfl | omega
    rintro _ whs24 ⟨A25, c26, L127, rfl, hs24, ho28⟩
    replace hs24 := hs18.callF hs24
    refine ⟨_, rfl, ?_⟩
    replace hs24 := St.back [_] hs24
    refine WL.alloc hs24 Try.zeroValue27 rfl rfl rfl rfl rfl (fun b29 whs30 hs30 => ?_)
    refine WL.storeA hs30 0 Try.sizeOf27 rfl rfl rfl rfl rfl rfl rfl rfl rfl (Nat.le_of_ble_eq_true rfl) (.inl (Nat.le_of_ble_eq_true rfl)) (fun whs31 hs31 => ?_)
    refine WL.nil ?_
    refine tkN ?_
    refine hK23 _ _ ?_
    clear hK23
    refine WC.seq (fun K32 hK32 => ?_)
    refine WC.region ?_
    refine WL.val rfl rfl rfl (Run.loadLA hs31 0 Try.isAgg27 Try.sizeOf27 rfl rfl rfl rfl rfl) ?_
    refine WL.call rfl rfl rfl (Run.call Try.call25 rfl rfl rfl) (c_impl_OpBytes _ _ _ _ _ _ _ _ _ _ _ _ (SlF.ofOwn ho28 (fun p_ hp_ => (hs31.own p_ (List.mem_append_right [_, _] (List.mem_append_left _ hp_))).1)) ?_) ?_
    · first | assumption | rfl | omega
    rintro _ whs33 ⟨A34, c35, L136, rfl, hs33, ho37⟩
    replace hs33 := hs31.callF hs33
    refine ⟨_, rfl, ?_⟩
    replace hs33 := St.back [_, _] hs33
    refine WL.val rfl rfl rfl (Run.move rfl rfl) ?_
    refine WL.val rfl rfl rfl (Run.extract rfl rfl rfl) ?_
    refine WL.val rfl rfl rfl (Run.extract rfl rfl rfl) ?_
    refine WL.val rfl rfl rfl (Run.assign rfl rfl) ?_
    refine WL.val rfl rfl rfl (Run.assign rfl rfl) ?_
    refine WL.nil ?_
    refine tkN ?_
    refine hK32 _ _ ?_
    clear hK32
    refine WC.seq (fun K38 hK38 => ?_)
    refine WC.seq (fun K39 hK39 => ?_)
    refine WC.region ?_
    refine WL.val rfl rfl rfl (Run.move rfl rfl) ?_
    refine WL.val rfl rfl rfl (Run.move rfl rfl) ?_
    refine WL.call rfl rfl rfl (Run.call Try.call19 rfl rfl rfl) (c_laws_eqByteS _ _ _ _ _ _ _ _ _ (SlF.ofOwn ho37 (fun p_ hp_ => (hs33.own p_ (List.mem_append_right [_, _] (List.mem_append_left _ hp_))).1)) (SlF.ofOwn ho22 (fun p_ hp_ => (hs33.own p_ (List.mem_append_right [_, _] (List.mem_append_right _ (List.mem_append_right _ (List.mem_append_left _ hp_))))).1)) ?_ ?_) ?_
    · first | assumption | rfl | omega
    · first | assumption | rfl | omega
    rintro _ whs40 ⟨rfl, hs40⟩
    replace hs40 := hs33.call0 hs40
    refine ⟨_, rfl, ?_⟩
    refine WL.val rfl rfl rfl (Run.not rfl rfl) ?_
    refine WL.val rfl rfl rfl (Run.move rfl rfl) ?_
    apply WL.meetOr 4 36 40 [(0, _), (1, _), (2, _), (3, _), (4, _), (5, _), (6, _), (7, _), (8, _), (14, _), (15, _), (16, _), (17, _), (18, _), (19, _), (20, _), (21, _), (22, _), (23, _), (24, _), (25, _), (26, _), (27, _), (28, _), (29, _), (30, _), (31, _)] rfl hs40
    · intro g41 J42
      refine WL.val (wantF rfl g41) rfl rfl (Run.move rfl rfl) ?_
      refine WL.val (wantF rfl g41) rfl rfl (Run.move rfl rfl) ?_
      refine WL.val (wantF rfl g41) rfl rfl (Run.neqB Try.runUnderlying4 rfl rfl rfl) ?_
      refine WL.val rfl rfl rfl (Run.pickF rfl rfl g41 rfl) ?_
      exact WL.fin J42 hs40 rfl (orF g41) ⟨rfl, rfl, rfl, rfl, rfl, rfl, rfl, rfl, rfl, rfl, rfl, rfl, rfl, rfl, rfl, rfl, rfl, rfl, rfl, rfl, rfl, rfl, rfl, rfl, rfl, rfl, rfl, trivial⟩
    · intro g41 J42
      refine WL.skip (wantNF rfl g41) rfl rfl ?_
      refine WL.skip (wantNF rfl g41) rfl rfl ?_
      refine WL.skip (wantNF rfl g41) rfl rfl ?_
      refine WL.val rfl rfl rfl (Run.pickT rfl rfl g41 rfl) ?_
      exact WL.fin J42 hs40 rfl (orT g41) ⟨rfl, rfl, rfl, rfl, rfl, rfl, rfl, rfl, rfl, rfl, rfl, rfl, rfl, rfl, rfl, rfl, rfl, rfl, rfl, rfl, rfl, rfl, rfl, rfl, rfl, rfl, rfl, trivial⟩
    · intro whs43 hs43
      refine WL.nil ?_
      refine tkN ?_
      refine hK39 _ _ ?_
      clear hK39
      refine WC.condF rfl (by first | (simp; done) | (simp; omega)) ?_
      refine WC.skip ?_
      refine tkN ?_
      refine hK38 _ _ ?_
      clear hK38
      refine WC.seq (fun K45 hK45 => ?_)
      refine WC.seq (fun K46 hK46 => ?_)
      refine WC.regionH2 (fun w' => St _ _ _ w') (fun w' => St _ _ _ w') mixed (St.drew hs43) (St.drew hs43) (fun whs47 hs47 => ?_)
      replace hs47 : St _ _ _ _ := hs47
      refine WH.take 0 rfl (by kernel_rfl) rfl rfl rfl hs47 (fun w_ hs_ => (Run.loadLA (hs_ : St _ _ _ _) 0 Try.isAgg27 Try.sizeOf27 rfl rfl rfl rfl rfl)) ?_
      refine WH.take 1 rfl (by kernel_rfl) rfl rfl rfl hs47 (fun w_ hs_ => (Run.loadLA (hs_ : St _ _ _ _) 1 Try.isAgg24 Try.sizeOf24 rfl rfl rfl rfl rfl)) ?_
      refine WH.all [2] (by kernel_rfl) rfl (WHs.cons (i := 2) rfl ?_ WHs.nil)
      refine WL.call rfl rfl rfl (Run.call Try.call12 rfl rfl rfl) (c_laws_toOp _ _ _ _ _ _ _ _ _ _ _ _ (SlF.st0 f_o_Data hs47) ?_) ?_
      · first | assumption | rfl | omega
      rintro _ whs48 ⟨A49, c50, L151, rfl, hs48, ho52⟩
      replace hs48 := hs47.callF hs48
      refine ⟨_, rfl, ?_⟩
      replace hs48 := St.back [_, _] hs48
      refine WL.nil ⟨(St.drop (St.perm hs48 (L' := L151 ++ _) (perm_front (A := [_, _]) (List.Perm.refl _))) (List.sublist_append_right L151 _)), ?_⟩
      refine WH.all [3] (by kernel_rfl) rfl (WHs.cons (i := 3) rfl ?_ WHs.nil)
      refine WL.call rfl rfl rfl (Run.call Try.call14 rfl rfl rfl) (c_laws_eqOp _ _ _ _ _ _ _ _ _ _ _ _ _ _ _ _ _ _ _ _ _ _ _ (SlF.ofOwn ho28 (fun p_ hp_ => (hs48.own p_ (List.mem_append_right [_, _] (List.mem_append_right _ (List.mem_append_right _ (List.mem_append_left _ hp_))))).1)) (SlF.ofOwn ho52 (fun p_ hp_ => (hs48.own p_ (List.mem_append_right [_, _] (List.mem_append_left _ hp_))).1)) ?_ ?_) ?_
      · first | assumption | rfl | omega
      · first | assumption | rfl | omega
      rintro _ whs53 ⟨rfl, hs53⟩
      replace hs53 := hs48.call0 hs53
      refine ⟨_, rfl, ?_⟩
      refine WL.nil ⟨(St.drop (St.perm hs53 (L' := L151 ++ _) (perm_front (A := [_, _]) (List.Perm.refl _))) (List.sublist_append_right L151 _)), ?_⟩
      refine WH.take 4 rfl (by kernel_rfl) rfl rfl rfl (St.drop (St.perm hs53 (L' := L151 ++ _) (perm_front (A := [_, _]) (List.Perm.refl _))) (List.sublist_append_right L151 _)) (fun w_ hs_ => (Run.not rfl rfl)) ?_
      refine WH.done (by kernel_rfl) ?_
      refine tkN ?_
      refine hK46 _ _ ?_
      clear hK46
      refine WC.condF rfl (by first | (simp; done) | (simp; omega)) ?_
      refine WC.skip ?_
      refine tkN ?_
      refine hK45 _ _ ?_
      clear hK45
      refine WC.seq (fun K55 hK55 => ?_)
      refine WC.region ?_
      refine WL.val rfl rfl rfl (Run.assign rfl rfl) ?_
      refine WL.nil ?_
      refine tkN ?_
      refine hK55 _ _ ?_
      clear hK55
      refine WC.seq (fun K56 hK56 => ?_)
      refine WC.region ?_
      refine WL.val rfl rfl rfl (Run.loadLA hs53 0 Try.isAgg27 Try.sizeOf27 rfl rfl rfl rfl rfl) ?_
      refine WL.val rfl rfl rfl (Run.move rfl rfl) ?_
      refine WL.call rfl rfl rfl (Run.call Try.call26 rfl rfl rfl) (c_laws_markOp _ _ _ _ _ _ _ _ _ _ _ _ ho28 (fun p_ hp_ => (hs53.own p_ (List.mem_append_right [_, _] (List.mem_append_right _ (List.mem_append_right _ (List.mem_append_left _ hp_))))).1) ?_ ?_ ?_) ?_
      · first | assumption | rfl | omega
      · first | assumption | rfl | omega
      · first | assumption | rfl | omega
      rintro _ whs57 ⟨L158, rfl, hs57, ho59⟩
      replace hs57 := St.lend (St.perm hs53 (L' := L127 ++ _) (perm_front (A := [_, _]) (perm_front (A := L151) (perm_front (A := L136) (List.Perm.refl _))))) hs57
      refine ⟨_, rfl, ?_⟩
      replace hs57 := St.back [_, _] hs57
      refine WL.val rfl rfl rfl (Run.assign rfl rfl) ?_
      refine WL.nil ?_
      refine tkN ?_
      refine hK56 _ _ ?_
      clear hK56
      refine WC.seq (fun K60 hK60 => ?_)
      refine WC.seq (fun K61 hK61 => ?_)
      refine WC.region ?_
      refine WL.val rfl rfl rfl (Run.move rfl rfl) ?_
      refine WL.val rfl rfl rfl (Run.lss rfl rfl rfl) ?_
      refine WL.val rfl rfl rfl (Run.move rfl rfl) ?_
      apply WL.meetOr 5 51 56 [(0, _), (1, _), (2, _), (3, _), (4, _), (5, _), (6, _), (7, _), (8, _), (9, _), (14, _), (15, _), (16, _), (17, _), (18, _), (19, _), (20, _), (21, _), (22, _), (23, _), (24, _), (25, _), (26, _), (27, _), (28, _), (29, _), (30, _), (31, _), (40, _), (41, _), (42, _), (43, _), (44, _), (45, _), (46, _), (47, _), (48, _)] rfl hs57
      · intro g62 J63
        refine WL.val (wantF rfl g62) rfl rfl (Run.move rfl rfl) ?_
        refine WL.val (wantF rfl g62) rfl rfl (Run.move rfl rfl) ?_
        refine WL.call (wantF rfl g62) rfl rfl (Run.call Try.call19 rfl rfl rfl) (c_laws_eqByteS _ _ _ _ _ _ _ _ _ (SlF.ofOwn ho37 (fun p_ hp_ => (hs57.own p_ (List.mem_append_right [_, _] (List.mem_append_right _ (List.mem_append_right _ (List.mem_append_left _ hp_))))).1)) (SlF.ofOwn ho22 (fun p_ hp_ => (hs57.own p_ (List.mem_append_right [_, _] (List.mem_append_right _ (List.mem_append_right _ (List.mem_append_right _ (List.mem_append_left _ hp_)))))).1)) ?_ ?_) ?_
        · first | assumption | rfl | omega
        · first | assumption | rfl | omega
        rintro _ whs64 ⟨rfl, hs64⟩
        replace hs64 := hs57.call0 hs64
        refine ⟨_, rfl, ?_⟩
        refine WL.val (wantF rfl g62) rfl rfl (Run.not rfl rfl) ?_
        refine WL.val rfl rfl rfl (Run.pickF rfl rfl g62 rfl) ?_
        exact WL.fin J63 hs64 rfl (orF g62) ⟨rfl, rfl, rfl, rfl, rfl, rfl, rfl, rfl, rfl, rfl, rfl, rfl, rfl, rfl, rfl, rfl, rfl, rfl, rfl, rfl, rfl, rfl, rfl, rfl, rfl, rfl, rfl, rfl, rfl, rfl, rfl, rfl, rfl, rfl, rfl, rfl, rfl, trivial⟩
      · intro g62 J63
        refine WL.skip (wantNF rfl g62) rfl rfl ?_
        refine WL.skip (wantNF rfl g62) rfl rfl ?_
        refine WL.skip (wantNF rfl g62) rfl rfl ?_
        refine WL.skip (wantNF rfl g62) rfl rfl ?_
        refine WL.val rfl rfl rfl (Run.pickT rfl rfl g62 rfl) ?_
        exact WL.fin J63 hs57 rfl (orT g62) ⟨rfl, rfl, rfl, rfl, rfl, rfl, rfl, rfl, rfl, rfl, rfl, rfl, rfl, rfl, rfl, rfl, rfl, rfl, rfl, rfl, rfl, rfl, rfl, rfl, rfl, rfl, rfl, rfl, rfl, rfl, rfl, rfl, rfl, rfl, rfl, rfl, rfl, trivial⟩
      · intro whs65 hs65
        refine WL.val rfl rfl rfl (Run.move rfl rfl) ?_
        apply WL.meetOr 4 57 61 [(0, _), (1, _), (2, _), (3, _), (4, _), (5, _), (6, _), (7, _), (8, _), (9, _), (14, _), (15, _), (16, _), (17, _), (18, _), (19, _), (20, _), (21, _), (22, _), (23, _), (24, _), (25, _), (26, _), (27, _), (28, _), (29, _), (30, _), (31, _), (40, _), (41, _), (42, _), (43, _), (44, _), (45, _), (46, _), (47, _), (48, _)] rfl hs65
        · intro g66 J67
          refine WL.val (wantF rfl g66) rfl rfl (Run.move rfl rfl) ?_
          refine WL.val (wantF rfl g66) rfl rfl (Run.move rfl rfl) ?_
          refine WL.val (wantF rfl g66) rfl rfl (Run.neqB Try.runUnderlying4 rfl rfl rfl) ?_
          refine WL.val rfl rfl rfl (Run.pickF rfl rfl g66 rfl) ?_
          exact WL.fin J67 hs65 rfl (orF g66) ⟨rfl, rfl, rfl, rfl, rfl, rfl, rfl, rfl, rfl, rfl, rfl, rfl, rfl, rfl, rfl, rfl, rfl, rfl, rfl, rfl, rfl, rfl, rfl, rfl, rfl, rfl, rfl, rfl, rfl, rfl, rfl, rfl, rfl, rfl, rfl, rfl, rfl, trivial⟩
        · intro g66 J67
          refine WL.skip (wantNF rfl g66) rfl rfl ?_
          refine WL.skip (wantNF rfl g66) rfl rfl ?_
          refine WL.skip (wantNF rfl g66) rfl rfl ?_
          refine WL.val rfl rfl rfl (Run.pickT rfl rfl g66 rfl) ?_
          exact WL.fin J67 hs65 rfl (orT g66) ⟨rfl, rfl, rfl, rfl, rfl, rfl, rfl, rfl, rfl, rfl, rfl, rfl, rfl, rfl, rfl, rfl, rfl, rfl, rfl, rfl, rfl, rfl, rfl, rfl, rfl, rfl, rfl, rfl, rfl, rfl, rfl, rfl, rfl, rfl, rfl, rfl, rfl, trivial⟩
        · intro whs68 hs68
          refine WL.nil ?_
          refine tkN ?_
          refine hK61 _ _ ?_
          clear hK61
          refine WC.condF rfl (by first | (simp; done) | (simp; omega)) ?_
          refine WC.skip ?_
          refine tkN ?_
          refine hK60 _ _ ?_
          clear hK60
          refine WC.seq (fun K70 hK70 => ?_)
          refine WC.region ?_
          refine WL.val rfl rfl rfl (Run.assign rfl rfl) ?_
          refine WL.nil ?_
          refine tkN ?_
          refine hK70 _ _ ?_
          clear hK70
          refine WC.seq (fun K71 hK71 => ?_)
          refine WC.region ?_
          refine WL.val rfl rfl rfl (Run.move rfl rfl) ?_
          refine WL.val rfl rfl rfl (Run.move rfl rfl) ?_
          refine WL.call rfl rfl rfl (Run.call Try.call22 rfl rfl rfl) (c_laws_markByteS _ _ _ _ _ ho37 (fun p_ hp_ => (hs68.own p_ (List.mem_append_right [_, _] (List.mem_append_right _ (List.mem_append_right _ (List.mem_append_left _ hp_))))).1) ?_ ?_ ?_) ?_
          · first | assumption | rfl | omega
          · first | assumption | rfl | omega
          · first | assumption | rfl | omega
          rintro _ whs72 ⟨L173, rfl, hs72, ho74⟩
          replace hs72 := St.lend (St.perm hs68 (L' := L136 ++ _) (perm_front (A := [_, _]) (perm_front (A := L158) (perm_front (A := L151) (List.Perm.refl _))))) hs72
          refine ⟨_, rfl, ?_⟩
          replace hs72 := St.back [_, _] hs72
          refine WL.val rfl rfl rfl (Run.assign rfl rfl) ?_
          refine WL.nil ?_
          refine tkN ?_
          refine hK71 _ _ ?_
          clear hK71
          refine WC.seq (fun K75 hK75 => ?_)
          refine WC.region ?_
          refine WL.val rfl rfl rfl (Run.assign rfl rfl) ?_
          refine WL.nil ?_
          refine tkN ?_
          refine hK75 _ _ ?_
          clear hK75
          refine WC.seq (fun K76 hK76 => ?_)
          refine WC.region ?_
          refine WL.val rfl rfl rfl (Run.move rfl rfl) ?_
          refine WL.val rfl rfl rfl (Run.move rfl rfl) ?_
          refine WL.call rfl rfl rfl (Run.call Try.call23 rfl rfl rfl) (c_laws_heldByteS _ _ _ _ _ _ (SlF.ofOwn ho74 (fun p_ hp_ => (hs72.own p_ (List.mem_append_right [_, _] (List.mem_append_left _ hp_))).1)) ?_ ?_ ?_ ?_) ?_
          · first | assumption | rfl | omega
          · first | assumption | rfl | omega
          · first | assumption | rfl | omega
          · first | assumption | rfl | omega
          rintro _ whs77 ⟨rfl, hs77⟩
          replace hs77 := hs72.call0 hs77
          refine ⟨_, rfl, ?_⟩
          refine WL.val rfl rfl rfl (Run.assign rfl rfl) ?_
          refine WL.nil ?_
          refine tkN ?_
          refine hK76 _ _ ?_
          clear hK76
          refine WC.seq (fun K78 hK78 => ?_)
          refine WC.seq (fun K79 hK79 => ?_)
          refine WC.region ?_
          refine WL.val rfl rfl rfl (Run.move rfl rfl) ?_
          refine WL.val rfl rfl rfl (Run.lss rfl rfl rfl) ?_
          refine WL.nil ?_
          refine tkN ?_
          refine hK79 _ _ ?_
          clear hK79
          refine WC.condF rfl (by first | (simp; done) | (simp; omega)) ?_
          refine WC.skip ?_
          refine tkN ?_
          refine hK78 _ _ ?_
          clear hK78
          refine WC.seq (fun K81 hK81 => ?_)
          refine WC.seq (fun K82 hK82 => ?_)
          refine WC.region ?_
          refine WL.val rfl rfl rfl (Run.move rfl rfl) ?_
          refine WL.val rfl rfl rfl (Run.move rfl rfl) ?_
          refine WL.val rfl rfl rfl (Run.neq rfl rfl rfl) ?_
          refine WL.nil ?_
          refine tkN ?_
          refine hK82 _ _ ?_
          clear hK82
          refine WC.condF rfl (by first | (simp; done) | (simp; omega)) ?_
          refine WC.skip ?_
          refine tkN ?_
          refine hK81 _ _ ?_
          clear hK81
          refine WC.seq (fun K84 hK84 => ?_)
          refine WC.region ?_
          refine WL.val rfl rfl rfl (Run.loadLA hs77 1 Try.isAgg24 Try.sizeOf24 rfl rfl rfl rfl rfl) ?_
          refine WL.call rfl rfl rfl (Run.call Try.call12 rfl rfl rfl) (c_laws_toOp _ _ _ _ _ _ _ _ _ _ _ _ (SlF.st0 f_o_Data hs77) ?_) ?_
          · first | assumption | rfl | omega
          rintro _ whs85 ⟨A86, c87, L188, rfl, hs85, ho89⟩
          replace hs85 := hs77.callF hs85
          refine ⟨_, rfl, ?_⟩
          replace hs85 := St.back [_, _] hs85
          refine WL.call rfl rfl rfl (Run.call Try.call25 rfl rfl rfl) (c_impl_OpBytes _ _ _ _ _ _ _ _ _ _ _ _ (SlF.ofOwn ho89 (fun p_ hp_ => (hs85.own p_ (List.mem_append_right [_, _] (List.mem_append_left _ hp_))).1)) ?_) ?_
          · first | assumption | rfl | omega
          rintro _ whs90 ⟨A91, c92, L193, rfl, hs90, ho94⟩
          replace hs90 := hs85.callF hs90
          refine ⟨_, rfl, ?_⟩
          replace hs90 := St.back [_, _] hs90
          refine WL.val rfl rfl rfl (Run.move rfl rfl) ?_
          refine WL.val rfl rfl rfl (Run.extract rfl rfl rfl) ?_
          refine WL.val rfl rfl rfl (Run.extract rfl rfl rfl) ?_
          refine WL.val rfl rfl rfl (Run.assign rfl rfl) ?_
          refine WL.val rfl rfl rfl (Run.assign rfl rfl) ?_
          refine WL.nil ?_
          refine tkN ?_
          refine hK84 _ _ ?_
          clear hK84
          refine WC.seq (fun K95 hK95 => ?_)
          refine WC.seq (fun K96 hK96 => ?_)
          refine WC.region ?_
          refine WL.val rfl rfl rfl (Run.move rfl rfl) ?_
          refine WL.val rfl rfl rfl (Run.move rfl rfl) ?_
          refine WL.call rfl rfl rfl (Run.call Try.call19 rfl rfl rfl) (c_laws_eqByteS _ _ _ _ _ _ _ _ _ (SlF.ofOwn ho94 (fun p_ hp_ => (hs90.own p_ (List.mem_append_right [_, _] (List.mem_append_left _ hp_))).1)) (SlF.ofOwn ho22 (fun p_ hp_ => (hs90.own p_ (List.mem_append_right [_, _] (List.mem_append_right _ (List.mem_append_right _ (List.mem_append_right _ (List.mem_append_right _ (List.mem_append_right _ (List.mem_append_left _ hp_)))))))).1)) ?_ ?_) ?_
          · first | assumption | rfl | omega
          · first | assumption | rfl | omega
          rintro _ whs97 ⟨rfl, hs97⟩
          replace hs97 := hs90.call0 hs97
          refine ⟨_, rfl, ?_⟩
          refine WL.val rfl rfl rfl (Run.not rfl rfl) ?_
          refine WL.val rfl rfl rfl (Run.move rfl rfl) ?_
          apply WL.meetOr 4 83 87 [(0, _), (1, _), (2, _), (3, _), (4, _), (5, _), (6, _), (7, _), (8, _), (9, _), (10, _), (11, _), (12, _), (13, _), (14, _), (15, _), (16, _), (17, _), (18, _), (19, _), (20, _), (21, _), (22, _), (23, _), (24, _), (25, _), (26, _), (27, _), (28, _), (29, _), (30, _), (31, _), (40, _), (41, _), (42, _), (43, _), (44, _), (45, _), (46, _), (47, _), (48, _), (61, _), (62, _), (63, _), (64, _), (65, _), (66, _), (67, _), (68, _), (69, _), (70, _), (71, _), (72, _), (73, _), (74, _), (75, _), (76, _), (77, _), (78, _)] rfl hs97
          · intro g98 J99
            refine WL.val (wantF rfl g98) rfl rfl (Run.move rfl rfl) ?_
            refine WL.val (wantF rfl g98) rfl rfl (Run.move rfl rfl) ?_
            refine WL.val (wantF rfl g98) rfl rfl (Run.neqB Try.runUnderlying4 rfl rfl rfl) ?_
            refine WL.val rfl rfl rfl (Run.pickF rfl rfl g98 rfl) ?_
            exact WL.fin J99 hs97 rfl (orF g98) ⟨rfl, rfl, rfl, rfl, rfl, rfl, rfl, rfl, rfl, rfl, rfl, rfl, rfl, rfl, rfl, rfl, rfl, rfl, rfl, rfl, rfl, rfl, rfl, rfl, rfl, rfl, rfl, rfl, rfl, rfl, rfl, rfl, rfl, rfl, rfl, rfl, rfl, rfl, rfl, rfl, rfl, rfl, rfl, rfl, rfl, rfl, rfl, rfl, rfl, rfl, rfl, rfl, rfl, rfl, rfl, rfl, rfl, rfl, rfl, trivial⟩
          · intro g98 J99
            refine WL.skip (wantNF rfl g98) rfl rfl ?_
            refine WL.skip (wantNF rfl g98) rfl rfl ?_
            refine WL.skip (wantNF rfl g98) rfl rfl ?_
            refine WL.val rfl rfl rfl (Run.pickT rfl rfl g98 rfl) ?_
            exact WL.fin J99 hs97 rfl (orT g98) ⟨rfl, rfl, rfl, rfl, rfl, rfl, rfl, rfl, rfl, rfl, rfl, rfl, rfl, rfl, rfl, rfl, rfl, rfl, rfl, rfl, rfl, rfl, rfl, rfl, rfl, rfl, rfl, rfl, rfl, rfl, rfl, rfl, rfl, rfl, rfl, rfl, rfl, rfl, rfl, rfl, rfl, rfl, rfl, rfl, rfl, rfl, rfl, rfl, rfl, rfl, rfl, rfl, rfl, rfl, rfl, rfl, rfl, rfl, rfl, trivial⟩
          · intro whs100 hs100
            refine WL.nil ?_
            refine tkN ?_
            refine hK96 _ _ ?_
            clear hK96
            refine WC.condF rfl (by first | (simp; done) | (simp; omega)) ?_
            refine WC.skip ?_
            refine tkN ?_
            refine hK95 _ _ ?_
            clear hK95
            refine WC.seq (fun K102 hK102 => ?_)
            refine WC.region ?_
            refine WL.val rfl rfl rfl (Run.assign rfl rfl) ?_
            refine WL.nil ?_
            refine tkN ?_
            refine hK102 _ _ ?_
            clear hK102
            refine WC.seq (fun K103 hK103 => ?_)
            refine WC.region ?_
            refine WL.val rfl rfl rfl (Run.move rfl rfl) ?_
            refine WL.val rfl rfl rfl (Run.move rfl rfl) ?_
            refine WL.call rfl rfl rfl (Run.call Try.call23 rfl rfl rfl) (c_laws_heldByteS _ _ _ _ _ _ (SlF.ofOwn ho74 (fun p_ hp_ => (hs100.own p_ (List.mem_append_right [_, _] (List.mem_append_right _ (List.mem_append_right _ (List.mem_append_left _ hp_))))).1)) ?_ ?_ ?_ ?_) ?_
            · first | assumption | rfl | omega
            · first | assumption | rfl | omega
            · first | assumption | rfl | omega
            · first | assumption | rfl | omega
            rintro _ whs104 ⟨rfl, hs104⟩
            replace hs104 := hs100.call0 hs104
            refine ⟨_, rfl, ?_⟩
            refine WL.val rfl rfl rfl (Run.assign rfl rfl) ?_
            refine WL.nil ?_
            refine tkN ?_
            refine hK103 _ _ ?_
            clear hK103
            refine WC.seq (fun K105 hK105 => ?_)
            refine WC.seq (fun K106 hK106 => ?_)
            refine WC.region ?_
            refine WL.val rfl rfl rfl (Run.move rfl rfl) ?_
            refine WL.val rfl rfl rfl (Run.lss rfl rfl rfl) ?_
            refine WL.nil ?_
            refine tkN ?_
            refine hK106 _ _ ?_
            clear hK106
            refine WC.condF rfl (by first | (simp; done) | (simp; omega)) ?_
            refine WC.skip ?_
            refine tkN ?_
            refine hK105 _ _ ?_
            clear hK105
            refine WC.seq (fun K108 hK108 => ?_)
            refine WC.seq (fun K109 hK109 => ?_)
            refine WC.region ?_
            refine WL.val rfl rfl rfl (Run.move rfl rfl) ?_
            refine WL.val rfl rfl rfl (Run.move rfl rfl) ?_
            refine WL.val rfl rfl rfl (Run.neq rfl rfl rfl) ?_
            refine WL.nil ?_
            refine tkN ?_
            refine hK109 _ _ ?_
            clear hK109
            refine WC.condF rfl (by first | (simp; done) | (simp; omega)) ?_
            refine WC.skip ?_
            refine tkN ?_
            refine hK108 _ _ ?_
            clear hK108
            refine WC.seq (fun K111 hK111 => ?_)
            refine WC.region ?_
            refine WL.val rfl rfl rfl (Run.assign rfl rfl) ?_
            refine WL.nil ?_
            refine tkN ?_
            refine hK111 _ _ ?_
            clear hK111
            refine WC.ret ?_
            refine retV1 rfl (resV.tmp rfl) ?_
            refine ⟨congrArg Ending.returned ?_, hs104.nil⟩
            rfl
end Go.Proofs.Ytpiimkfonlijdaa
