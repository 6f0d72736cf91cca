/- Walks of Go functions, printed by a program (wip/gen). -/
import Derived.Test.YtpiimkfonlijdaaC4
import Derived.Test.YtpiimkfonlijdaaC6
import Derived.Test.YtpiimkfonlijdaaC7
namespace Go.Proofs.Ytpiimkfonlijdaa
open Go Go.RowKit
set_option linter.unusedVariables false
set_option linter.unusedSimpArgs false
set_option maxHeartbeats 1000000 in
theorem c_impl_OpBytes (o_Kind : Int) (o_A : Int) (o_B : Int) (o_C : Int) (o_Name : ByteArray) (o_Text : ByteArray) (o_Dir : ByteArray) (A_o_Data : Option Addr) (n_o_Data c_o_Data : Nat) (o_Data : List UInt8) (w : World) (f_o_Data : SlF encB w A_o_Data n_o_Data o_Data) (hz : o_Name.size ≤ 1099511627776) :
    Calls Try.prog 25 #[.agg #[i64 o_Kind, i64 o_A, i64 o_B, i64 o_C, .string o_Name, .string o_Text, .string o_Dir, .slice A_o_Data n_o_Data c_o_Data]] w fun e w' => ∃ A c L1, e = .returned (.tuple #[.slice A (opB o_Kind o_A o_B o_C o_Name o_Text o_Dir o_Data).length c, .bool (opOk o_Kind o_A o_B o_C o_Name o_Text o_Dir n_o_Data)]) ∧ St w [] L1 w' ∧ OwnF encB 5 (.slice A (opB o_Kind o_A o_B o_C o_Name o_Text o_Dir o_Data).length c) (opB o_Kind o_A o_B o_C o_Name o_Text o_Dir o_Data) L1 := by
  have hlen := f_o_Data.len
  refine enter (vs := [.agg #[i64 o_Kind, i64 o_A, i64 o_B, i64 o_C, .string o_Name, .string o_Text, .string o_Dir, .slice A_o_Data n_o_Data c_o_Data]]) 40 Try.func25 rfl Try.ntmps25 rfl rfl ?_
  have hs1 := St.init w
  refine WC.seq (fun K2 hK2 => ?_)
  refine WC.region ?_
  refine WL.box hs1 rfl rfl rfl rfl rfl rfl (fun b3 whs4 hs4 => ?_)
  refine WL.val rfl rfl rfl (Run.assign rfl rfl) ?_
  refine WL.val rfl rfl rfl (Run.assign rfl rfl) ?_
  refine WL.nil ?_
  refine tkN ?_
  refine hK2 _ _ ?_
  clear hK2
  refine WC.seq (fun K5 hK5 => ?_)
  refine WC.seq (fun K6 hK6 => ?_)
  refine WC.region ?_
  refine WL.val rfl rfl rfl (Run.loadLA hs4 0 Try.isAgg27 Try.sizeOf27 rfl rfl rfl rfl rfl) ?_
  refine WL.call rfl rfl rfl (Run.call Try.call13 rfl rfl rfl) (c_impl_OpOk _ _ _ _ _ _ _ _ _ _ _ ?_) ?_
  · omega
  rintro _ whs7 ⟨rfl, hs7⟩
  replace hs7 := hs4.call0 hs7
  refine ⟨_, rfl, ?_⟩
  refine WL.val rfl rfl rfl (Run.not rfl rfl) ?_
  refine WL.nil ?_
  refine tkN ?_
  refine hK6 _ _ ?_
  clear hK6
  refine WC.cond rfl (fun h8 => ?_) (fun h8 => ?_)
  · have qh8 := h8
    try simp only [decide_eq_true_eq, decide_eq_false_iff_not, Bool.not_eq_true', Bool.not_eq_false', Bool.and_eq_true, Bool.or_eq_false_iff, within_iff, within_not] at qh8
    have hok : opOk o_Kind o_A o_B o_C o_Name o_Text o_Dir n_o_Data = false := by simpa using qh8
    refine WC.seq (fun K9 hK9 => ?_)
    refine WC.region ?_
    refine WL.val rfl rfl rfl (Run.assign rfl rfl) ?_
    refine WL.val rfl rfl rfl (Run.assign rfl rfl) ?_
    refine WL.nil ?_
    refine tkN ?_
    refine hK9 _ _ ?_
    clear hK9
    refine WC.ret ?_
    refine tkR ?_
    clear hK5
    refine retV2 rfl (resV.tmp rfl) (resV.tmp rfl) ?_
    rw [hok]
    have hx_ := OwnF.eqOf (xs := opB o_Kind o_A o_B o_C o_Name o_Text o_Dir o_Data) (OwnF.nil encB 5) (by simp [opB, hlen, hok])
    rw [← hx_]
    exact ⟨_, _, _, rfl, hs7.nil, (OwnF.nil encB 5)⟩
  · have qh8 := h8
    try simp only [decide_eq_true_eq, decide_eq_false_iff_not, Bool.not_eq_true', Bool.not_eq_false', Bool.and_eq_true, Bool.or_eq_false_iff, within_iff, within_not] at qh8
    have hok : opOk o_Kind o_A o_B o_C o_Name o_Text o_Dir n_o_Data = true := by simpa using qh8
    have hbd := opOk_bounds hok
    have hm : ∀ x, x ∈ ([o_Name, o_Text, o_Dir, ⟨o_Data.toArray⟩] : List ByteArray) → x.size ≤ 2000 := by
      intro x hx
      simp at hx
      have hz : (ByteArray.mk o_Data.toArray).size = o_Data.length := by simp [ByteArray.size]
      rcases hx with rfl | rfl | rfl | rfl <;> omega
    have hnl := numsL_len (l := [o_Kind, o_A, o_B, o_C]) (by intro x hx; simp at hx; omega)
    simp only [List.length_cons, List.length_nil] at hnl
    refine WC.skip ?_
    refine tkN ?_
    refine hK5 _ _ ?_
    clear hK5
    refine WC.seq (fun K10 hK10 => ?_)
    refine WC.region ?_
    refine WL.val rfl rfl rfl (Run.field Try.runUnderlying27 rfl rfl rfl Try.sizeOf3 rfl) ?_
    refine WL.val rfl rfl rfl (Run.loadL hs7 0 Try.isAgg3 rfl rfl rfl rfl) ?_
    refine WL.val rfl rfl rfl (Run.field Try.runUnderlying27 rfl rfl rfl Try.sizeOf3 rfl) ?_
    refine WL.val rfl rfl rfl (Run.loadL hs7 0 Try.isAgg3 rfl rfl rfl rfl) ?_
    refine WL.val rfl rfl rfl (Run.field Try.runUnderlying27 rfl rfl rfl Try.sizeOf3 rfl) ?_
    refine WL.val rfl rfl rfl (Run.loadL hs7 0 Try.isAgg3 rfl rfl rfl rfl) ?_
    refine WL.val rfl rfl rfl (Run.field Try.runUnderlying27 rfl rfl rfl Try.sizeOf3 rfl) ?_
    refine WL.val rfl rfl rfl (Run.loadL hs7 0 Try.isAgg3 rfl rfl rfl rfl) ?_
    refine WL.buildF (F := encI) hs7 ([o_Kind, o_A, o_B, o_C]) Try.runUnderlying51 Try.sizeOf3 Try.zeroValue3 rfl rfl rfl rfl rfl rfl rfl rfl rfl rfl rfl rfl (fun A14 c15 L11 whs12 hs12 ho13 => ?_)
    replace hs12 := St.back [_] hs12
    refine WL.call rfl rfl rfl (Run.call Try.call63 rfl rfl rfl) (c_impl_putVars _ _ _ _ _ _ _ _ (OwnF.nil _ _) (by simp) (SlF.ofOwn ho13 (fun p_ hp_ => (hs12.own p_ (List.mem_append_right [_] (List.mem_append_left _ hp_))).1)) sep_nil ?_ ?_) ?_
    · intro x hx; simp at hx; omega
    · simp
    rintro _ whs16 ⟨A17, c18, L119, rfl, hs16, ho20⟩
    replace hs16 := St.lend (A := []) hs12 hs16
    refine ⟨_, rfl, ?_⟩
    replace hs16 := St.back [_] hs16
    refine WL.val rfl rfl rfl (Run.assign rfl rfl) ?_
    refine WL.nil ?_
    refine tkN ?_
    refine hK10 _ _ ?_
    clear hK10
    refine WC.seq (fun K21 hK21 => ?_)
    refine WC.seq (fun K22 hK22 => ?_)
    refine WC.region ?_
    refine WL.val rfl rfl rfl (Run.field Try.runUnderlying27 rfl rfl rfl Try.sizeOf9 rfl) ?_
    refine WL.val rfl rfl rfl (Run.loadL hs16 0 Try.isAgg9 rfl rfl rfl rfl) ?_
    refine WL.val rfl rfl rfl (Run.field Try.runUnderlying27 rfl rfl rfl Try.sizeOf9 rfl) ?_
    refine WL.val rfl rfl rfl (Run.loadL hs16 0 Try.isAgg9 rfl rfl rfl rfl) ?_
    refine WL.val rfl rfl rfl (Run.field Try.runUnderlying27 rfl rfl rfl Try.sizeOf9 rfl) ?_
    refine WL.val rfl rfl rfl (Run.loadL hs16 0 Try.isAgg9 rfl rfl rfl rfl) ?_
    refine WL.val rfl rfl rfl (Run.field Try.runUnderlying27 rfl rfl rfl Try.sizeOf22 rfl) ?_
    refine WL.val rfl rfl rfl (Run.loadL hs16 0 Try.isAgg22 rfl rfl rfl rfl) ?_
    refine WL.val rfl rfl rfl (Run.strOf (SlF.st0 f_o_Data hs16) Try.underlying22 Try.underlying5 Try.underlying9 rfl rfl) ?_
    refine WL.buildF (F := encS) hs16 ([o_Name, o_Text, o_Dir, ⟨o_Data.toArray⟩]) Try.runUnderlying93 Try.sizeOf9 Try.zeroValue9 rfl rfl rfl rfl rfl rfl rfl rfl rfl rfl rfl rfl (fun A26 c27 L23 whs24 hs24 ho25 => ?_)
    replace hs24 := St.back [_] hs24
    refine WL.val rfl rfl rfl (Run.lenSl Try.runUnderlying93 rfl rfl) ?_
    refine WL.val rfl rfl rfl (Run.move rfl rfl) ?_
    refine WL.nil ?_
    refine tkN ?_
    refine hK22 _ _ ?_
    clear hK22
    refine WC.block ?_
    refine WC.loopO [(0, _), (1, _), (2, _), (3, _), (7, _), (8, _), (9, _), (10, _), (11, _), (12, _), (13, _), (14, _), (15, _), (16, _), (17, _), (18, _), (19, _), (20, _), (21, _), (22, _), (23, _), (24, _), (25, _), (26, _), (27, _), (28, _), (29, _), (30, _)] ⟨rfl, rfl, rfl, rfl, rfl, rfl, rfl, rfl, rfl, rfl, rfl, rfl, rfl, rfl, rfl, rfl, rfl, rfl, rfl, rfl, rfl, rfl, rfl, rfl, rfl, rfl, rfl, rfl, trivial⟩ (St.perm hs24 (L' := L119 ++ _) (perm_front (A := [_]) (perm_front (A := L23) (List.Perm.refl _)))) (fun k_ f L_ => ∃ (zs : List UInt8) (i : Nat) (A28 : Option Addr) (c29 : Nat), k_ = 4 - i ∧ (i ≤ 4) ∧ (zs = numsL [o_Kind, o_A, o_B, o_C] ++ textsL (List.take i [o_Name, o_Text, o_Dir, ⟨o_Data.toArray⟩])) ∧ OwnF encB 5 (.slice A28 (zs.length) c29) (zs) L_ ∧ Sub [(4, .slice A28 (zs.length) c29), (31, .int .i64 i)] f) (4) ?_ ?_
    · refine ⟨_, 0, _, _, rfl, ?_, ?_, ho20, ⟨rfl, rfl, trivial⟩⟩
      · exact Nat.zero_le _
      · simp [textsL]
    · clear hs24
      rintro _ f w L30 ⟨zs, i, A28, c29, rfl, p0, p1, ho31, hG⟩ hF hs32
      refine WC.sub _ (hG.app hF) ?_
      clear hG hF
      replace hs32 := St.back [_] hs32
      have hbl := congrArg List.length p1
      have hb5 := textsL_len (m := 2000) (l := List.take i [o_Name, o_Text, o_Dir, ⟨o_Data.toArray⟩]) (fun x hx => hm x (List.mem_of_mem_take hx)) (by omega)
      simp only [List.length_append, List.length_take, List.length_cons, List.length_nil] at hbl hb5
      refine WC.seq (fun K33 hK33 => ?_)
      refine WC.region ?_
      refine WL.val rfl rfl rfl (Run.lss rfl rfl rfl) ?_
      refine WL.nil ?_
      refine tkN ?_
      refine hK33 _ _ ?_
      clear hK33
      refine WC.seq (fun K34 hK34 => ?_)
      refine WC.cond rfl (fun h35 => ?_) (fun h35 => ?_)
      · have qh35 := h35
        try simp only [decide_eq_true_eq, decide_eq_false_iff_not, Bool.not_eq_true', Bool.not_eq_false', Bool.and_eq_true, Bool.or_eq_false_iff, within_iff, within_not] at qh35
        simp only [List.length_cons, List.length_nil] at qh35
        have hi_ := hm (gat encS [o_Name, o_Text, o_Dir, ⟨o_Data.toArray⟩] i) (gat_mem (by simp; omega))
        refine WC.skip ?_
        refine tkN ?_
        refine hK34 _ _ ?_
        clear hK34
        refine WC.seq (fun K36 hK36 => ?_)
        refine WC.block ?_
        refine WC.seq (fun K37 hK37 => ?_)
        refine WC.region ?_
        refine WL.val rfl rfl rfl (Run.idx Try.runUnderlying93 Try.sizeOf9 rfl rfl rfl ?_ ?_ ?_) ?_
        · exact SlF.some_ (SlF.ofOwn ho25 (fun p_ hp_ => (hs32.own p_ (List.mem_append_right [_] (List.mem_append_right _ (List.mem_append_left _ hp_)))).1))
        · first | omega | (simp only [List.length_cons, List.length_nil]; omega)
        · first | omega | (simp only [List.length_cons, List.length_nil]; omega)
        refine WL.val rfl rfl rfl (Run.load Try.isAgg9 rfl rfl (SlF.one1 (SlF.ofOwn ho25 (fun p_ hp_ => (hs32.own p_ (List.mem_append_right [_] (List.mem_append_right _ (List.mem_append_left _ hp_)))).1)) ?_ rfl)) ?_
        · first | omega | (simp only [List.length_cons, List.length_nil]; omega)
        refine WL.val rfl rfl rfl (Run.assign rfl rfl) ?_
        refine WL.nil ?_
        refine tkN ?_
        refine hK37 _ _ ?_
        clear hK37
        refine WC.region ?_
        refine WL.val rfl rfl rfl (Run.move rfl rfl) ?_
        refine WL.val rfl rfl rfl (Run.move rfl rfl) ?_
        refine WL.call rfl rfl rfl (Run.call Try.call64 rfl rfl rfl) (c_impl_putText _ _ _ _ _ ho31 (fun p_ hp_ => (hs32.own p_ (List.mem_append_right [_] (List.mem_append_left _ hp_))).1) ?_ ?_) ?_
        · simp only [Int.toNat_natCast]; omega
        · omega
        rintro _ whs38 ⟨A39, c40, L141, rfl, hs38, ho42⟩
        replace hs38 := St.lend (St.perm hs32 (L' := L30 ++ _) (perm_front (A := [_]) (List.Perm.refl _))) hs38
        refine ⟨_, rfl, ?_⟩
        replace hs38 := St.back [_] hs38
        refine WL.val rfl rfl rfl (Run.assign rfl rfl) ?_
        refine WL.nil ?_
        refine ibN ?_
        refine tkN ?_
        refine hK36 _ _ ?_
        clear hK36
        refine WC.region ?_
        refine WL.val rfl rfl rfl (Run.add rfl rfl rfl ?_) ?_
        · constructor <;> omega
        refine WL.val rfl rfl rfl (Run.move rfl rfl) ?_
        refine WL.nil ?_
        refine tkN ?_
        refine ⟨⟨rfl, rfl, rfl, rfl, rfl, rfl, rfl, rfl, rfl, rfl, rfl, rfl, rfl, rfl, rfl, rfl, rfl, rfl, rfl, rfl, rfl, rfl, rfl, rfl, rfl, rfl, rfl, rfl, trivial⟩, _, (St.perm hs38 (L' := L141 ++ _) (perm_front (A := [_]) (List.Perm.refl _))), _, ?_, _, i + 1, _, _, rfl, ?_, ?_, ho42, ⟨rfl, rfl, trivial⟩⟩
        · omega
        · omega
        · rw [p1, textsL_take (by simp; omega), List.append_assoc]; rfl
      · have qh35 := h35
        try simp only [decide_eq_true_eq, decide_eq_false_iff_not, Bool.not_eq_true', Bool.not_eq_false', Bool.and_eq_true, Bool.or_eq_false_iff, within_iff, within_not] at qh35
        simp only [List.length_cons, List.length_nil] at qh35
        refine WC.exit ?_
        refine tkE ?_
        refine tkE ?_
        refine ibE ?_
        refine tkN ?_
        refine hK21 _ _ ?_
        clear hK21
        refine WC.seq (fun K43 hK43 => ?_)
        refine WC.region ?_
        refine WL.val rfl rfl rfl (Run.move rfl rfl) ?_
        refine WL.val rfl rfl rfl (Run.assign rfl rfl) ?_
        refine WL.val rfl rfl rfl (Run.assign rfl rfl) ?_
        refine WL.nil ?_
        refine tkN ?_
        refine hK43 _ _ ?_
        clear hK43
        refine WC.ret ?_
        refine retV2 rfl (resV.tmp rfl) (resV.tmp rfl) ?_
        rw [hok]
        have hx_ := OwnF.eqOf (xs := opB o_Kind o_A o_B o_C o_Name o_Text o_Dir o_Data) ho31 (by simp only [opB, hlen, hok, if_true, p1]; rw [List.take_of_length_le (by simp; omega)])
        rw [← hx_]
        first | exact ⟨_, _, _, rfl, (St.keep1 (St.perm hs32 (L' := L30 ++ _) (perm_front (A := [_]) (List.Perm.refl _)))), ho31⟩ | exact ⟨A28, c29, _, by rw [OwnF.len_ ho31], (St.keep1 (St.perm hs32 (L' := L30 ++ _) (perm_front (A := [_]) (List.Perm.refl _)))), by rw [OwnF.len_ ho31]; exact ho31⟩
set_option maxHeartbeats 1000000 in
theorem c_spec_OpBytes (o_Kind : Int) (o_A : Int) (o_B : Int) (o_C : Int) (o_Name : ByteArray) (o_Text : ByteArray) (o_Dir : ByteArray) (A_o_Data : Option Addr) (n_o_Data c_o_Data : Nat) (o_Data : List UInt8) (w : World) (f_o_Data : SlF encB w A_o_Data n_o_Data o_Data) (hz : o_Name.size ≤ 1099511627776) :
    Calls Try.prog 24 #[.agg #[i64 o_Kind, i64 o_A, i64 o_B, i64 o_C, .string o_Name, .string o_Text, .string o_Dir, .slice A_o_Data n_o_Data c_o_Data]] w fun e w' => ∃ A c L1, e = .returned (.tuple #[.slice A (opB o_Kind o_A o_B o_C o_Name o_Text o_Dir o_Data).length c, .bool (opOk o_Kind o_A o_B o_C o_Name o_Text o_Dir n_o_Data)]) ∧ St w [] L1 w' ∧ OwnF encB 5 (.slice A (opB o_Kind o_A o_B o_C o_Name o_Text o_Dir o_Data).length c) (opB o_Kind o_A o_B o_C o_Name o_Text o_Dir o_Data) L1 := by
  have hlen := f_o_Data.len
  refine enter (vs := [.agg #[i64 o_Kind, i64 o_A, i64 o_B, i64 o_C, .string o_Name, .string o_Text, .string o_Dir, .slice A_o_Data n_o_Data c_o_Data]]) 43 Try.func24 rfl Try.ntmps24 rfl rfl ?_
  have hs1 := St.init w
  refine WC.seq (fun K2 hK2 => ?_)
  refine WC.region ?_
  refine WL.box hs1 rfl rfl rfl rfl rfl rfl (fun b3 whs4 hs4 => ?_)
  refine WL.val rfl rfl rfl (Run.assign rfl rfl) ?_
  refine WL.val rfl rfl rfl (Run.assign rfl rfl) ?_
  refine WL.nil ?_
  refine tkN ?_
  refine hK2 _ _ ?_
  clear hK2
  refine WC.seq (fun K5 hK5 => ?_)
  refine WC.seq (fun K6 hK6 => ?_)
  refine WC.region ?_
  refine WL.val rfl rfl rfl (Run.loadLA hs4 0 Try.isAgg27 Try.sizeOf27 rfl rfl rfl rfl rfl) ?_
  refine WL.call rfl rfl rfl (Run.call Try.call11 rfl rfl rfl) (c_spec_OpOk _ _ _ _ _ _ _ _ _ _ _ ?_) ?_
  · omega
  rintro _ whs7 ⟨rfl, hs7⟩
  replace hs7 := hs4.call0 hs7
  refine ⟨_, rfl, ?_⟩
  refine WL.val rfl rfl rfl (Run.not rfl rfl) ?_
  refine WL.nil ?_
  refine tkN ?_
  refine hK6 _ _ ?_
  clear hK6
  refine WC.cond rfl (fun h8 => ?_) (fun h8 => ?_)
  · have qh8 := h8
    try simp only [decide_eq_true_eq, decide_eq_false_iff_not, Bool.not_eq_true', Bool.not_eq_false', Bool.and_eq_true, Bool.or_eq_false_iff, within_iff, within_not] at qh8
    have hok : opOk o_Kind o_A o_B o_C o_Name o_Text o_Dir n_o_Data = false := by simpa using qh8
    refine WC.seq (fun K9 hK9 => ?_)
    refine WC.region ?_
    refine WL.val rfl rfl rfl (Run.assign rfl rfl) ?_
    refine WL.val rfl rfl rfl (Run.assign rfl rfl) ?_
    refine WL.nil ?_
    refine tkN ?_
    refine hK9 _ _ ?_
    clear hK9
    refine WC.ret ?_
    refine tkR ?_
    clear hK5
    refine retV2 rfl (resV.tmp rfl) (resV.tmp rfl) ?_
    rw [hok]
    have hx_ := OwnF.eqOf (xs := opB o_Kind o_A o_B o_C o_Name o_Text o_Dir o_Data) (OwnF.nil encB 5) (by simp [opB, hlen, hok])
    rw [← hx_]
    exact ⟨_, _, _, rfl, hs7.nil, (OwnF.nil encB 5)⟩
  · have qh8 := h8
    try simp only [decide_eq_true_eq, decide_eq_false_iff_not, Bool.not_eq_true', Bool.not_eq_false', Bool.and_eq_true, Bool.or_eq_false_iff, within_iff, within_not] at qh8
    have hok : opOk o_Kind o_A o_B o_C o_Name o_Text o_Dir n_o_Data = true := by simpa using qh8
    have hbd := opOk_bounds hok
    have hm : ∀ x, x ∈ ([o_Name, o_Text, o_Dir, ⟨o_Data.toArray⟩] : List ByteArray) → x.size ≤ 2000 := by
      intro x hx
      simp at hx
      have hz : (ByteArray.mk o_Data.toArray).size = o_Data.length := by simp [ByteArray.size]
      rcases hx with rfl | rfl | rfl | rfl <;> omega
    have hnl := numsL_len (l := [o_Kind, o_A, o_B, o_C]) (by intro x hx; simp at hx; omega)
    simp only [List.length_cons, List.length_nil] at hnl
    refine WC.skip ?_
    refine tkN ?_
    refine hK5 _ _ ?_
    clear hK5
    refine WC.seq (fun K10 hK10 => ?_)
    refine WC.region ?_
    refine WL.val rfl rfl rfl (Run.field Try.runUnderlying27 rfl rfl rfl Try.sizeOf3 rfl) ?_
    refine WL.val rfl rfl rfl (Run.loadL hs7 0 Try.isAgg3 rfl rfl rfl rfl) ?_
    refine WL.val rfl rfl rfl (Run.field Try.runUnderlying27 rfl rfl rfl Try.sizeOf3 rfl) ?_
    refine WL.val rfl rfl rfl (Run.loadL hs7 0 Try.isAgg3 rfl rfl rfl rfl) ?_
    refine WL.val rfl rfl rfl (Run.field Try.runUnderlying27 rfl rfl rfl Try.sizeOf3 rfl) ?_
    refine WL.val rfl rfl rfl (Run.loadL hs7 0 Try.isAgg3 rfl rfl rfl rfl) ?_
    refine WL.val rfl rfl rfl (Run.field Try.runUnderlying27 rfl rfl rfl Try.sizeOf3 rfl) ?_
    refine WL.val rfl rfl rfl (Run.loadL hs7 0 Try.isAgg3 rfl rfl rfl rfl) ?_
    refine WL.buildF (F := encI) hs7 ([o_Kind, o_A, o_B, o_C]) Try.runUnderlying51 Try.sizeOf3 Try.zeroValue3 rfl rfl rfl rfl rfl rfl rfl rfl rfl rfl rfl rfl (fun A14 c15 L11 whs12 hs12 ho13 => ?_)
    replace hs12 := St.back [_] hs12
    refine WL.call rfl rfl rfl (Run.call Try.call61 rfl rfl rfl) (c_spec_l12Nums _ _ _ _ _ _ _ _ (OwnF.nil _ _) (by simp) (SlF.ofOwn ho13 (fun p_ hp_ => (hs12.own p_ (List.mem_append_right [_] (List.mem_append_left _ hp_))).1)) sep_nil ?_ ?_) ?_
    · intro x hx; simp at hx; omega
    · simp
    rintro _ whs16 ⟨A17, c18, L119, rfl, hs16, ho20⟩
    replace hs16 := St.lend (A := []) hs12 hs16
    refine ⟨_, rfl, ?_⟩
    replace hs16 := St.back [_] hs16
    refine WL.val rfl rfl rfl (Run.assign rfl rfl) ?_
    refine WL.nil ?_
    refine tkN ?_
    refine hK10 _ _ ?_
    clear hK10
    refine WC.seq (fun K21 hK21 => ?_)
    refine WC.seq (fun K22 hK22 => ?_)
    refine WC.region ?_
    refine WL.val rfl rfl rfl (Run.field Try.runUnderlying27 rfl rfl rfl Try.sizeOf9 rfl) ?_
    refine WL.val rfl rfl rfl (Run.loadL hs16 0 Try.isAgg9 rfl rfl rfl rfl) ?_
    refine WL.val rfl rfl rfl (Run.field Try.runUnderlying27 rfl rfl rfl Try.sizeOf9 rfl) ?_
    refine WL.val rfl rfl rfl (Run.loadL hs16 0 Try.isAgg9 rfl rfl rfl rfl) ?_
    refine WL.val rfl rfl rfl (Run.field Try.runUnderlying27 rfl rfl rfl Try.sizeOf9 rfl) ?_
    refine WL.val rfl rfl rfl (Run.loadL hs16 0 Try.isAgg9 rfl rfl rfl rfl) ?_
    refine WL.val rfl rfl rfl (Run.field Try.runUnderlying27 rfl rfl rfl Try.sizeOf22 rfl) ?_
    refine WL.val rfl rfl rfl (Run.loadL hs16 0 Try.isAgg22 rfl rfl rfl rfl) ?_
    refine WL.val rfl rfl rfl (Run.strOf (SlF.st0 f_o_Data hs16) Try.underlying22 Try.underlying5 Try.underlying9 rfl rfl) ?_
    refine WL.buildF (F := encS) hs16 ([o_Name, o_Text, o_Dir, ⟨o_Data.toArray⟩]) Try.runUnderlying93 Try.sizeOf9 Try.zeroValue9 rfl rfl rfl rfl rfl rfl rfl rfl rfl rfl rfl rfl (fun A26 c27 L23 whs24 hs24 ho25 => ?_)
    replace hs24 := St.back [_] hs24
    refine WL.val rfl rfl rfl (Run.lenSl Try.runUnderlying93 rfl rfl) ?_
    refine WL.val rfl rfl rfl (Run.move rfl rfl) ?_
    refine WL.nil ?_
    refine tkN ?_
    refine hK22 _ _ ?_
    clear hK22
    refine WC.block ?_
    refine WC.loopO [(0, _), (1, _), (2, _), (3, _), (7, _), (8, _), (9, _), (10, _), (11, _), (12, _), (13, _), (14, _), (15, _), (16, _), (17, _), (18, _), (19, _), (20, _), (21, _), (22, _), (23, _), (24, _), (25, _), (26, _), (27, _), (28, _), (29, _), (30, _)] ⟨rfl, rfl, rfl, rfl, rfl, rfl, rfl, rfl, rfl, rfl, rfl, rfl, rfl, rfl, rfl, rfl, rfl, rfl, rfl, rfl, rfl, rfl, rfl, rfl, rfl, rfl, rfl, rfl, trivial⟩ (St.perm hs24 (L' := L119 ++ _) (perm_front (A := [_]) (perm_front (A := L23) (List.Perm.refl _)))) (fun k_ f L_ => ∃ (zs : List UInt8) (i : Nat) (A28 : Option Addr) (c29 : Nat), k_ = 4 - i ∧ (i ≤ 4) ∧ (zs = numsL [o_Kind, o_A, o_B, o_C] ++ textsL (List.take i [o_Name, o_Text, o_Dir, ⟨o_Data.toArray⟩])) ∧ OwnF encB 5 (.slice A28 (zs.length) c29) (zs) L_ ∧ Sub [(4, .slice A28 (zs.length) c29), (31, .int .i64 i)] f) (4) ?_ ?_
    · refine ⟨_, 0, _, _, rfl, ?_, ?_, ho20, ⟨rfl, rfl, trivial⟩⟩
      · exact Nat.zero_le _
      · simp [textsL]
    · clear hs24
      rintro _ f w L30 ⟨zs, i, A28, c29, rfl, p0, p1, ho31, hG⟩ hF hs32
      refine WC.sub _ (hG.app hF) ?_
      clear hG hF
      replace hs32 := St.back [_] hs32
      have hbl := congrArg List.length p1
      have hb5 := textsL_len (m := 2000) (l := List.take i [o_Name, o_Text, o_Dir, ⟨o_Data.toArray⟩]) (fun x hx => hm x (List.mem_of_mem_take hx)) (by omega)
      simp only [List.length_append, List.length_take, List.length_cons, List.length_nil] at hbl hb5
      refine WC.seq (fun K33 hK33 => ?_)
      refine WC.region ?_
      refine WL.val rfl rfl rfl (Run.lss rfl rfl rfl) ?_
      refine WL.nil ?_
      refine tkN ?_
      refine hK33 _ _ ?_
      clear hK33
      refine WC.seq (fun K34 hK34 => ?_)
      refine WC.cond rfl (fun h35 => ?_) (fun h35 => ?_)
      · have qh35 := h35
        try simp only [decide_eq_true_eq, decide_eq_false_iff_not, Bool.not_eq_true', Bool.not_eq_false', Bool.and_eq_true, Bool.or_eq_false_iff, within_iff, within_not] at qh35
        simp only [List.length_cons, List.length_nil] at qh35
        have hi_ := hm (gat encS [o_Name, o_Text, o_Dir, ⟨o_Data.toArray⟩] i) (gat_mem (by simp; omega))
        refine WC.skip ?_
        refine tkN ?_
        refine hK34 _ _ ?_
        clear hK34
        refine WC.seq (fun K36 hK36 => ?_)
        refine WC.block ?_
        refine WC.seq (fun K37 hK37 => ?_)
        refine WC.region ?_
        refine WL.val rfl rfl rfl (Run.idx Try.runUnderlying93 Try.sizeOf9 rfl rfl rfl ?_ ?_ ?_) ?_
        · exact SlF.some_ (SlF.ofOwn ho25 (fun p_ hp_ => (hs32.own p_ (List.mem_append_right [_] (List.mem_append_right _ (List.mem_append_left _ hp_)))).1))
        · first | omega | (simp only [List.length_cons, List.length_nil]; omega)
        · first | omega | (simp only [List.length_cons, List.length_nil]; omega)
        refine WL.val rfl rfl rfl (Run.load Try.isAgg9 rfl rfl (SlF.one1 (SlF.ofOwn ho25 (fun p_ hp_ => (hs32.own p_ (List.mem_append_right [_] (List.mem_append_right _ (List.mem_append_left _ hp_)))).1)) ?_ rfl)) ?_
        · first | omega | (simp only [List.length_cons, List.length_nil]; omega)
        refine WL.val rfl rfl rfl (Run.assign rfl rfl) ?_
        refine WL.nil ?_
        refine tkN ?_
        refine hK37 _ _ ?_
        clear hK37
        refine WC.region ?_
        refine WL.val rfl rfl rfl (Run.move rfl rfl) ?_
        refine WL.val rfl rfl rfl (Run.move rfl rfl) ?_
        refine WL.call rfl rfl rfl (Run.call Try.call62 rfl rfl rfl) (c_spec_PutText _ _ _ _ _ _ (SlF.ofOwn ho31 (fun p_ hp_ => (hs32.own p_ (List.mem_append_right [_] (List.mem_append_left _ hp_))).1)) ?_ ?_) ?_
        · simp only [Int.toNat_natCast]; omega
        · omega
        rintro _ whs38 ⟨A39, c40, L141, rfl, hs38, ho42⟩
        replace hs38 := hs32.callF hs38
        refine ⟨_, rfl, ?_⟩
        replace hs38 := St.back [_] hs38
        refine WL.val rfl rfl rfl (Run.move rfl rfl) ?_
        refine WL.val rfl rfl rfl (Run.extract rfl rfl rfl) ?_
        refine WL.val rfl rfl rfl (Run.extract rfl rfl rfl) ?_
        refine WL.val rfl rfl rfl (Run.assign rfl rfl) ?_
        refine WL.nil ?_
        refine ibN ?_
        refine tkN ?_
        refine hK36 _ _ ?_
        clear hK36
        refine WC.region ?_
        refine WL.val rfl rfl rfl (Run.add rfl rfl rfl ?_) ?_
        · constructor <;> omega
        refine WL.val rfl rfl rfl (Run.move rfl rfl) ?_
        refine WL.nil ?_
        refine tkN ?_
        replace hs38 := St.drop (St.perm hs38 (L' := L30 ++ _) (perm_front (A := [_]) (perm_front (A := L141) (List.Perm.refl _)))) (List.sublist_append_right L30 _)
        refine ⟨⟨rfl, rfl, rfl, rfl, rfl, rfl, rfl, rfl, rfl, rfl, rfl, rfl, rfl, rfl, rfl, rfl, rfl, rfl, rfl, rfl, rfl, rfl, rfl, rfl, rfl, rfl, rfl, rfl, trivial⟩, _, (St.perm hs38 (L' := L141 ++ _) (perm_front (A := [_]) (List.Perm.refl _))), _, ?_, _, i + 1, _, _, rfl, ?_, ?_, ho42, ⟨rfl, rfl, trivial⟩⟩
        · omega
        · omega
        · rw [p1, textsL_take (by simp; omega), List.append_assoc]; rfl
      · have qh35 := h35
        try simp only [decide_eq_true_eq, decide_eq_false_iff_not, Bool.not_eq_true', Bool.not_eq_false', Bool.and_eq_true, Bool.or_eq_false_iff, within_iff, within_not] at qh35
        simp only [List.length_cons, List.length_nil] at qh35
        refine WC.exit ?_
        refine tkE ?_
        refine tkE ?_
        refine ibE ?_
        refine tkN ?_
        refine hK21 _ _ ?_
        clear hK21
        refine WC.seq (fun K43 hK43 => ?_)
        refine WC.region ?_
        refine WL.val rfl rfl rfl (Run.move rfl rfl) ?_
        refine WL.val rfl rfl rfl (Run.assign rfl rfl) ?_
        refine WL.val rfl rfl rfl (Run.assign rfl rfl) ?_
        refine WL.nil ?_
        refine tkN ?_
        refine hK43 _ _ ?_
        clear hK43
        refine WC.ret ?_
        refine retV2 rfl (resV.tmp rfl) (resV.tmp rfl) ?_
        rw [hok]
        have hx_ := OwnF.eqOf (xs := opB o_Kind o_A o_B o_C o_Name o_Text o_Dir o_Data) ho31 (by simp only [opB, hlen, hok, if_true, p1]; rw [List.take_of_length_le (by simp; omega)])
        rw [← hx_]
        first | exact ⟨_, _, _, rfl, (St.keep1 (St.perm hs32 (L' := L30 ++ _) (perm_front (A := [_]) (List.Perm.refl _)))), ho31⟩ | exact ⟨A28, c29, _, by rw [OwnF.len_ ho31], (St.keep1 (St.perm hs32 (L' := L30 ++ _) (perm_front (A := [_]) (List.Perm.refl _)))), by rw [OwnF.len_ ho31]; exact ho31⟩
end Go.Proofs.Ytpiimkfonlijdaa
