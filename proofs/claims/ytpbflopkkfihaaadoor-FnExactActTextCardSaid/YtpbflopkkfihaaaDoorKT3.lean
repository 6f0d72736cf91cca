/-
  The statement: for every input the law returns true. No condition. (And what it stands on, the last part.)
-/
import Derived.Test.YtpbflopkkfihaaaDoorKT2
namespace Go.Proofs.YtpbflopkkfihaaaDoor
open Go Go.RowKit
set_option linter.unusedVariables false
set_option linter.unusedSimpArgs false
theorem built_33_0_1_2_3 (x0 : Int) (x1 : Int) (x2 : Bool) (x3 : Option Addr) (x4 : Nat) (x5 : Nat) : Tryd.prog.built 33 [(0, .int .i64 x0), (1, .int .i64 x1), (2, .bool x2), (3, .slice x3 x4 x5)] = some (List.toArray [.int .i64 x0, .int .i64 x1, .bool x2, .slice x3 x4 x5]) := by kernel_rfl
theorem built_26_0 (x0 : Int) : Tryd.prog.built 26 [(0, .int .i64 x0)] = some (List.toArray [.int .i64 x0, .bool false, .slice none 0 0, .slice none 0 0]) := by kernel_rfl
theorem k41_ (p : VpR) (b : Int) (w : World) (f_p : okVpR 549755813888 w p) (hsm : smVp 1048576 p.dat) (hok : areArgs p.dat.Args = true) (hb : 0 ≤ b ∧ b ≤ 255) :
    Calls Tryd.prog 55 #[.agg #[i64 p.State, .bool p.Mark, .slice p.Args.A p.Args.n p.Args.c, .slice p.Part.A p.Part.n p.Part.c], i64 b] w fun e w' => ∃ r0 L0 r1 L1, e = .returned (.tuple #[.agg #[i64 r0.State, .bool r0.Mark, .slice r0.Args.A r0.Args.n r0.Args.c, .slice r0.Part.A r0.Part.n r0.Part.c], .agg #[i64 r1.Kind, i64 r1.R, .bool r1.Mark, .slice r1.Args.A r1.Args.n r1.Args.c]]) ∧ St w [] (L0 ++ L1) w' ∧ ownVpR r0 L0 ∧ ownActR r1 L1 ∧ r0.dat = (vpCsi p.dat b).1 ∧ r1.dat = (vpCsi p.dat b).2 := by
 have nb_p_Args := f_p.Args_n
 have nl_p_Args := f_p.Args.len
 have nb_p_Part := f_p.Part_n
 have nl_p_Part := f_p.Part.len
 have hsB : smVp 549755813888 p.dat := ⟨Nat.le_trans hsm.1 (by decide), Nat.le_trans hsm.2 (by decide)⟩
 have hsa : p.Args.xs.length ≤ 1048576 := hsm.1
 have hsp : p.Part.xs.length ≤ 1048576 := hsm.2
 have hal := f_p.Args.len
 refine enter 63 Tryd.func55 rfl Tryd.ntmps55 rfl rfl ?_
 have hs1 := St.init w
 refine WC.sr (WL.bx hs1 rfl (fun b2 _ hs3 => WL.al hs3 Tryd.zeroValue26 rfl rfl (fun b4 _ hs5 => WL.al hs5 Tryd.zeroValue33 rfl rfl (fun b6 _ hs7 => WL.nil (WC.sr (WL.r 1 hs7 [2] rfl ?_))))))
 refine WL.cl Tryd.call35 rfl (k35_ p _ (okVpR.st0 f_p hs7) ?_) ?_
 · first | assumption | rfl | omega | (simp; omega)
 rintro _ whs8 ⟨r9, L1_10, rfl, hs8, ho11, hd12⟩
 replace hs8 := hs7.callF hs8
 refine ⟨_, rfl, ?_⟩
 replace hs8 := St.back [_, _, _] hs8
 have hlr := ownVpR.len ho11
 have hxr : r9.Args.xs = p.Args.xs := congrArg VpD.Args hd12
 have hpr : r9.Part.xs = p.Part.xs := congrArg VpD.Part hd12
 have hxp : p.dat.Args = p.Args.xs := rfl
 have hlx : r9.Args.xs.length = p.Args.xs.length := by rw [hxr]
 have hly : r9.Part.xs.length = p.Part.xs.length := by rw [hpr]
 skip
 refine WL.al hs8 Tryd.zeroValue26 rfl rfl (fun b13 _ hs14 => WL.st tbk hs14 0 rfl rfl (fun _ hs15 => WL.nil (WC.seq (fun K16 hK16 => WC.block (WC.sr (WL.r 3 hs15 [] rfl (WL.pA tbk 4 Acts.nil hs15 [3] rfl rfl rfl rfl (fun g_ => ⟨rfl, trivial⟩) ?_)))))))
 refine WL.r 1 hs15 [] rfl (WL.pA tbk 3 Acts.nil hs15 [3] rfl rfl rfl rfl (fun g_ => ⟨rfl, trivial⟩) (WL.r 1 hs15 [] rfl (WL.nil (WC.cq rfl (fun h17 qh17 => ?_) (fun h17 qh17 => ?_)))))
 ·have hc1 : (b = 63 ∧ p.dat.Args.length = 0) ∧ p.dat.Mark = false := by show (b = 63 ∧ p.Args.xs.length = 0) ∧ p.Mark = false; simp at qh17; exact ⟨⟨qh17.1.1, by omega⟩, qh17.2⟩
  refine WC.sr (WL.r 1 hs15 [] rfl (WL.st tbk hs15 0 rfl rfl (fun _ hs18 => WL.nil (WC.sr (WL.r 1 hs18 [0] rfl ?_)))))
  refine WL.val rfl rfl rfl (Run.build rfl rfl rfl rfl (built_33)) (WL.st tbk hs18 2 rfl rfl (fun _ hs19 => WL.st tbk hs19 1 rfl rfl (fun _ hs20 => WL.nil (WC.ret (ibR (tkR ?_))))))
  clear hK16
  refine retV2 rfl (resV.cellA tbk hs20 2 rfl rfl rfl rfl) (resV.cellA tbk hs20 1 rfl rfl rfl rfl) ?_
  have hv : vpCsi p.dat b = ({ p.dat with Mark := true }, act0) := by unfold vpCsi; rw [if_pos hc1]
  obtain ⟨L21, L22, hs25, ho23, ho24⟩ := ownVpR.op hs20 ho11
  have hs26 := ((((hs25.fb b2).fb b4).fb b6).fb b13)
  obtain ⟨L28, hs27, ho29⟩ := ownVpR.fl hs26 ho23 ho24
  have hs30 := ((((hs27.fb b2).fb b4).fb b6).fb b13)
  refine ⟨⟨r9.State, true, SlD.of ho23, SlD.of ho24⟩, _, ⟨0, 0, false, ⟨none, 0, 0, []⟩⟩, _, rfl, (St.drop ((hs30.fr ([] : Hp)).fr L28) (List.Sublist.append_left (List.sublist_append_left ([] : Hp) _) L28)), ?_, ?_, ?_, ?_⟩
  · exact (by exact ho29)
  · exact (OwnF.nil _ _)
  · rw [hv, ← hd12]; rfl
  · rw [hv]; first | exact rfl | rfl
 have hc1 : ¬ ((b = 63 ∧ p.dat.Args.length = 0) ∧ p.dat.Mark = false) := by show ¬ ((b = 63 ∧ p.Args.xs.length = 0) ∧ p.Mark = false); rintro ⟨⟨h1, h2⟩, h3⟩; rw [h3] at qh17; simp at qh17; omega
 refine WC.sr (WL.r 1 hs15 [] rfl (WL.cl Tryd.call23 rfl (k2_ _ _ _ _) ?_))
 rintro _ whs32 ⟨rfl, hs32⟩
 replace hs32 := hs15.call0 hs32
 refine ⟨_, rfl, WL.r 1 hs32 [] rfl (WL.nil (WC.cq rfl (fun h33 qh33 => ?_) (fun h33 qh33 => ?_)))⟩
 ·have hc2 : 48 ≤ b ∧ b ≤ 57 := by first | omega | (simp at qh33; omega)
  refine WC.sr (WL.r 3 hs32 [3] rfl (WL.cl Tryd.call65 rfl (k39_ p _ _ (okVpR.st0 f_p hs32) ?_ ?_ ?_) ?_))
  iterate 3 first | assumption | rfl | omega | (simp; omega)
  rintro _ whs34 ⟨r35, L1_36, rfl, hs34, ho37, hd38⟩
  replace hs34 := hs32.callF hs34
  refine ⟨_, rfl, ?_⟩
  replace hs34 := St.back [_, _, _, _] hs34
  refine WL.val rfl rfl rfl (Run.build rfl rfl rfl rfl (built_33)) (WL.st tbk hs34 2 rfl rfl (fun _ hs39 => WL.st tbk hs39 1 rfl rfl (fun _ hs40 => WL.nil (WC.ret (ibR (tkR ?_))))))
  clear hK16
  refine retV2 rfl (resV.cellA tbk hs40 2 rfl rfl rfl rfl) (resV.cellA tbk hs40 1 rfl rfl rfl rfl) ?_
  have hv : vpCsi p.dat b = (vpDigit p.dat (b - 48), act0) := by unfold vpCsi; rw [if_neg hc1, if_pos hc2]
  refine ⟨r35, _, ⟨0, 0, false, ⟨none, 0, 0, []⟩⟩, _, rfl, (St.drop ((hs40.fr ([] : Hp)).fr L1_36) (List.Sublist.append_left (List.sublist_append_left ([] : Hp) _) L1_36)), ?_, ?_, ?_, ?_⟩
  · exact ho37
  · exact (OwnF.nil _ _)
  · rw [hv]; first | exact hd38 | rfl
  · rw [hv]; first | exact rfl | rfl
 have hc2 : ¬ (48 ≤ b ∧ b ≤ 57) := by first | omega | (simp at qh33; omega)
 refine WC.r1 hs32 [] rfl (WC.cD rfl (fun qh42 => ?_) (fun qh42 => ?_))
 ·have hc3 : b = 59 := by first | omega | (simp at qh42; omega)
  refine WC.sr (WL.r 1 hs32 [3] rfl (WL.cl Tryd.call66 rfl (k40_ p _ (okVpR.st0 f_p hs32) ?_ ?_) ?_))
  iterate 2 first | assumption | rfl | omega | (simp; omega)
  rintro _ whs43 ⟨r44, L1_45, rfl, hs43, ho46, hd47⟩
  replace hs43 := hs32.callF hs43
  refine ⟨_, rfl, ?_⟩
  replace hs43 := St.back [_, _, _, _] hs43
  refine WL.val rfl rfl rfl (Run.build rfl rfl rfl rfl (built_33)) (WL.st tbk hs43 2 rfl rfl (fun _ hs48 => WL.st tbk hs48 1 rfl rfl (fun _ hs49 => WL.nil (WC.ret (ibR (tkR ?_))))))
  clear hK16
  refine retV2 rfl (resV.cellA tbk hs49 2 rfl rfl rfl rfl) (resV.cellA tbk hs49 1 rfl rfl rfl rfl) ?_
  have hv : vpCsi p.dat b = (vpNext p.dat, act0) := by unfold vpCsi; rw [if_neg hc1, if_neg hc2, if_pos hc3]
  refine ⟨r44, _, ⟨0, 0, false, ⟨none, 0, 0, []⟩⟩, _, rfl, (St.drop ((hs49.fr ([] : Hp)).fr L1_45) (List.Sublist.append_left (List.sublist_append_left ([] : Hp) _) L1_45)), ?_, ?_, ?_, ?_⟩
  · exact ho46
  · exact (OwnF.nil _ _)
  · rw [hv]; first | exact hd47 | rfl
  · rw [hv]; first | exact rfl | rfl
 have hc3 : ¬ (b = 59) := by first | omega | (simp at qh42; omega)
 refine WC.sr (WL.r 1 hs32 [] rfl (WL.cl Tryd.call23 rfl (k2_ _ _ _ _) ?_))
 rintro _ whs51 ⟨rfl, hs51⟩
 replace hs51 := hs32.call0 hs51
 refine ⟨_, rfl, WL.r 1 hs51 [] rfl (WL.nil (WC.cq rfl (fun h52 qh52 => ?_) (fun h52 qh52 => ?_)))⟩
 ·have hc4 : 64 ≤ b ∧ b ≤ 126 := by first | omega | (simp at qh52; omega)
  refine WC.seq (fun K53 hK53 => WC.rH ((hs51.fb b6).d1.fb b4).d1 hs51 (fun _ hs54 => ?_))
  refine WH.take 0 rfl (by kernel_rfl) rfl rfl rfl ((hs54.fb b6).d1.fb b4).d1 (fun w_ hs_ => (Run.build rfl rfl rfl rfl (built_26))) ?_
  refine WH.rn [1, 2, 3, 4, 5] ((hs54.fb b6).d1.fb b4).d1 [1, 0] rfl rfl ?_
  refine WH.take 6 rfl (by kernel_rfl) rfl rfl rfl ((hs54.fb b6).d1.fb b4).d1 (fun w_ hs_ => (Run.build rfl rfl rfl rfl (built_33_0_1_2_3 _ _ _ _ _ _))) ?_
  refine WH.o1 7 rfl (WL.st tbk hs54 2 rfl rfl (fun _ hs55 => WL.nil ⟨((hs55.fb b6).d1.fb b4).d1, WH.o1 8 rfl (WL.st tbk hs55 1 rfl rfl (fun _ hs56 => WL.nil ⟨((hs56.fb b6).d1.fb b4).d1, WH.dn (hK53 _ _ ?_)⟩))⟩))
  refine WC.ret (ibR (tkR ?_))
  clear hK16
  refine retV2 rfl (resV.cellA tbk hs56 2 rfl rfl rfl rfl) (resV.cellA tbk hs56 1 rfl rfl rfl rfl) ?_
  have hv : vpCsi p.dat b = (vp0, ⟨4, b, p.dat.Mark, p.dat.Args⟩) := by unfold vpCsi; rw [if_neg hc1, if_neg hc2, if_neg hc3, if_pos hc4]
  obtain ⟨L60, hs59, ho61⟩ := ownVpR.fl hs56 (OwnF.nil _ _) (OwnF.nil _ _)
  have hs62 := ((((hs59.fb b2).fb b4).fb b6).fb b13)
  obtain ⟨L63, L64, hs67, ho65, ho66⟩ := ownVpR.op hs62 ho11
  have hs68 := ((((hs67.fb b2).fb b4).fb b6).fb b13)
  refine ⟨⟨0, false, ⟨none, 0, 0, []⟩, ⟨none, 0, 0, []⟩⟩, _, ⟨(4), b, p.Mark, SlD.of ho65⟩, _, rfl, (St.drop ((hs68.fr L63).fr L60) (List.Sublist.append_left (List.sublist_append_left L63 _) L60)), ?_, ?_, ?_, ?_⟩
  · exact (by exact ho61)
  · exact ho65
  · rw [hv]; rfl
  · rw [hv]; exact ActD.ext' rfl rfl rfl hxr
 have hc4 : ¬ (64 ≤ b ∧ b ≤ 126) := by first | omega | (simp at qh52; omega)
 refine WC.sr (WL.r 3 hs51 [] rfl (WL.pO tbk 2 Acts.nil hs51 [] rfl rfl rfl rfl (fun g_ => trivial) (WL.r 1 hs51 [] rfl (WL.nil (WC.cq rfl (fun h69 qh69 => ?_) (fun h69 qh69 => ?_))))))
 ·have hc5 : b < 32 ∨ b = 127 := by first | omega | (simp at qh69; omega)
  refine WC.sr (WL.r 2 hs51 [0] rfl ?_)
  refine WL.val rfl rfl rfl (Run.build rfl rfl rfl rfl (built_33_0_1 _ _)) (WL.st tbk hs51 2 rfl rfl (fun _ hs70 => WL.st tbk hs70 1 rfl rfl (fun _ hs71 => WL.nil (WC.ret (ibR (tkR ?_))))))
  clear hK16
  refine retV2 rfl (resV.cellA tbk hs71 2 rfl rfl rfl rfl) (resV.cellA tbk hs71 1 rfl rfl rfl rfl) ?_
  have hv : vpCsi p.dat b = (p.dat, ⟨2, b, false, []⟩) := by unfold vpCsi; rw [if_neg hc1, if_neg hc2, if_neg hc3, if_neg hc4, if_pos hc5]
  refine ⟨r9, _, ⟨(2), b, false, ⟨none, 0, 0, []⟩⟩, _, rfl, (St.drop ((hs71.fr ([] : Hp)).fr L1_10) (List.Sublist.append_left (List.sublist_append_left ([] : Hp) _) L1_10)), ?_, ?_, ?_, ?_⟩
  · exact ho11
  · exact (OwnF.nil _ _)
  · rw [hv]; exact hd12
  · rw [hv]; first | exact rfl | rfl
 have hc5 : ¬ (b < 32 ∨ b = 127) := by first | omega | (simp at qh69; omega)
 refine WC.skip (hK16 _ _ (WC.sr (WL.r 1 hs51 [] rfl (WL.st tbk hs51 0 rfl rfl (fun _ hs73 => WL.nil (WC.sr (WL.r 1 hs73 [0] rfl ?_)))))))
 refine WL.val rfl rfl rfl (Run.build rfl rfl rfl rfl (built_33)) (WL.st tbk hs73 2 rfl rfl (fun _ hs74 => WL.st tbk hs74 1 rfl rfl (fun _ hs75 => WL.nil (WC.ret (retV2 rfl (resV.cellA tbk hs75 2 rfl rfl rfl rfl) (resV.cellA tbk hs75 1 rfl rfl rfl rfl) ?_)))))
 have hv : vpCsi p.dat b = ({ p.dat with State := 3 }, act0) := by unfold vpCsi; rw [if_neg hc1, if_neg hc2, if_neg hc3, if_neg hc4, if_neg hc5]
 obtain ⟨L76, L77, hs80, ho78, ho79⟩ := ownVpR.op hs75 ho11
 have hs81 := ((((hs80.fb b2).fb b4).fb b6).fb b13)
 obtain ⟨L83, hs82, ho84⟩ := ownVpR.fl hs81 ho78 ho79
 have hs85 := ((((hs82.fb b2).fb b4).fb b6).fb b13)
 refine ⟨⟨(3), r9.Mark, SlD.of ho78, SlD.of ho79⟩, _, ⟨0, 0, false, ⟨none, 0, 0, []⟩⟩, _, rfl, (St.drop ((hs85.fr ([] : Hp)).fr L83) (List.Sublist.append_left (List.sublist_append_left ([] : Hp) _) L83)), ?_, ?_, ?_, ?_⟩
 · exact (by exact ho84)
 · exact (OwnF.nil _ _)
 · rw [hv, ← hd12]; rfl
 · rw [hv]; first | exact rfl | rfl
theorem k42_ (p : VpR) (b : Int) (w : World) (f_p : okVpR 549755813888 w p) (hsm : smVp 1048576 p.dat) (hok : vpOk p.dat = true) (hb : 0 ≤ b ∧ b ≤ 255) :
    Calls Tryd.prog 36 #[.agg #[i64 p.State, .bool p.Mark, .slice p.Args.A p.Args.n p.Args.c, .slice p.Part.A p.Part.n p.Part.c], i64 b] w fun e w' => ∃ r0 L0 r1 L1, e = .returned (.tuple #[.agg #[i64 r0.State, .bool r0.Mark, .slice r0.Args.A r0.Args.n r0.Args.c, .slice r0.Part.A r0.Part.n r0.Part.c], .agg #[i64 r1.Kind, i64 r1.R, .bool r1.Mark, .slice r1.Args.A r1.Args.n r1.Args.c]]) ∧ St w [] (L0 ++ L1) w' ∧ ownVpR r0 L0 ∧ ownActR r1 L1 ∧ r0.dat = (vpStep p.dat b).1 ∧ r1.dat = (vpStep p.dat b).2 := by
 have nb_p_Args := f_p.Args_n
 have nl_p_Args := f_p.Args.len
 have nb_p_Part := f_p.Part_n
 have nl_p_Part := f_p.Part.len
 have hsB : smVp 549755813888 p.dat := ⟨Nat.le_trans hsm.1 (by decide), Nat.le_trans hsm.2 (by decide)⟩
 have hsa : p.Args.xs.length ≤ 1048576 := hsm.1
 have hsp : p.Part.xs.length ≤ 1048576 := hsm.2
 refine enter 58 Tryd.func36 rfl Tryd.ntmps36 rfl rfl ?_
 have hs1 := St.init w
 refine WC.sr (WL.bx hs1 rfl (fun b2 _ hs3 => WL.al hs3 Tryd.zeroValue26 rfl rfl (fun b4 _ hs5 => WL.al hs5 Tryd.zeroValue33 rfl rfl (fun b6 _ hs7 => WL.nil (WC.seq (fun K8 hK8 => WC.block (WC.r1 hs7 [] rfl ?_)))))))
 refine WC.cD rfl (fun qh9 => ?_) (fun qh9 => ?_)
 ·have k1 : b = 27 := by first | exact qh9 | omega | (simp at qh9; omega)
  refine WC.sr ?_
  refine WL.val rfl rfl rfl (Run.build rfl rfl rfl rfl (built_26_0 _)) ?_
  refine WL.val rfl rfl rfl (Run.build rfl rfl rfl rfl (built_33)) (WL.st tbk hs7 1 rfl rfl (fun _ hs10 => WL.st tbk hs10 0 rfl rfl (fun _ hs11 => WL.nil (WC.ret (ibR (tkR ?_))))))
  clear hK8
  refine retV2 rfl (resV.cellA tbk hs11 1 rfl rfl rfl rfl) (resV.cellA tbk hs11 0 rfl rfl rfl rfl) ?_
  have hv : vpStep p.dat b = (⟨1, false, [], []⟩, act0) := by unfold vpStep; rw [if_pos k1]
  obtain ⟨L15, hs14, ho16⟩ := ownVpR.fl hs11 (OwnF.nil _ _) (OwnF.nil _ _)
  have hs17 := (((hs14.fb b2).fb b4).fb b6)
  refine ⟨⟨(1), false, ⟨none, 0, 0, []⟩, ⟨none, 0, 0, []⟩⟩, _, ⟨0, 0, false, ⟨none, 0, 0, []⟩⟩, _, rfl, (St.drop ((hs17.fr ([] : Hp)).fr L15) (List.Sublist.append_left (List.sublist_append_left ([] : Hp) _) L15)), ?_, ?_, ?_, ?_⟩
  · exact (by exact ho16)
  · exact (OwnF.nil _ _)
  · rw [hv]; first | exact rfl | rfl
  · rw [hv]; first | exact rfl | rfl
 have k1 : ¬ (b = 27) := by first | exact qh9 | omega | (simp at qh9; omega)
 refine WC.sr (WL.r 3 hs7 [] rfl (WL.pO tbk 2 Acts.nil hs7 [] rfl rfl rfl rfl (fun g_ => trivial) (WL.r 1 hs7 [] rfl (WL.nil (WC.cq rfl (fun h19 qh19 => ?_) (fun h19 qh19 => ?_))))))
 ·have k2 : b = 24 ∨ b = 26 := by first | exact qh19 | omega | (simp at qh19; omega)
  refine WC.sr ?_
  refine WL.val rfl rfl rfl (Run.build rfl rfl rfl rfl (built_26)) ?_
  refine WL.val rfl rfl rfl (Run.build rfl rfl rfl rfl (built_33)) (WL.st tbk hs7 1 rfl rfl (fun _ hs20 => WL.st tbk hs20 0 rfl rfl (fun _ hs21 => WL.nil (WC.ret (ibR (tkR ?_))))))
  clear hK8
  refine retV2 rfl (resV.cellA tbk hs21 1 rfl rfl rfl rfl) (resV.cellA tbk hs21 0 rfl rfl rfl rfl) ?_
  have hv : vpStep p.dat b = (vp0, act0) := by unfold vpStep; rw [if_neg k1, if_pos k2]
  obtain ⟨L25, hs24, ho26⟩ := ownVpR.fl hs21 (OwnF.nil _ _) (OwnF.nil _ _)
  have hs27 := (((hs24.fb b2).fb b4).fb b6)
  refine ⟨⟨0, false, ⟨none, 0, 0, []⟩, ⟨none, 0, 0, []⟩⟩, _, ⟨0, 0, false, ⟨none, 0, 0, []⟩⟩, _, rfl, (St.drop ((hs27.fr ([] : Hp)).fr L25) (List.Sublist.append_left (List.sublist_append_left ([] : Hp) _) L25)), ?_, ?_, ?_, ?_⟩
  · exact (by exact ho26)
  · exact (OwnF.nil _ _)
  · rw [hv]; first | exact rfl | rfl
  · rw [hv]; first | exact rfl | rfl
 have k2 : ¬ (b = 24 ∨ b = 26) := by first | exact qh19 | omega | (simp at qh19; omega)
 refine WC.skip (hK8 _ _ (WC.seq (fun K29 hK29 => WC.r1 hs7 [2] rfl (WC.block (WC.r1 hs7 [] rfl ?_)))))
 refine WC.cD rfl (fun qh30 => ?_) (fun qh30 => ?_)
 ·have k3 : p.dat.State = 0 := by show p.State = 0; first | exact qh30 | omega | (simp at qh30; omega)
  refine WC.sr (WL.r 2 hs7 [2] rfl (WL.cl Tryd.call54 rfl (k38_ p _ _ (okVpR.st0 f_p hs7) ?_) ?_))
  · first | assumption | rfl | omega | (simp; omega)
  rintro _ whs31 ⟨r0_32, L0_33, r1_34, L1_35, rfl, hs31, ho36, ho37, hd0_38, hd1_39⟩
  replace hs31 := hs7.callF hs31
  refine ⟨_, rfl, ?_⟩
  replace hs31 := St.assoc hs31
  replace hs31 := St.back2 [_, _, _] hs31
  refine WL.r 2 hs31 [] rfl (WL.st tbk hs31 1 rfl rfl (fun _ hs40 => WL.st tbk hs40 0 rfl rfl (fun _ hs41 => WL.nil (WC.ret (ibR (tkR ?_))))))
  clear hK29
  refine retV2 rfl (resV.cellA tbk hs41 1 rfl rfl rfl rfl) (resV.cellA tbk hs41 0 rfl rfl rfl rfl) ?_
  have hv : vpStep p.dat b = vpPlain p.dat.Part b := by unfold vpStep; rw [if_neg k1, if_neg k2, if_pos k3]
  refine ⟨r0_32, _, r1_34, _, rfl, (St.drop ((hs41.fr L1_35).fr L0_33) (List.Sublist.append_left (List.sublist_append_left L1_35 _) L0_33)), ?_, ?_, ?_, ?_⟩
  · exact ho36
  · exact ho37
  · rw [hv]; first | exact hd0_38 | rfl
  · rw [hv]; first | exact hd1_39 | rfl
 have k3 : ¬ (p.dat.State = 0) := by show ¬ (p.State = 0); first | exact qh30 | omega | (simp at qh30; omega)
 refine WC.r1 hs7 [] rfl (WC.cD rfl (fun qh42 => ?_) (fun qh42 => ?_))
 ·have k4 : p.dat.State = 1 := by show p.State = 1; first | exact qh42 | omega | (simp at qh42; omega)
  refine WC.seq (fun K43 hK43 => WC.block (WC.r1 hs7 [] rfl ?_))
  refine WC.cD rfl (fun qh44 => ?_) (fun qh44 => ?_)
  ·have k5 : b = 91 := by first | exact qh44 | omega | (simp at qh44; omega)
   refine WC.sr ?_
   refine WL.val rfl rfl rfl (Run.build rfl rfl rfl rfl (built_26_0 _)) ?_
   refine WL.val rfl rfl rfl (Run.build rfl rfl rfl rfl (built_33)) (WL.st tbk hs7 1 rfl rfl (fun _ hs45 => WL.st tbk hs45 0 rfl rfl (fun _ hs46 => WL.nil (WC.ret (ibR (tkR (ibR (tkR ?_))))))))
   clear hK43 hK29
   refine retV2 rfl (resV.cellA tbk hs46 1 rfl rfl rfl rfl) (resV.cellA tbk hs46 0 rfl rfl rfl rfl) ?_
   have hv : vpStep p.dat b = (⟨2, false, [], []⟩, act0) := by unfold vpStep; rw [if_neg k1, if_neg k2, if_neg k3, if_pos k4, if_pos k5]
   obtain ⟨L50, hs49, ho51⟩ := ownVpR.fl hs46 (OwnF.nil _ _) (OwnF.nil _ _)
   have hs52 := (((hs49.fb b2).fb b4).fb b6)
   refine ⟨⟨(2), false, ⟨none, 0, 0, []⟩, ⟨none, 0, 0, []⟩⟩, _, ⟨0, 0, false, ⟨none, 0, 0, []⟩⟩, _, rfl, (St.drop ((hs52.fr ([] : Hp)).fr L50) (List.Sublist.append_left (List.sublist_append_left ([] : Hp) _) L50)), ?_, ?_, ?_, ?_⟩
   · exact (by exact ho51)
   · exact (OwnF.nil _ _)
   · rw [hv]; first | exact rfl | rfl
   · rw [hv]; first | exact rfl | rfl
  have k5 : ¬ (b = 91) := by first | exact qh44 | omega | (simp at qh44; omega)
  refine WC.sr (WL.r 1 hs7 [] rfl (WL.cl Tryd.call23 rfl (k2_ _ _ _ _) ?_))
  rintro _ whs54 ⟨rfl, hs54⟩
  replace hs54 := hs7.call0 hs54
  refine ⟨_, rfl, WL.r 1 hs54 [] rfl (WL.nil (WC.cq rfl (fun h55 qh55 => ?_) (fun h55 qh55 => ?_)))⟩
  ·have k6 : 48 ≤ b ∧ b ≤ 126 := by first | exact qh55 | omega | (simp at qh55; omega)
   refine WC.sr ?_
   refine WL.val rfl rfl rfl (Run.build rfl rfl rfl rfl (built_26)) (WL.r 1 hs54 [] rfl ?_)
   refine WL.val rfl rfl rfl (Run.build rfl rfl rfl rfl (built_33_0_1 _ _)) (WL.st tbk hs54 1 rfl rfl (fun _ hs56 => WL.st tbk hs56 0 rfl rfl (fun _ hs57 => WL.nil (WC.ret (ibR (tkR (ibR (tkR ?_))))))))
   clear hK43 hK29
   refine retV2 rfl (resV.cellA tbk hs57 1 rfl rfl rfl rfl) (resV.cellA tbk hs57 0 rfl rfl rfl rfl) ?_
   have hv : vpStep p.dat b = (vp0, ⟨3, b, false, []⟩) := by unfold vpStep; rw [if_neg k1, if_neg k2, if_neg k3, if_pos k4, if_neg k5, if_pos k6]
   obtain ⟨L61, hs60, ho62⟩ := ownVpR.fl hs57 (OwnF.nil _ _) (OwnF.nil _ _)
   have hs63 := (((hs60.fb b2).fb b4).fb b6)
   refine ⟨⟨0, false, ⟨none, 0, 0, []⟩, ⟨none, 0, 0, []⟩⟩, _, ⟨(3), b, false, ⟨none, 0, 0, []⟩⟩, _, rfl, (St.drop ((hs63.fr ([] : Hp)).fr L61) (List.Sublist.append_left (List.sublist_append_left ([] : Hp) _) L61)), ?_, ?_, ?_, ?_⟩
   · exact (by exact ho62)
   · exact (OwnF.nil _ _)
   · rw [hv]; first | exact rfl | rfl
   · rw [hv]; first | exact rfl | rfl
  have k6 : ¬ (48 ≤ b ∧ b ≤ 126) := by first | exact qh55 | omega | (simp at qh55; omega)
  refine WC.skip (hK43 _ _ (WC.sr ?_))
  refine WL.val rfl rfl rfl (Run.build rfl rfl rfl rfl (built_26)) ?_
  refine WL.val rfl rfl rfl (Run.build rfl rfl rfl rfl (built_33)) (WL.st tbk hs54 1 rfl rfl (fun _ hs65 => WL.st tbk hs65 0 rfl rfl (fun _ hs66 => WL.nil (WC.ret (ibR (tkR ?_))))))
  clear hK29
  refine retV2 rfl (resV.cellA tbk hs66 1 rfl rfl rfl rfl) (resV.cellA tbk hs66 0 rfl rfl rfl rfl) ?_
  have hv : vpStep p.dat b = (vp0, act0) := by unfold vpStep; rw [if_neg k1, if_neg k2, if_neg k3, if_pos k4, if_neg k5, if_neg k6]
  obtain ⟨L70, hs69, ho71⟩ := ownVpR.fl hs66 (OwnF.nil _ _) (OwnF.nil _ _)
  have hs72 := (((hs69.fb b2).fb b4).fb b6)
  refine ⟨⟨0, false, ⟨none, 0, 0, []⟩, ⟨none, 0, 0, []⟩⟩, _, ⟨0, 0, false, ⟨none, 0, 0, []⟩⟩, _, rfl, (St.drop ((hs72.fr ([] : Hp)).fr L70) (List.Sublist.append_left (List.sublist_append_left ([] : Hp) _) L70)), ?_, ?_, ?_, ?_⟩
  · exact (by exact ho71)
  · exact (OwnF.nil _ _)
  · rw [hv]; first | exact rfl | rfl
  · rw [hv]; first | exact rfl | rfl
 have k4 : ¬ (p.dat.State = 1) := by show ¬ (p.State = 1); first | exact qh42 | omega | (simp at qh42; omega)
 refine WC.r1 hs7 [] rfl (WC.cD rfl (fun qh74 => ?_) (fun qh74 => ?_))
 ·have k7 : p.dat.State = 2 := by show p.State = 2; first | exact qh74 | omega | (simp at qh74; omega)
  have hoa : areArgs p.dat.Args = true := by have h_ := hok; rw [vpOk_csi (.inl k7), Bool.and_eq_true] at h_; exact h_.1
  refine WC.sr (WL.r 2 hs7 [2] rfl (WL.cl Tryd.call55 rfl (k41_ p _ _ (okVpR.st0 f_p hs7) ?_ ?_ ?_) ?_))
  iterate 3 first | assumption | rfl | omega | (simp; omega)
  rintro _ whs75 ⟨r0_76, L0_77, r1_78, L1_79, rfl, hs75, ho80, ho81, hd0_82, hd1_83⟩
  replace hs75 := hs7.callF hs75
  refine ⟨_, rfl, ?_⟩
  replace hs75 := St.assoc hs75
  replace hs75 := St.back2 [_, _, _] hs75
  refine WL.r 2 hs75 [] rfl (WL.st tbk hs75 1 rfl rfl (fun _ hs84 => WL.st tbk hs84 0 rfl rfl (fun _ hs85 => WL.nil (WC.ret (ibR (tkR ?_))))))
  clear hK29
  refine retV2 rfl (resV.cellA tbk hs85 1 rfl rfl rfl rfl) (resV.cellA tbk hs85 0 rfl rfl rfl rfl) ?_
  have hv : vpStep p.dat b = vpCsi p.dat b := by unfold vpStep; rw [if_neg k1, if_neg k2, if_neg k3, if_neg k4, if_pos k7]
  refine ⟨r0_76, _, r1_78, _, rfl, (St.drop ((hs85.fr L1_79).fr L0_77) (List.Sublist.append_left (List.sublist_append_left L1_79 _) L0_77)), ?_, ?_, ?_, ?_⟩
  · exact ho80
  · exact ho81
  · rw [hv]; first | exact hd0_82 | rfl
  · rw [hv]; first | exact hd1_83 | rfl
 have k7 : ¬ (p.dat.State = 2) := by show ¬ (p.State = 2); first | exact qh74 | omega | (simp at qh74; omega)
 refine WC.skip (hK29 _ _ (WC.seq (fun K86 hK86 => WC.sr (WL.r 1 hs7 [] rfl (WL.cl Tryd.call23 rfl (k2_ _ _ _ _) ?_)))))
 rintro _ whs87 ⟨rfl, hs87⟩
 replace hs87 := hs7.call0 hs87
 refine ⟨_, rfl, WL.nil (WC.cq rfl (fun h88 qh88 => ?_) (fun h88 qh88 => ?_))⟩
 ·have k8 : 64 ≤ b ∧ b ≤ 126 := by first | exact qh88 | omega | (simp at qh88; omega)
  refine WC.sr ?_
  refine WL.val rfl rfl rfl (Run.build rfl rfl rfl rfl (built_26)) ?_
  refine WL.val rfl rfl rfl (Run.build rfl rfl rfl rfl (built_33)) (WL.st tbk hs87 1 rfl rfl (fun _ hs89 => WL.st tbk hs89 0 rfl rfl (fun _ hs90 => WL.nil (WC.ret (tkR ?_)))))
  clear hK86
  refine retV2 rfl (resV.cellA tbk hs90 1 rfl rfl rfl rfl) (resV.cellA tbk hs90 0 rfl rfl rfl rfl) ?_
  have hv : vpStep p.dat b = (vp0, act0) := by unfold vpStep; rw [if_neg k1, if_neg k2, if_neg k3, if_neg k4, if_neg k7, if_pos k8]
  obtain ⟨L94, hs93, ho95⟩ := ownVpR.fl hs90 (OwnF.nil _ _) (OwnF.nil _ _)
  have hs96 := (((hs93.fb b2).fb b4).fb b6)
  refine ⟨⟨0, false, ⟨none, 0, 0, []⟩, ⟨none, 0, 0, []⟩⟩, _, ⟨0, 0, false, ⟨none, 0, 0, []⟩⟩, _, rfl, (St.drop ((hs96.fr ([] : Hp)).fr L94) (List.Sublist.append_left (List.sublist_append_left ([] : Hp) _) L94)), ?_, ?_, ?_, ?_⟩
  · exact (by exact ho95)
  · exact (OwnF.nil _ _)
  · rw [hv]; first | exact rfl | rfl
  · rw [hv]; first | exact rfl | rfl
 have k8 : ¬ (64 ≤ b ∧ b ≤ 126) := by first | exact qh88 | omega | (simp at qh88; omega)
 refine WC.skip (hK86 _ _ (WC.sr (WL.r 1 hs87 [2] rfl ?_)))
 refine WL.cl Tryd.call35 rfl (k35_ p _ (okVpR.st0 f_p hs87) ?_) ?_
 · first | assumption | rfl | omega | (simp; omega)
 rintro _ whs98 ⟨r99, L1_100, rfl, hs98, ho101, hd102⟩
 replace hs98 := hs87.callF hs98
 refine ⟨_, rfl, ?_⟩
 replace hs98 := St.back [_, _, _] hs98
 refine WL.val rfl rfl rfl (Run.build rfl rfl rfl rfl (built_33)) (WL.st tbk hs98 1 rfl rfl (fun _ hs103 => WL.st tbk hs103 0 rfl rfl (fun _ hs104 => WL.nil (WC.ret (retV2 rfl (resV.cellA tbk hs104 1 rfl rfl rfl rfl) (resV.cellA tbk hs104 0 rfl rfl rfl rfl) ?_)))))
 have hv : vpStep p.dat b = (p.dat, act0) := by unfold vpStep; rw [if_neg k1, if_neg k2, if_neg k3, if_neg k4, if_neg k7, if_neg k8]
 refine ⟨r99, _, ⟨0, 0, false, ⟨none, 0, 0, []⟩⟩, _, rfl, (St.drop ((hs104.fr ([] : Hp)).fr L1_100) (List.Sublist.append_left (List.sublist_append_left ([] : Hp) _) L1_100)), ?_, ?_, ?_, ?_⟩
 · exact ho101
 · exact (OwnF.nil _ _)
 · rw [hv]; first | exact hd102 | rfl
 · rw [hv]; first | exact rfl | rfl
theorem inf33 : Tryd.prog.info? 33 = some Tryd.t33 := by kernel_rfl
theorem k43_ (p : VpR) (A_b : Option Addr) (n_b c_b : Nat) (b : List UInt8) (w : World) (f_p : okVpR 549755813888 w p) (f_b : SlF encB w A_b n_b b) (hsm : smVp 1048576 p.dat) (hok : vpOk p.dat = true) (hn : n_b ≤ 33554432) :
    Calls Tryd.prog 17 #[.agg #[i64 p.State, .bool p.Mark, .slice p.Args.A p.Args.n p.Args.c, .slice p.Part.A p.Part.n p.Part.c], .slice A_b n_b c_b] w fun e w' => ∃ r0 L0 A1 c1 x1 L1, e = .returned (.tuple #[.agg #[i64 r0.State, .bool r0.Mark, .slice r0.Args.A r0.Args.n r0.Args.c, .slice r0.Part.A r0.Part.n r0.Part.c], .slice A1 x1.length c1]) ∧ St w [] (L0 ++ L1) w' ∧ ownVpR r0 L0 ∧ OwnN encActR ownActR 33 (.slice A1 x1.length c1) x1 L1 ∧ r0.dat = (vpParse p.dat b).1 ∧ x1.map ActR.dat = (vpParse p.dat b).2 := by
 have nb_p_Args := f_p.Args_n
 have nl_p_Args := f_p.Args.len
 have nb_p_Part := f_p.Part_n
 have nl_p_Part := f_p.Part.len
 have hsB : smVp 549755813888 p.dat := ⟨Nat.le_trans hsm.1 (by decide), Nat.le_trans hsm.2 (by decide)⟩
 have hsa : p.Args.xs.length ≤ 1048576 := hsm.1
 have hsp : p.Part.xs.length ≤ 1048576 := hsm.2
 have hbl := f_b.len
 refine enter 39 Tryd.func17 rfl Tryd.ntmps17 rfl rfl ?_
 have hs1 := St.init w
 refine WC.sr (WL.bx hs1 rfl (fun b2 _ hs3 => WL.al hs3 Tryd.zeroValue26 rfl rfl (fun b4 _ hs5 => WL.r 1 hs5 [] rfl (WL.nil (WC.sr (WL.r 1 hs5 [1] rfl ?_))))))
 refine WL.cl Tryd.call35 rfl (k35_ p _ (okVpR.st0 f_p hs5) ?_) ?_
 · first | assumption | rfl | omega | exact ⟨by omega, by omega⟩ | (simp; omega)
 rintro _ whs6 ⟨r7, L1_8, rfl, hs6, ho9, hd10⟩
 replace hs6 := hs5.callF hs6
 refine ⟨_, rfl, ?_⟩
 replace hs6 := St.back [_, _] hs6
 skip
 refine WL.buildF (F := encActR) hs6 ([]) Tryd.runUnderlying27 Tryd.sizeOf33 Tryd.zeroValue33 rfl rfl rfl rfl rfl rfl rfl rfl rfl rfl rfl rfl (fun A14 c15 L11 whs12 hs12 ho13 => ?_)
 replace hs12 := St.back [_, _] hs12
 obtain ⟨L16, hs17, ho18⟩ := OwnN.fresh (own := ownActR) (hs12.fr L11) ho13 Bag.nil
 have hs19 := ((hs17.fb b2).fb b4)
 refine WL.al hs19 Tryd.zeroValue26 rfl rfl (fun b20 _ hs21 => WL.st tbk hs21 0 rfl rfl (fun _ hs22 => WL.r 1 hs22 [] rfl (WL.nil (WC.seq (fun K23 hK23 => WC.r1 hs22 [] rfl (WC.block ?_))))))
 have hM32 := (St.grp2 (L1 := L1_8) (L2 := L16) [_] (((((hs22.fb b2).fb b4).fr L16).fr L1_8).fb b20))
 refine WC.lV [4, 5, 6, 15, 16] rfl hM32 (fun k_ (a_ : Hp) f => ∃ (i : Nat) (acts : List ActR) (r : VpR) (L26 : Hp) (A28 : Option Addr) (c29 : Nat) (L30 : Hp), k_ = n_b - i ∧ a_ = [(b20, .cells (List.toArray [i64 r.State, .bool r.Mark, .slice r.Args.A r.Args.n r.Args.c, .slice r.Part.A r.Part.n r.Part.c]) 26 (0, 0))] ++ (L26 ++ L30) ∧ (i ≤ n_b) ∧ (r.dat = (vpParse p.dat (b.take i)).1) ∧ (acts.map ActR.dat = (vpParse p.dat (b.take i)).2) ∧ (acts.length ≤ i) ∧ ownVpR r L26 ∧ OwnN encActR ownActR 33 (.slice A28 (acts).length c29) (acts) L30 ∧ Sub [(7, .slice A28 (acts).length c29), (17, .int .i64 i)] f) (((fun (i : Nat) (acts : List ActR) => n_b - i) (0) ([]))) ?_ ?_
 ·refine ⟨0, [], r7, L1_8, A14, c15, L16, rfl, rfl, ?_, ?_, ?_, ?_, ho9, ho18, ⟨rfl, rfl, trivial⟩⟩
  · exact Nat.zero_le _
  · exact hd10
  · rfl
  · exact Nat.le_refl _
 rintro _ _ f w ⟨i, acts, r, L26, A28, c29, L30, rfl, rfl, p0, p1, p2, p3, ho27, ho31, hG⟩ hF hs33
 refine WC.sub _ (hG.app hF) ?_
 clear hG hF
 replace hs33 := St.ungrp2 [_] hs33
 have hs34 := (((hs33.fb b2).fb b4).fb b20)
 have hvr : vpOk r.dat = true := by rw [p1]; exact vpParse_ok hok
 have hlr := vpOk_len hvr
 have hsmr : smVp 1048576 r.dat := ⟨by omega, by omega⟩
 have hsmB : smVp 549755813888 r.dat := ⟨by omega, by omega⟩
 have hxb := (gat encB b i).toNat_lt
 refine WC.r1 hs34 [] rfl (WC.seq (fun K35 hK35 => ?_))
 refine WC.cD rfl (fun qh36 => ?_) (fun qh36 => ?_)
 ·refine WC.skip (hK35 _ _ (WC.seq (fun K37 hK37 => WC.block (WC.sr ?_))))
  refine WL.val rfl rfl rfl (Run.idxN Tryd.runUnderlying22 Tryd.sizeOf5 rfl rfl rfl ?_ ?_ ?_) ?_
  · exact SlF.some_ (SlF.st0 f_b hs34)
  · omega
  · omega
  refine WL.val rfl rfl rfl (Run.load Tryd.isAgg5 rfl rfl (SlF.one1 (SlF.st0 f_b hs34) ?_ rfl)) ?_
  · omega
  refine WL.r 1 hs34 [] rfl (WL.nil (WC.sr (WL.r 3 hs34 [0] rfl (WL.cl Tryd.call36 rfl (k42_ r _ _ (ownVpR.ok (B := 549755813888) ho27 (hs34.ow L26) (by assumption)) ?_ ?_ ?_) ?_))))
  iterate 3 first | assumption | rfl | omega | exact ⟨by omega, by omega⟩ | (simp; omega)
  rintro _ whs38 ⟨r0_39, L0_40, r1_41, L1_42, rfl, hs38, ho43, ho44, hd0_45, hd1_46⟩
  replace hs38 := hs34.callF hs38
  refine ⟨_, rfl, ?_⟩
  replace hs38 := St.assoc hs38
  replace hs38 := St.back2 [_, _, _] hs38
  refine WL.r 3 hs38 [] rfl (WL.al hs38 Tryd.zeroValue26 rfl rfl (fun b47 _ hs48 => WL.al hs48 Tryd.zeroValue33 rfl rfl (fun b49 _ hs50 => WL.st tbk hs50 1 rfl rfl (fun _ hs51 => WL.st tbk hs51 0 rfl rfl (fun _ hs52 => WL.nil (WC.sr (WL.r 1 hs52 [1] rfl ?_)))))))
  refine WL.st tbk hs52 2 rfl rfl (fun _ hs53 => WL.nil (WC.r1 hs53 [0] rfl ?_))
  refine WC.cN rfl (fun qh54 => ?_) (fun qh54 => ?_)
  ·have hk0 := hd0_45
   have hk1 := hd1_46
   have hkk : r1_41.Kind = (vpStep r.dat (gat encB b i).toNat).2.Kind := congrArg ActD.Kind hd1_46
   have hk : ¬ (vpStep r.dat (gat encB b i).toNat).2.Kind = 0 := by omega
   refine WC.region (WL.r 2 hs53 [0] rfl (WL.buildSlice hs53 Tryd.runUnderlying27 Tryd.sizeOf33 Tryd.zeroValue33 rfl rfl rfl rfl rfl rfl rfl rfl rfl rfl (fun b55 whs56 hs56 => ?_)))
   obtain ⟨L57, L58, hs61, ho59, ho60⟩ := OwnN.open_ (hs56.fr L30) ho31
   have hs62 := ((((((hs61.fb b2).fb b4).fb b20).fb b47).fb b49).fb b55)
   refine WL.appendG (hs62.fr L57) ho59 (srcF (F := encActR) (ys := [(r1_41 : ActR)]) Tryd.underlying27 rfl rfl (hs62.own _ (nthL_mem (i := 0) rfl)).1) Tryd.underlying27 inf33 rfl rfl rfl rfl rfl rfl rfl rfl rfl rfl ?_ (fun A66 c67 L63 whs64 hs64 ho65 => ?_)
   · (try simp only [List.length_append, List.length_singleton]); omega
   replace hs64 := St.back [_, _, _, _, _, _] hs64
   obtain ⟨L68, hs69, hb70⟩ := Bag.put (x := (r1_41 : ActR)) ((hs64.fr L1_42).fr L58) ho60 ho44
   have hs71 := ((((((hs69.fb b2).fb b4).fb b20).fb b47).fb b49).fb b55)
   obtain ⟨L73, hs72, ho74⟩ := OwnN.fold ((hs71.fr L68).fr L63) ho65 hb70
   have hs75 := ((((((hs72.fb b2).fb b4).fb b20).fb b47).fb b49).fb b55)
   refine WL.r 1 hs75 [] rfl (WL.nil (hK37 _ _ (WC.region (WL.r 2 hs75 [] rfl (WL.nil (tkN ?_))))))
   have hst := vpParse_take (v := p.dat) (l := b) (i := i) (by omega)
   replace hs75 := (hs75.d1.d1.d1.rm L26)
   have hF76 := (St.grp2 (L1 := L0_40) (L2 := L73) [_] (((((hs75.fb b2).fb b4).fr L73).fr L0_40).fb b20))
   refine ⟨sbF rfl, _, hF76, _, ?_, i + 1, ((acts) ++ [(r1_41 : ActR)]), r0_39, L0_40, A66, c67, L73, rfl, rfl, ?_, ?_, ?_, ?_, ho43, ho74, ⟨rfl, rfl, trivial⟩⟩
   · omega
   · omega
   · rw [hst, ← p1]; exact hk0
   · rw [hst, ← p2, ← p1, if_neg hk, List.map_append]; congr 1; show [_] = [_]; rw [← hk1]
   · (try simp only [List.length_append, List.length_singleton]); omega
  have hk0 := hd0_45
  have hk1 := hd1_46
  have hkk : r1_41.Kind = (vpStep r.dat (gat encB b i).toNat).2.Kind := congrArg ActD.Kind hd1_46
  have hk : (vpStep r.dat (gat encB b i).toNat).2.Kind = 0 := by omega
  refine WC.skip (hK37 _ _ (WC.region (WL.r 2 hs53 [] rfl (WL.nil (tkN ?_)))))
  have hst := vpParse_take (v := p.dat) (l := b) (i := i) (by omega)
  replace hs53 := ((hs53.d1.d1.rm L1_42).rm L26)
  have hF77 := (St.grp2 (L1 := L0_40) (L2 := L30) [_] (((((hs53.fb b2).fb b4).fr L30).fr L0_40).fb b20))
  refine ⟨sbF rfl, _, hF77, _, ?_, i + 1, acts, r0_39, L0_40, A28, c29, L30, rfl, rfl, ?_, ?_, ?_, ?_, ho43, ho31, ⟨rfl, rfl, trivial⟩⟩
  · omega
  · omega
  · rw [hst, ← p1]; exact hk0
  · rw [hst, ← p2, ← p1, if_pos hk, List.append_nil]
  · (try simp only [List.length_append, List.length_singleton]); omega
 refine WC.exit (hK23 _ _ (WC.sr (WL.r 2 hs34 [0] rfl (WL.st tbk hs34 1 rfl rfl (fun _ hs78 => WL.r 1 hs78 [] rfl (WL.nil (WC.ret ?_)))))))
 refine retV2 rfl (resV.cellA tbk hs78 1 rfl rfl rfl rfl) (resV.tmp rfl) ?_
 have hi_ : i = n_b := by omega
 have ht : b.take i = b := List.take_of_length_le (by omega)
 rw [ht] at p1 p2
 refine ⟨r, _, _, _, _, _, rfl, (St.drop ((hs78.fr L30).fr L26) (List.Sublist.append_left (List.sublist_append_left L30 _) L26)), ?_, ?_, ?_, ?_⟩
 · exact ho27
 · exact ho31
 · rw [p1]
 · rw [p2]
theorem inf9 : Tryd.prog.info? 9 = some Tryd.t9 := by kernel_rfl
set_option maxHeartbeats 8000000 in
theorem k44_ (a : ActR) (w : World) (f_a : okActR 549755813888 w a) (ht : TabOk w) (hn : a.Args.xs.length ≤ 1048576) :
    Calls Tryd.prog 10 #[.agg #[i64 a.Kind, i64 a.R, .bool a.Mark, .slice a.Args.A a.Args.n a.Args.c]] w fun e w' => e = .returned (.string (actT a.dat)) ∧ St w [] [] w' := by
 have nb_a_Args := f_a.Args_n
 have nl_a_Args := f_a.Args.len
 have hla := f_a.Args.len
 have hrl := runeB_len a.R
 refine enter 108 Tryd.func10 rfl Tryd.ntmps10 rfl rfl ?_
 have hs1 := St.init w
 refine WC.sr (WL.bx hs1 rfl (fun b2 _ hs3 => WL.r 1 hs3 [] rfl (WL.nil (WC.r1 hs3 [] rfl (WC.seq (fun K4 hK4 => WC.block (WC.r1 hs3 [0] rfl ?_)))))))
 refine WC.cq rfl (fun h5 qh5 => ?_) (fun h5 qh5 => ?_)
 ·have k1 : a.dat.Kind = 1 := (show a.Kind = 1 by have h9 := h5; simpa using h9)
  refine WC.region (WL.r 2 hs3 [0] rfl (WL.cl Tryd.call22 rfl (k17_ _ _) ?_))
  rintro _ whs6 ⟨A7, c8, L1_9, rfl, hs6, ho10⟩
  replace hs6 := hs3.callF hs6
  refine ⟨_, rfl, ?_⟩
  replace hs6 := St.back [_] hs6
  refine WL.val rfl rfl rfl (Run.strOf (SlF.ofOwn ho10 (hs6.ow L1_9)) Tryd.underlying22 Tryd.underlying5 Tryd.underlying9 rfl rfl) (WL.r 1 hs6 [] rfl (WL.nil (hK4 _ _ (WC.seq (fun K11 hK11 => WC.sr ?_)))))
  refine WL.val rfl rfl rfl (Run.build rfl rfl rfl rfl (built_26)) (WL.r 1 hs6 [] rfl (WL.bytesOf hs6 Tryd.underlying9 Tryd.underlying22 Tryd.underlying5 rfl rfl rfl rfl rfl ?_ (fun A15 c16 L12 whs13 hs13 ho14 => ?_)))
  · (simp [ByteArray.size]; try omega)
  replace hs13 := St.back [_] hs13
  refine WL.cl Tryd.call17 rfl (k43_ ⟨_, _, ⟨_, _, _, _⟩, ⟨_, _, _, _⟩⟩ _ _ _ _ _ ⟨(SlF.nil _ _), (by first | assumption | omega | simp), (by first | assumption | omega | (simp; omega) | simp), (SlF.nil _ _), (by first | assumption | omega | simp), (by first | assumption | omega | (simp; omega) | simp)⟩ (SlF.ofOwn ho14 (hs13.ow L12)) ?_ ?_ ?_) ?_
  iterate 3 focus first | assumption | rfl | omega | exact tab_st ht (by assumption) | exact ⟨Nat.zero_le _, Nat.zero_le _⟩ | (simp; first | done | omega)
  rintro _ whs17 ⟨r0_18, L0_19, A1_20, c1_21, x1_22, L1_23, rfl, hs17, ho24, ho25, hd0_26, hd1_27⟩
  replace hs17 := hs13.callF hs17
  refine ⟨_, rfl, ?_⟩
  replace hs17 := St.assoc hs17
  replace hs17 := St.back2 [_] hs17
  have hp0 : r0_18.dat = (vpParse vp0 (runeB a.R)).1 := hd0_26.trans (congrArg (fun z => (vpParse vp0 z).1) (by simp))
  have hp1 : x1_22.map ActR.dat = (vpParse vp0 (runeB a.R)).2 := hd1_27.trans (congrArg (fun z => (vpParse vp0 z).2) (by simp))
  have hsma : ∀ y, y ∈ x1_22.map ActR.dat → smAct 549755813888 y := by intro y hy; rw [hp1] at hy; have h9 := vpParse_act (v := vp0) rfl y hy; show y.Args.length ≤ 549755813888; omega
  have hvk := vpOk_len (vpParse_ok (l := (runeB a.R)) (v := vp0) rfl)
  have hsv : smVp 549755813888 r0_18.dat := by rw [hp0]; exact ⟨by omega, by omega⟩
  have hl0 : r0_18.Part.xs.length = r0_18.Part.n := (ownVpR.ok (B := 549755813888) ho24 (hs17.ow L0_19) hsv).Part.len
  have hB : (runeB a.R) = actBy a.dat := (by unfold actBy; rw [if_pos k1]; rfl)
  have hG : goodI (runeB a.R) a.dat = actOk a.dat := by rw [hB]; exact goodI_B a.dat
  refine WL.r 3 hs17 [] rfl (WL.al hs17 Tryd.zeroValue26 rfl rfl (fun b28 _ hs29 => WL.st tbk hs29 0 rfl rfl (fun _ hs30 => WL.r 1 hs30 [] rfl (WL.nil (WC.sq1 hs30 (WQ.r 4 [0] rfl (WQ.pO tbk 4 Acts.nil [0] rfl rfl rfl rfl (fun g_ => ⟨rfl, trivial⟩) ?_)))))))
  refine WQ.r 1 [] rfl (WQ.pO tbk 3 Acts.nil [] rfl rfl rfl rfl (fun g_ => trivial) (WQ.r 1 [] rfl ?_))
  apply WQ.gO 6 Acts.nil rfl
  ·intro g31 J32
   have qg31 := g31
   try simp only [bf, within_iff, within_not] at qg31
   refine WQ.runA tbk 1 (Acts.nil.cons (j := 14) rfl g31) [] rfl trivial ?_
   refine WQ.val (wantF rfl g31) rfl rfl (fun w_ hs_ => (Run.idx Tryd.runUnderlying27 Tryd.sizeOf33 rfl rfl rfl ?_ ?_ ?_)) ?_
   · exact SlF.some_ (OwnN.sl ho25 ((hs_ : St _ _ _ _).ow L1_23))
   · omega
   · omega
   refine WQ.val (wantF rfl g31) rfl rfl (fun w_ hs_ => (Run.loadA Tryd.isAgg33 Tryd.sizeOf33 rfl rfl (SlF.whole (OwnN.sl ho25 ((hs_ : St _ _ _ _).ow L1_23)) ?_))) ?_
   · omega
   refine WQ.runA tbk 1 (Acts.nil.cons (j := 14) rfl g31) [1] rfl ⟨rfl, trivial⟩ ?_
   refine WQ.call (wantF rfl g31) rfl rfl (fun w_ hs_ => (Run.call Tryd.call26 rfl rfl rfl)) (fun w_ hs_ => (k24_ (gat encActR x1_22 0) a _ (SlN.nth (OwnN.ok ho25 ((hs_ : St _ _ _ _).ow L1_23) (fun y Li hy h3 hl => h3.ok hl (by have h9_ := List.mem_map_of_mem (f := ActR.dat) hy; first | exact hsma _ h9_))) (by omega)) (okActR.st0 f_a (hs_ : St _ _ _ _))).mono fun e_ w_ h_ => ⟨h_.1, (hs_ : St _ _ _ _).call0 h_.2⟩) ?_
   refine WQ.runA tbk 1 (Acts.nil.cons (j := 14) rfl g31) [] rfl trivial (WQ.eO 6 Acts.nil J32 g31 rfl rfl)
  refine WQ.nil (fun _ (hs33 : St _ _ _ _) => ?_)
  refine WC.cq rfl (fun h34 qh34 => ?_) (fun h34 qh34 => ?_)
  ·have hg : actOk a.dat = false := by rw [← hG, goodI_R hp0 hp1 hl0]; have h9 := h34; grind
   refine WC.r1 hs33 [] rfl (WC.ret (tkR ?_))
   clear hK11
   refine rtv rfl rfl hs33 ?_
   first | (rw [actT_no hg]; done) | (rw [hno] at hg; cases hg) | (rw [actT_yes hg, ← hB]; done) | (rw [actT_yes hg, ← hB]; refine congrArg Value.string (ByteArray.ext ?_); simp; done) | (rw [actT_yes hg, ← hB]; refine congrArg Value.string (ByteArray.ext ?_); simp [actPre, argT, map_numBA, ActR.dat, hmk]; done) | (rw [actT_no (by rw [← Bool.not_eq_true]; intro hh; have := (actOk_R hh).2 k1; exact hr (by have e : a.dat.R = a.R := rfl; omega))])
  have hg : actOk a.dat = true := by rw [← hG, goodI_R hp0 hp1 hl0]; have h9 := h34; grind
  refine WC.skip (hK11 _ _ (WC.r1 hs33 [] rfl (WC.ret (rtv rfl rfl hs33 ?_))))
  first | (rw [actT_no hg]; done) | (rw [hno] at hg; cases hg) | (rw [actT_yes hg, ← hB]; done) | (rw [actT_yes hg, ← hB]; refine congrArg Value.string (ByteArray.ext ?_); simp; done) | (rw [actT_yes hg, ← hB]; refine congrArg Value.string (ByteArray.ext ?_); simp [actPre, argT, map_numBA, ActR.dat, hmk]; done) | (rw [actT_no (by rw [← Bool.not_eq_true]; intro hh; have := (actOk_R hh).2 k1; exact hr (by have e : a.dat.R = a.R := rfl; omega))])
 have k1 : ¬ a.dat.Kind = 1 := (show ¬ a.Kind = 1 by have h9 := h5; simpa using h9)
 refine WC.sr (WL.r 2 hs3 [0] rfl (WL.cl Tryd.call23 rfl (k2_ _ _ _ _) ?_))
 rintro _ whs35 ⟨rfl, hs35⟩
 replace hs35 := hs3.call0 hs35
 refine ⟨_, rfl, WL.r 2 hs35 [] rfl (WL.nil (WC.cq rfl (fun h36 qh36 => ?_) (fun h36 qh36 => ?_)))⟩
 ·have hr : ¬ (0 ≤ a.R ∧ a.R ≤ 255) := within_not.1 (by have h9 := h36; simpa using h9)
  refine WC.r1 hs35 [] rfl (WC.ret (ibR (tkR ?_)))
  clear hK4
  refine rtv rfl rfl hs35 ?_
  first | (rw [actT_no hg]; done) | (rw [hno] at hg; cases hg) | (rw [actT_yes hg, ← hB]; done) | (rw [actT_yes hg, ← hB]; refine congrArg Value.string (ByteArray.ext ?_); simp; done) | (rw [actT_yes hg, ← hB]; refine congrArg Value.string (ByteArray.ext ?_); simp [actPre, argT, map_numBA, ActR.dat, hmk]; done) | (rw [actT_no (by rw [← Bool.not_eq_true]; intro hh; have := (actOk_R hh).2 k1; exact hr (by have e : a.dat.R = a.R := rfl; omega))])
 have hr : 0 ≤ a.R ∧ a.R ≤ 255 := within_iff.1 (by have h9 := h36; simpa using h9)
 refine WC.r1 hs35 [0] rfl (WC.cq rfl (fun h37 qh37 => ?_) (fun h37 qh37 => ?_))
 ·have k2 : a.dat.Kind = 2 := (show a.Kind = 2 by have h9 := h37; simpa using h9)
  refine WC.region (WL.r 3 hs35 [0] rfl (WL.buildSlice hs35 Tryd.runUnderlying22 Tryd.sizeOf5 Tryd.zeroValue5 rfl rfl rfl rfl rfl rfl rfl rfl rfl rfl (fun b38 whs39 hs39 => WL.val rfl rfl rfl (Run.strOf (SlF.own1 (hs39.own _ (nthL_mem (i := 0) rfl)).1) Tryd.underlying22 Tryd.underlying5 Tryd.underlying9 rfl rfl) (WL.r 1 hs39 [] rfl (WL.nil (hK4 _ _ (WC.seq (fun K40 hK40 => ?_))))))))
  refine WC.sr ?_
  refine WL.val rfl rfl rfl (Run.build rfl rfl rfl rfl (built_26)) (WL.r 1 hs39 [] rfl (WL.bytesOf hs39 Tryd.underlying9 Tryd.underlying22 Tryd.underlying5 rfl rfl rfl rfl rfl ?_ (fun A44 c45 L41 whs42 hs42 ho43 => ?_)))
  · (simp [ByteArray.size]; try omega)
  replace hs42 := St.back [_, _] hs42
  refine WL.cl Tryd.call17 rfl (k43_ ⟨_, _, ⟨_, _, _, _⟩, ⟨_, _, _, _⟩⟩ _ _ _ _ _ ⟨(SlF.nil _ _), (by first | assumption | omega | simp), (by first | assumption | omega | (simp; omega) | simp), (SlF.nil _ _), (by first | assumption | omega | simp), (by first | assumption | omega | (simp; omega) | simp)⟩ (SlF.ofOwn ho43 (hs42.ow L41)) ?_ ?_ ?_) ?_
  iterate 3 focus first | assumption | rfl | omega | exact tab_st ht (by assumption) | exact ⟨Nat.zero_le _, Nat.zero_le _⟩ | (simp; first | done | omega)
  rintro _ whs46 ⟨r0_47, L0_48, A1_49, c1_50, x1_51, L1_52, rfl, hs46, ho53, ho54, hd0_55, hd1_56⟩
  replace hs46 := hs42.callF hs46
  refine ⟨_, rfl, ?_⟩
  replace hs46 := St.assoc hs46
  replace hs46 := St.back2 [_, _] hs46
  have hp0 : r0_47.dat = (vpParse vp0 [ub a.R]).1 := hd0_55.trans (congrArg (fun z => (vpParse vp0 z).1) (by simp))
  have hp1 : x1_51.map ActR.dat = (vpParse vp0 [ub a.R]).2 := hd1_56.trans (congrArg (fun z => (vpParse vp0 z).2) (by simp))
  have hsma : ∀ y, y ∈ x1_51.map ActR.dat → smAct 549755813888 y := by intro y hy; rw [hp1] at hy; have h9 := vpParse_act (v := vp0) rfl y hy; show y.Args.length ≤ 549755813888; omega
  have hvk := vpOk_len (vpParse_ok (l := [ub a.R]) (v := vp0) rfl)
  have hsv : smVp 549755813888 r0_47.dat := by rw [hp0]; exact ⟨by omega, by omega⟩
  have hl0 : r0_47.Part.xs.length = r0_47.Part.n := (ownVpR.ok (B := 549755813888) ho53 (hs46.ow L0_48) hsv).Part.len
  have hB : [ub a.R] = actBy a.dat := (by unfold actBy; rw [if_neg k1, if_pos k2]; rfl)
  have hG : goodI [ub a.R] a.dat = actOk a.dat := by rw [hB]; exact goodI_B a.dat
  refine WL.r 3 hs46 [] rfl (WL.al hs46 Tryd.zeroValue26 rfl rfl (fun b57 _ hs58 => WL.st tbk hs58 0 rfl rfl (fun _ hs59 => WL.r 1 hs59 [] rfl (WL.nil (WC.sq1 hs59 (WQ.r 4 [0] rfl (WQ.pO tbk 4 Acts.nil [0] rfl rfl rfl rfl (fun g_ => ⟨rfl, trivial⟩) ?_)))))))
  refine WQ.r 1 [] rfl (WQ.pO tbk 3 Acts.nil [] rfl rfl rfl rfl (fun g_ => trivial) (WQ.r 1 [] rfl ?_))
  apply WQ.gO 6 Acts.nil rfl
  ·intro g60 J61
   have qg60 := g60
   try simp only [bf, within_iff, within_not] at qg60
   refine WQ.runA tbk 1 (Acts.nil.cons (j := 14) rfl g60) [] rfl trivial ?_
   refine WQ.val (wantF rfl g60) rfl rfl (fun w_ hs_ => (Run.idx Tryd.runUnderlying27 Tryd.sizeOf33 rfl rfl rfl ?_ ?_ ?_)) ?_
   · exact SlF.some_ (OwnN.sl ho54 ((hs_ : St _ _ _ _).ow L1_52))
   · omega
   · omega
   refine WQ.val (wantF rfl g60) rfl rfl (fun w_ hs_ => (Run.loadA Tryd.isAgg33 Tryd.sizeOf33 rfl rfl (SlF.whole (OwnN.sl ho54 ((hs_ : St _ _ _ _).ow L1_52)) ?_))) ?_
   · omega
   refine WQ.runA tbk 1 (Acts.nil.cons (j := 14) rfl g60) [2] rfl ⟨rfl, trivial⟩ ?_
   refine WQ.call (wantF rfl g60) rfl rfl (fun w_ hs_ => (Run.call Tryd.call26 rfl rfl rfl)) (fun w_ hs_ => (k24_ (gat encActR x1_51 0) a _ (SlN.nth (OwnN.ok ho54 ((hs_ : St _ _ _ _).ow L1_52) (fun y Li hy h3 hl => h3.ok hl (by have h9_ := List.mem_map_of_mem (f := ActR.dat) hy; first | exact hsma _ h9_))) (by omega)) (okActR.st0 f_a (hs_ : St _ _ _ _))).mono fun e_ w_ h_ => ⟨h_.1, (hs_ : St _ _ _ _).call0 h_.2⟩) ?_
   refine WQ.runA tbk 1 (Acts.nil.cons (j := 14) rfl g60) [] rfl trivial (WQ.eO 6 Acts.nil J61 g60 rfl rfl)
  refine WQ.nil (fun _ (hs62 : St _ _ _ _) => ?_)
  refine WC.cq rfl (fun h63 qh63 => ?_) (fun h63 qh63 => ?_)
  ·have hg : actOk a.dat = false := by rw [← hG, goodI_R hp0 hp1 hl0]; have h9 := h63; grind
   refine WC.r1 hs62 [] rfl (WC.ret (tkR ?_))
   clear hK40
   refine rtv rfl rfl hs62 ?_
   first | (rw [actT_no hg]; done) | (rw [hno] at hg; cases hg) | (rw [actT_yes hg, ← hB]; done) | (rw [actT_yes hg, ← hB]; refine congrArg Value.string (ByteArray.ext ?_); simp; done) | (rw [actT_yes hg, ← hB]; refine congrArg Value.string (ByteArray.ext ?_); simp [actPre, argT, map_numBA, ActR.dat, hmk]; done) | (rw [actT_no (by rw [← Bool.not_eq_true]; intro hh; have := (actOk_R hh).2 k1; exact hr (by have e : a.dat.R = a.R := rfl; omega))])
  have hg : actOk a.dat = true := by rw [← hG, goodI_R hp0 hp1 hl0]; have h9 := h63; grind
  refine WC.skip (hK40 _ _ (WC.r1 hs62 [] rfl (WC.ret (rtv rfl rfl hs62 ?_))))
  first | (rw [actT_no hg]; done) | (rw [hno] at hg; cases hg) | (rw [actT_yes hg, ← hB]; done) | (rw [actT_yes hg, ← hB]; refine congrArg Value.string (ByteArray.ext ?_); simp; done) | (rw [actT_yes hg, ← hB]; refine congrArg Value.string (ByteArray.ext ?_); simp [actPre, argT, map_numBA, ActR.dat, hmk]; done) | (rw [actT_no (by rw [← Bool.not_eq_true]; intro hh; have := (actOk_R hh).2 k1; exact hr (by have e : a.dat.R = a.R := rfl; omega))])
 have k2 : ¬ a.dat.Kind = 2 := (show ¬ a.Kind = 2 by have h9 := h37; simpa using h9)
 refine WC.r1 hs35 [0] rfl (WC.cq rfl (fun h64 qh64 => ?_) (fun h64 qh64 => ?_))
 ·have k3 : a.dat.Kind = 3 := (show a.Kind = 3 by have h9 := h64; simpa using h9)
  refine WC.region (WL.r 3 hs35 [0] rfl (WL.buildSlice hs35 Tryd.runUnderlying22 Tryd.sizeOf5 Tryd.zeroValue5 rfl rfl rfl rfl rfl rfl rfl rfl rfl rfl (fun b65 whs66 hs66 => WL.val rfl rfl rfl (Run.strOf (SlF.own1 (hs66.own _ (nthL_mem (i := 0) rfl)).1) Tryd.underlying22 Tryd.underlying5 Tryd.underlying9 rfl rfl) ?_)))
  refine WL.val rfl rfl rfl (Run.addS rfl rfl rfl ?_) ?_
  · (simp [ByteArray.size]; try omega)
  refine WL.r 1 hs66 [] rfl (WL.nil (hK4 _ _ (WC.seq (fun K67 hK67 => WC.sr ?_))))
  refine WL.val rfl rfl rfl (Run.build rfl rfl rfl rfl (built_26)) (WL.r 1 hs66 [] rfl (WL.bytesOf hs66 Tryd.underlying9 Tryd.underlying22 Tryd.underlying5 rfl rfl rfl rfl rfl ?_ (fun A71 c72 L68 whs69 hs69 ho70 => ?_)))
  · (simp [ByteArray.size]; try omega)
  replace hs69 := St.back [_, _] hs69
  refine WL.cl Tryd.call17 rfl (k43_ ⟨_, _, ⟨_, _, _, _⟩, ⟨_, _, _, _⟩⟩ _ _ _ _ _ ⟨(SlF.nil _ _), (by first | assumption | omega | simp), (by first | assumption | omega | (simp; omega) | simp), (SlF.nil _ _), (by first | assumption | omega | simp), (by first | assumption | omega | (simp; omega) | simp)⟩ (SlF.ofOwn ho70 (hs69.ow L68)) ?_ ?_ ?_) ?_
  iterate 3 focus first | assumption | rfl | omega | exact tab_st ht (by assumption) | exact ⟨Nat.zero_le _, Nat.zero_le _⟩ | (simp; first | done | omega)
  rintro _ whs73 ⟨r0_74, L0_75, A1_76, c1_77, x1_78, L1_79, rfl, hs73, ho80, ho81, hd0_82, hd1_83⟩
  replace hs73 := hs69.callF hs73
  refine ⟨_, rfl, ?_⟩
  replace hs73 := St.assoc hs73
  replace hs73 := St.back2 [_, _] hs73
  have hp0 : r0_74.dat = (vpParse vp0 [27, ub a.R]).1 := hd0_82.trans (congrArg (fun z => (vpParse vp0 z).1) (by simp))
  have hp1 : x1_78.map ActR.dat = (vpParse vp0 [27, ub a.R]).2 := hd1_83.trans (congrArg (fun z => (vpParse vp0 z).2) (by simp))
  have hsma : ∀ y, y ∈ x1_78.map ActR.dat → smAct 549755813888 y := by intro y hy; rw [hp1] at hy; have h9 := vpParse_act (v := vp0) rfl y hy; show y.Args.length ≤ 549755813888; omega
  have hvk := vpOk_len (vpParse_ok (l := [27, ub a.R]) (v := vp0) rfl)
  have hsv : smVp 549755813888 r0_74.dat := by rw [hp0]; exact ⟨by omega, by omega⟩
  have hl0 : r0_74.Part.xs.length = r0_74.Part.n := (ownVpR.ok (B := 549755813888) ho80 (hs73.ow L0_75) hsv).Part.len
  have hB : [27, ub a.R] = actBy a.dat := (by unfold actBy; rw [if_neg k1, if_neg k2, if_pos k3]; rfl)
  have hG : goodI [27, ub a.R] a.dat = actOk a.dat := by rw [hB]; exact goodI_B a.dat
  refine WL.r 3 hs73 [] rfl (WL.al hs73 Tryd.zeroValue26 rfl rfl (fun b84 _ hs85 => WL.st tbk hs85 0 rfl rfl (fun _ hs86 => WL.r 1 hs86 [] rfl (WL.nil (WC.sq1 hs86 (WQ.r 4 [0] rfl (WQ.pO tbk 4 Acts.nil [0] rfl rfl rfl rfl (fun g_ => ⟨rfl, trivial⟩) ?_)))))))
  refine WQ.r 1 [] rfl (WQ.pO tbk 3 Acts.nil [] rfl rfl rfl rfl (fun g_ => trivial) (WQ.r 1 [] rfl ?_))
  apply WQ.gO 6 Acts.nil rfl
  ·intro g87 J88
   have qg87 := g87
   try simp only [bf, within_iff, within_not] at qg87
   refine WQ.runA tbk 1 (Acts.nil.cons (j := 14) rfl g87) [] rfl trivial ?_
   refine WQ.val (wantF rfl g87) rfl rfl (fun w_ hs_ => (Run.idx Tryd.runUnderlying27 Tryd.sizeOf33 rfl rfl rfl ?_ ?_ ?_)) ?_
   · exact SlF.some_ (OwnN.sl ho81 ((hs_ : St _ _ _ _).ow L1_79))
   · omega
   · omega
   refine WQ.val (wantF rfl g87) rfl rfl (fun w_ hs_ => (Run.loadA Tryd.isAgg33 Tryd.sizeOf33 rfl rfl (SlF.whole (OwnN.sl ho81 ((hs_ : St _ _ _ _).ow L1_79)) ?_))) ?_
   · omega
   refine WQ.runA tbk 1 (Acts.nil.cons (j := 14) rfl g87) [2] rfl ⟨rfl, trivial⟩ ?_
   refine WQ.call (wantF rfl g87) rfl rfl (fun w_ hs_ => (Run.call Tryd.call26 rfl rfl rfl)) (fun w_ hs_ => (k24_ (gat encActR x1_78 0) a _ (SlN.nth (OwnN.ok ho81 ((hs_ : St _ _ _ _).ow L1_79) (fun y Li hy h3 hl => h3.ok hl (by have h9_ := List.mem_map_of_mem (f := ActR.dat) hy; first | exact hsma _ h9_))) (by omega)) (okActR.st0 f_a (hs_ : St _ _ _ _))).mono fun e_ w_ h_ => ⟨h_.1, (hs_ : St _ _ _ _).call0 h_.2⟩) ?_
   refine WQ.runA tbk 1 (Acts.nil.cons (j := 14) rfl g87) [] rfl trivial (WQ.eO 6 Acts.nil J88 g87 rfl rfl)
  refine WQ.nil (fun _ (hs89 : St _ _ _ _) => ?_)
  refine WC.cq rfl (fun h90 qh90 => ?_) (fun h90 qh90 => ?_)
  ·have hg : actOk a.dat = false := by rw [← hG, goodI_R hp0 hp1 hl0]; have h9 := h90; grind
   refine WC.r1 hs89 [] rfl (WC.ret (tkR ?_))
   clear hK67
   refine rtv rfl rfl hs89 ?_
   first | (rw [actT_no hg]; done) | (rw [hno] at hg; cases hg) | (rw [actT_yes hg, ← hB]; done) | (rw [actT_yes hg, ← hB]; refine congrArg Value.string (ByteArray.ext ?_); simp; done) | (rw [actT_yes hg, ← hB]; refine congrArg Value.string (ByteArray.ext ?_); simp [actPre, argT, map_numBA, ActR.dat, hmk]; done) | (rw [actT_no (by rw [← Bool.not_eq_true]; intro hh; have := (actOk_R hh).2 k1; exact hr (by have e : a.dat.R = a.R := rfl; omega))])
  have hg : actOk a.dat = true := by rw [← hG, goodI_R hp0 hp1 hl0]; have h9 := h90; grind
  refine WC.skip (hK67 _ _ (WC.r1 hs89 [] rfl (WC.ret (rtv rfl rfl hs89 ?_))))
  first | (rw [actT_no hg]; done) | (rw [hno] at hg; cases hg) | (rw [actT_yes hg, ← hB]; done) | (rw [actT_yes hg, ← hB]; refine congrArg Value.string (ByteArray.ext ?_); simp; done) | (rw [actT_yes hg, ← hB]; refine congrArg Value.string (ByteArray.ext ?_); simp [actPre, argT, map_numBA, ActR.dat, hmk]; done) | (rw [actT_no (by rw [← Bool.not_eq_true]; intro hh; have := (actOk_R hh).2 k1; exact hr (by have e : a.dat.R = a.R := rfl; omega))])
 have k3 : ¬ a.dat.Kind = 3 := (show ¬ a.Kind = 3 by have h9 := h64; simpa using h9)
 refine WC.sr (WL.r 4 hs35 [0] rfl ?_)
 apply WL.gA 3 Acts.nil hs35 rfl
 ·intro g91 J92
  have qg91 := g91
  try simp only [bf, within_iff, within_not] at qg91
  refine WL.runA tbk 2 (Acts.nil.cons (j := 3) rfl g91) hs35 [0] rfl ⟨rfl, trivial⟩ (WL.call (wantT rfl g91) rfl rfl (Run.call Tryd.call19 rfl rfl rfl) (k32_ _ _ _ _ _ (SlF.st0 f_a.Args hs35) ?_) ?_)
  · first | assumption | rfl | omega | exact tab_st ht (by assumption) | exact ⟨Nat.zero_le _, Nat.zero_le _⟩ | (simp; first | done | omega)
  rintro _ whs93 ⟨rfl, hs93⟩
  replace hs93 := hs35.call0 hs93
  refine ⟨_, rfl, WL.eA 3 Acts.nil J92 hs93 g91 rfl rfl⟩
 intro _ hs94
 refine WL.r 1 hs94 [] rfl (WL.nil (WC.cq rfl (fun h95 qh95 => ?_) (fun h95 qh95 => ?_)))
 ·have k4 : a.dat.Kind = 4 ∧ areArgs a.Args.xs = true := (show a.Kind = 4 ∧ areArgs a.Args.xs = true by have h9 := h95; simpa using h9)
  have hal := (areArgs_iff.1 k4.2).1
  have hjl := join_len2 hal
  replace k4 := k4.1
  refine WC.sr (WL.buildF (F := encS) hs94 ([]) Tryd.runUnderlying52 Tryd.sizeOf9 Tryd.zeroValue9 rfl rfl rfl rfl rfl rfl rfl rfl rfl rfl rfl rfl (fun A99 c100 L96 whs97 hs97 ho98 => ?_))
  replace hs97 := St.back [_] hs97
  refine WL.r 1 hs97 [] rfl (WL.nil (WC.seq (fun K101 hK101 => WC.r1 hs97 [0] rfl (WC.block ?_))))
  refine WC.lO [1, 2, 3, 9, 17, 22, 31, 41, 52, 53] rfl (hs97.fr L96) (fun k_ f L_ => ∃ (ws : List ByteArray) (i : Nat) (A102 : Option Addr) (c103 : Nat), k_ = a.Args.n - i ∧ (i ≤ a.Args.n) ∧ (ws = (a.Args.xs.take i).map numBA) ∧ OwnF encS 9 (.slice A102 (ws.length) c103) (ws) L_ ∧ Sub [(4, .slice A102 (ws.length) c103), (54, .int .i64 i)] f) (((fun (ws : List ByteArray) (i : Nat) => a.Args.n - i) ([]) (0))) ?_ ?_
  ·refine ⟨[], 0, _, _, rfl, ?_, ?_, ho98, ⟨rfl, rfl, trivial⟩⟩
   · exact Nat.zero_le _
   · rfl
  clear hs97
  rintro _ f w L104 ⟨ws, i, A102, c103, rfl, p0, p1, ho105, hG⟩ hF hs106
  refine WC.sub _ (hG.app hF) ?_
  clear hG hF
  replace hs106 := St.back [_] hs106
  have hwl : ws.length ≤ 8 := by rw [p1, List.length_map, List.length_take]; omega
  refine WC.r1 hs106 [] rfl (WC.seq (fun K107 hK107 => ?_))
  refine WC.cq rfl (fun h108 qh108 => ?_) (fun h108 qh108 => ?_)
  ·have hil : i < a.Args.n := by have h9 := h108; simpa using h9
   refine WC.skip (hK107 _ _ (WC.seq (fun K109 hK109 => WC.block (WC.sr ?_))))
   refine WL.val rfl rfl rfl (Run.idxN Tryd.runUnderlying24 Tryd.sizeOf3 rfl rfl rfl ?_ ?_ ?_) ?_
   · exact SlF.some_ (SlF.st0 f_a.Args hs106)
   · omega
   · omega
   refine WL.val rfl rfl rfl (Run.load Tryd.isAgg3 rfl rfl (SlF.one1 (SlF.st0 f_a.Args hs106) ?_ rfl)) ?_
   · omega
   refine WL.r 1 hs106 [] rfl (WL.nil (WC.region (WL.r 2 hs106 [] rfl (WL.cl Tryd.call24 rfl (k8_ _ _ ?_) ?_))))
   · first | assumption | rfl | omega | exact tab_st ht (by assumption) | exact ⟨Nat.zero_le _, Nat.zero_le _⟩ | (simp; first | done | omega)
   rintro _ whs110 ⟨rfl, hs110⟩
   replace hs110 := hs106.call0 hs110
   refine ⟨_, rfl, WL.buildSlice hs110 Tryd.runUnderlying52 Tryd.sizeOf9 Tryd.zeroValue9 rfl rfl rfl rfl rfl rfl rfl rfl rfl rfl (fun b111 whs112 hs112 => ?_)⟩
   refine WL.appendG (hs112.fr L104) ho105 (srcF (F := encS) (ys := [numBA (gat encI a.Args.xs i)]) Tryd.underlying52 rfl rfl (hs112.own _ (nthL_mem (i := 0) rfl)).1) Tryd.underlying52 inf9 rfl rfl rfl rfl rfl rfl rfl rfl rfl rfl ?_ (fun A116 c117 L113 whs114 hs114 ho115 => ?_)
   · (try simp only [List.length_append, List.length_singleton]); omega
   replace hs114 := St.back [_, _] hs114
   refine WL.r 1 hs114 [] rfl (WL.nil (hK109 _ _ (WC.region (WL.r 2 hs114 [] rfl (WL.nil (tkN ?_))))))
   replace hs114 := hs114.d1
   refine ⟨sbF rfl, _, (hs114.fr L113), _, ?_, _, i + 1, _, _, rfl, ?_, ?_, ho115, ⟨rfl, rfl, trivial⟩⟩
   · omega
   · omega
   · rw [p1, List.take_add_one, gat_get (F := encI) (by omega), List.map_append]; rfl
  have hws : ws = a.Args.xs.map numBA := by rw [p1, List.take_of_length_le (by omega)]
  subst hws
  refine WC.exit (hK101 _ _ (WC.r1 hs106 [] rfl (WC.seq (fun K118 hK118 => WC.r1 hs106 [0] rfl ?_))))
  refine WC.cq rfl (fun h119 qh119 => ?_) (fun h119 qh119 => ?_)
  ·have hmk : a.Mark = true := h119
   refine WC.region (WL.r 1 hs106 [] rfl (WL.val rfl rfl rfl (Run.addS rfl rfl rfl ?_) ?_))
   · (simp [ByteArray.size]; try omega)
   refine WL.r 1 hs106 [] rfl (WL.nil (hK118 _ _ (WC.rH hs106 hs106 (fun _ hs120 => ?_))))
   refine WH.rn [0, 1, 3, 4, 5] hs120 [0] rfl rfl (WH.all [2, 6] (by kernel_rfl) rfl (WHs.cons (i := 2) rfl ?_ (WHs.cons (i := 6) rfl ?_ WHs.nil)))
   ·refine WL.cl Tryd.call25 rfl (k1_ _ _ _ _ _ _ (SlF.ofOwn ho105 (hs120.ow L104)) (OwnF.cap ho105) ?_ ?_ ?_) ?_
    · first | exact OwnF.spot (by assumption) | assumption | omega | exact tab_st ht (by assumption) | exact ⟨Nat.zero_le _, Nat.zero_le _⟩ | rfl | (simp; first | done | omega)
    · first | omega | assumption | exact tab_st ht (by assumption) | exact ⟨Nat.zero_le _, Nat.zero_le _⟩ | rfl | (simp; first | done | omega)
    · first | (exact (by rw [join_args _ rfl]; have h9 := argT_len (l := a.Args.xs); omega)) | assumption | omega | exact tab_st ht (by assumption) | exact ⟨Nat.zero_le _, Nat.zero_le _⟩ | rfl | (simp; first | done | omega)
    rintro _ whs121 ⟨rfl, hs121⟩
    replace hs121 := hs120.call0 hs121
    refine ⟨_, rfl, WL.nil ⟨hs121, ?_⟩⟩
    refine WH.strS hs121 (fun w_ h_ => h_) ?_
    refine WH.o1 6 rfl (WL.buildSlice hs121 Tryd.runUnderlying22 Tryd.sizeOf5 Tryd.zeroValue5 rfl rfl rfl rfl rfl rfl rfl rfl rfl rfl (fun b122 whs123 hs123 => WL.nil ⟨hs123.d1, ?_⟩))
    refine WH.strS hs123 (fun w_ h_ => h_.d1) ?_
    refine WH.take 7 rfl (by kernel_rfl) rfl rfl rfl hs123 (fun w_ hs_ => (Run.strOf (SlF.own1 ((hs_ : St _ _ _ _).own _ (nthL_mem (i := 0) rfl)).1) Tryd.underlying22 Tryd.underlying5 Tryd.underlying9 rfl rfl)) ?_
    refine WH.take 8 rfl (by kernel_rfl) rfl rfl rfl hs123 (fun w_ hs_ => (Run.addS rfl rfl rfl ?_)) ?_
    · (simp [ByteArray.size]; try omega)
    refine WH.take 9 rfl (by kernel_rfl) rfl rfl rfl hs123 (fun w_ hs_ => (Run.addS rfl rfl rfl ?_)) ?_
    · (simp [ByteArray.size]; try omega)
    refine WH.rn [10] hs123 [] rfl rfl (WH.dn (hK4 _ _ (WC.seq (fun K124 hK124 => WC.sr ?_))))
    refine WL.val rfl rfl rfl (Run.build rfl rfl rfl rfl (built_26)) (WL.r 1 hs123 [] rfl (WL.bytesOf hs123 Tryd.underlying9 Tryd.underlying22 Tryd.underlying5 rfl rfl rfl rfl rfl ?_ (fun A128 c129 L125 whs126 hs126 ho127 => ?_)))
    · (simp [ByteArray.size]; try omega)
    replace hs126 := St.back [_, _] hs126
    refine WL.cl Tryd.call17 rfl (k43_ ⟨_, _, ⟨_, _, _, _⟩, ⟨_, _, _, _⟩⟩ _ _ _ _ _ ⟨(SlF.nil _ _), (by first | assumption | omega | simp), (by first | assumption | omega | (simp; omega) | simp), (SlF.nil _ _), (by first | assumption | omega | simp), (by first | assumption | omega | (simp; omega) | simp)⟩ (SlF.ofOwn ho127 (hs126.ow L125)) ?_ ?_ ?_) ?_
    iterate 3 focus first | assumption | rfl | omega | exact tab_st ht (by assumption) | exact ⟨Nat.zero_le _, Nat.zero_le _⟩ | (simp; first | done | omega)
    rintro _ whs130 ⟨r0_131, L0_132, A1_133, c1_134, x1_135, L1_136, rfl, hs130, ho137, ho138, hd0_139, hd1_140⟩
    replace hs130 := hs126.callF hs130
    refine ⟨_, rfl, ?_⟩
    replace hs130 := St.assoc hs130
    replace hs130 := St.back2 [_, _] hs130
    have hp0 : r0_131.dat = (vpParse vp0 (actPre a.dat ++ [ub a.R])).1 := hd0_139.trans (congrArg (fun z => (vpParse vp0 z).1) (by simp [actPre, argT, map_numBA, ActR.dat, hmk]))
    have hp1 : x1_135.map ActR.dat = (vpParse vp0 (actPre a.dat ++ [ub a.R])).2 := hd1_140.trans (congrArg (fun z => (vpParse vp0 z).2) (by simp [actPre, argT, map_numBA, ActR.dat, hmk]))
    have hsma : ∀ y, y ∈ x1_135.map ActR.dat → smAct 549755813888 y := by intro y hy; rw [hp1] at hy; have h9 := vpParse_act (v := vp0) rfl y hy; show y.Args.length ≤ 549755813888; omega
    have hvk := vpOk_len (vpParse_ok (l := (actPre a.dat ++ [ub a.R])) (v := vp0) rfl)
    have hsv : smVp 549755813888 r0_131.dat := by rw [hp0]; exact ⟨by omega, by omega⟩
    have hl0 : r0_131.Part.xs.length = r0_131.Part.n := (ownVpR.ok (B := 549755813888) ho137 (hs130.ow L0_132) hsv).Part.len
    have hB : (actPre a.dat ++ [ub a.R]) = actBy a.dat := (by unfold actBy; rw [if_neg k1, if_neg k2, if_neg k3, if_pos k4]; rfl)
    have hG : goodI (actPre a.dat ++ [ub a.R]) a.dat = actOk a.dat := by rw [hB]; exact goodI_B a.dat
    refine WL.r 3 hs130 [] rfl (WL.al hs130 Tryd.zeroValue26 rfl rfl (fun b141 _ hs142 => WL.st tbk hs142 0 rfl rfl (fun _ hs143 => WL.r 1 hs143 [] rfl (WL.nil (WC.sq1 hs143 (WQ.r 4 [0] rfl (WQ.pO tbk 4 Acts.nil [0] rfl rfl rfl rfl (fun g_ => ⟨rfl, trivial⟩) ?_)))))))
    refine WQ.r 1 [] rfl (WQ.pO tbk 3 Acts.nil [] rfl rfl rfl rfl (fun g_ => trivial) (WQ.r 1 [] rfl ?_))
    apply WQ.gO 6 Acts.nil rfl
    ·intro g144 J145
     have qg144 := g144
     try simp only [bf, within_iff, within_not] at qg144
     refine WQ.runA tbk 1 (Acts.nil.cons (j := 14) rfl g144) [] rfl trivial ?_
     refine WQ.val (wantF rfl g144) rfl rfl (fun w_ hs_ => (Run.idx Tryd.runUnderlying27 Tryd.sizeOf33 rfl rfl rfl ?_ ?_ ?_)) ?_
     · exact SlF.some_ (OwnN.sl ho138 ((hs_ : St _ _ _ _).ow L1_136))
     · omega
     · omega
     refine WQ.val (wantF rfl g144) rfl rfl (fun w_ hs_ => (Run.loadA Tryd.isAgg33 Tryd.sizeOf33 rfl rfl (SlF.whole (OwnN.sl ho138 ((hs_ : St _ _ _ _).ow L1_136)) ?_))) ?_
     · omega
     refine WQ.runA tbk 1 (Acts.nil.cons (j := 14) rfl g144) [2] rfl ⟨rfl, trivial⟩ ?_
     refine WQ.call (wantF rfl g144) rfl rfl (fun w_ hs_ => (Run.call Tryd.call26 rfl rfl rfl)) (fun w_ hs_ => (k24_ (gat encActR x1_135 0) a _ (SlN.nth (OwnN.ok ho138 ((hs_ : St _ _ _ _).ow L1_136) (fun y Li hy h3 hl => h3.ok hl (by have h9_ := List.mem_map_of_mem (f := ActR.dat) hy; first | exact hsma _ h9_))) (by omega)) (okActR.st0 f_a (hs_ : St _ _ _ _))).mono fun e_ w_ h_ => ⟨h_.1, (hs_ : St _ _ _ _).call0 h_.2⟩) ?_
     refine WQ.runA tbk 1 (Acts.nil.cons (j := 14) rfl g144) [] rfl trivial (WQ.eO 6 Acts.nil J145 g144 rfl rfl)
    refine WQ.nil (fun _ (hs146 : St _ _ _ _) => ?_)
    refine WC.cq rfl (fun h147 qh147 => ?_) (fun h147 qh147 => ?_)
    ·have hg : actOk a.dat = false := by rw [← hG, goodI_R hp0 hp1 hl0]; have h9 := h147; grind
     refine WC.r1 hs146 [] rfl (WC.ret (tkR ?_))
     clear hK124
     refine rtv rfl rfl hs146 ?_
     first | (rw [actT_no hg]; done) | (rw [hno] at hg; cases hg) | (rw [actT_yes hg, ← hB]; done) | (rw [actT_yes hg, ← hB]; refine congrArg Value.string (ByteArray.ext ?_); simp; done) | (rw [actT_yes hg, ← hB]; refine congrArg Value.string (ByteArray.ext ?_); simp [actPre, argT, map_numBA, ActR.dat, hmk]; done) | (rw [actT_no (by rw [← Bool.not_eq_true]; intro hh; have := (actOk_R hh).2 k1; exact hr (by have e : a.dat.R = a.R := rfl; omega))])
    have hg : actOk a.dat = true := by rw [← hG, goodI_R hp0 hp1 hl0]; have h9 := h147; grind
    refine WC.skip (hK124 _ _ (WC.r1 hs146 [] rfl (WC.ret (rtv rfl rfl hs146 ?_))))
    first | (rw [actT_no hg]; done) | (rw [hno] at hg; cases hg) | (rw [actT_yes hg, ← hB]; done) | (rw [actT_yes hg, ← hB]; refine congrArg Value.string (ByteArray.ext ?_); simp; done) | (rw [actT_yes hg, ← hB]; refine congrArg Value.string (ByteArray.ext ?_); simp [actPre, argT, map_numBA, ActR.dat, hmk]; done) | (rw [actT_no (by rw [← Bool.not_eq_true]; intro hh; have := (actOk_R hh).2 k1; exact hr (by have e : a.dat.R = a.R := rfl; omega))])
   refine WL.buildSlice hs120 Tryd.runUnderlying22 Tryd.sizeOf5 Tryd.zeroValue5 rfl rfl rfl rfl rfl rfl rfl rfl rfl rfl (fun b148 whs149 hs149 => WL.nil ⟨hs149.d1, ?_⟩)
   refine WH.strS hs149 (fun w_ h_ => h_.d1) ?_
   refine WH.take 7 rfl (by kernel_rfl) rfl rfl rfl hs149 (fun w_ hs_ => (Run.strOf (SlF.own1 ((hs_ : St _ _ _ _).own _ (nthL_mem (i := 0) rfl)).1) Tryd.underlying22 Tryd.underlying5 Tryd.underlying9 rfl rfl)) ?_
   refine WH.o1 2 rfl (WL.cl Tryd.call25 rfl (k1_ _ _ _ _ _ _ (SlF.ofOwn ho105 (hs149.ow L104)) (OwnF.cap ho105) ?_ ?_ ?_) ?_)
   · first | exact OwnF.spot (by assumption) | assumption | omega | exact tab_st ht (by assumption) | exact ⟨Nat.zero_le _, Nat.zero_le _⟩ | rfl | (simp; first | done | omega)
   · first | omega | assumption | exact tab_st ht (by assumption) | exact ⟨Nat.zero_le _, Nat.zero_le _⟩ | rfl | (simp; first | done | omega)
   · first | (exact (by rw [join_args _ rfl]; have h9 := argT_len (l := a.Args.xs); omega)) | assumption | omega | exact tab_st ht (by assumption) | exact ⟨Nat.zero_le _, Nat.zero_le _⟩ | rfl | (simp; first | done | omega)
   rintro _ whs150 ⟨rfl, hs150⟩
   replace hs150 := hs149.call0 hs150
   refine ⟨_, rfl, WL.nil ⟨hs150, ?_⟩⟩
   refine WH.strS hs150 (fun w_ h_ => h_) ?_
   refine WH.take 8 rfl (by kernel_rfl) rfl rfl rfl hs150 (fun w_ hs_ => (Run.addS rfl rfl rfl ?_)) ?_
   · (simp [ByteArray.size]; try omega)
   refine WH.take 9 rfl (by kernel_rfl) rfl rfl rfl hs150 (fun w_ hs_ => (Run.addS rfl rfl rfl ?_)) ?_
   · (simp [ByteArray.size]; try omega)
   refine WH.rn [10] hs150 [] rfl rfl (WH.dn (hK4 _ _ (WC.seq (fun K151 hK151 => WC.sr ?_))))
   refine WL.val rfl rfl rfl (Run.build rfl rfl rfl rfl (built_26)) (WL.r 1 hs150 [] rfl (WL.bytesOf hs150 Tryd.underlying9 Tryd.underlying22 Tryd.underlying5 rfl rfl rfl rfl rfl ?_ (fun A155 c156 L152 whs153 hs153 ho154 => ?_)))
   · (simp [ByteArray.size]; try omega)
   replace hs153 := St.back [_, _] hs153
   refine WL.cl Tryd.call17 rfl (k43_ ⟨_, _, ⟨_, _, _, _⟩, ⟨_, _, _, _⟩⟩ _ _ _ _ _ ⟨(SlF.nil _ _), (by first | assumption | omega | simp), (by first | assumption | omega | (simp; omega) | simp), (SlF.nil _ _), (by first | assumption | omega | simp), (by first | assumption | omega | (simp; omega) | simp)⟩ (SlF.ofOwn ho154 (hs153.ow L152)) ?_ ?_ ?_) ?_
   iterate 3 focus first | assumption | rfl | omega | exact tab_st ht (by assumption) | exact ⟨Nat.zero_le _, Nat.zero_le _⟩ | (simp; first | done | omega)
   rintro _ whs157 ⟨r0_158, L0_159, A1_160, c1_161, x1_162, L1_163, rfl, hs157, ho164, ho165, hd0_166, hd1_167⟩
   replace hs157 := hs153.callF hs157
   refine ⟨_, rfl, ?_⟩
   replace hs157 := St.assoc hs157
   replace hs157 := St.back2 [_, _] hs157
   have hp0 : r0_158.dat = (vpParse vp0 (actPre a.dat ++ [ub a.R])).1 := hd0_166.trans (congrArg (fun z => (vpParse vp0 z).1) (by simp [actPre, argT, map_numBA, ActR.dat, hmk]))
   have hp1 : x1_162.map ActR.dat = (vpParse vp0 (actPre a.dat ++ [ub a.R])).2 := hd1_167.trans (congrArg (fun z => (vpParse vp0 z).2) (by simp [actPre, argT, map_numBA, ActR.dat, hmk]))
   have hsma : ∀ y, y ∈ x1_162.map ActR.dat → smAct 549755813888 y := by intro y hy; rw [hp1] at hy; have h9 := vpParse_act (v := vp0) rfl y hy; show y.Args.length ≤ 549755813888; omega
   have hvk := vpOk_len (vpParse_ok (l := (actPre a.dat ++ [ub a.R])) (v := vp0) rfl)
   have hsv : smVp 549755813888 r0_158.dat := by rw [hp0]; exact ⟨by omega, by omega⟩
   have hl0 : r0_158.Part.xs.length = r0_158.Part.n := (ownVpR.ok (B := 549755813888) ho164 (hs157.ow L0_159) hsv).Part.len
   have hB : (actPre a.dat ++ [ub a.R]) = actBy a.dat := (by unfold actBy; rw [if_neg k1, if_neg k2, if_neg k3, if_pos k4]; rfl)
   have hG : goodI (actPre a.dat ++ [ub a.R]) a.dat = actOk a.dat := by rw [hB]; exact goodI_B a.dat
   refine WL.r 3 hs157 [] rfl (WL.al hs157 Tryd.zeroValue26 rfl rfl (fun b168 _ hs169 => WL.st tbk hs169 0 rfl rfl (fun _ hs170 => WL.r 1 hs170 [] rfl (WL.nil (WC.sq1 hs170 (WQ.r 4 [0] rfl (WQ.pO tbk 4 Acts.nil [0] rfl rfl rfl rfl (fun g_ => ⟨rfl, trivial⟩) ?_)))))))
   refine WQ.r 1 [] rfl (WQ.pO tbk 3 Acts.nil [] rfl rfl rfl rfl (fun g_ => trivial) (WQ.r 1 [] rfl ?_))
   apply WQ.gO 6 Acts.nil rfl
   ·intro g171 J172
    have qg171 := g171
    try simp only [bf, within_iff, within_not] at qg171
    refine WQ.runA tbk 1 (Acts.nil.cons (j := 14) rfl g171) [] rfl trivial ?_
    refine WQ.val (wantF rfl g171) rfl rfl (fun w_ hs_ => (Run.idx Tryd.runUnderlying27 Tryd.sizeOf33 rfl rfl rfl ?_ ?_ ?_)) ?_
    · exact SlF.some_ (OwnN.sl ho165 ((hs_ : St _ _ _ _).ow L1_163))
    · omega
    · omega
    refine WQ.val (wantF rfl g171) rfl rfl (fun w_ hs_ => (Run.loadA Tryd.isAgg33 Tryd.sizeOf33 rfl rfl (SlF.whole (OwnN.sl ho165 ((hs_ : St _ _ _ _).ow L1_163)) ?_))) ?_
    · omega
    refine WQ.runA tbk 1 (Acts.nil.cons (j := 14) rfl g171) [2] rfl ⟨rfl, trivial⟩ ?_
    refine WQ.call (wantF rfl g171) rfl rfl (fun w_ hs_ => (Run.call Tryd.call26 rfl rfl rfl)) (fun w_ hs_ => (k24_ (gat encActR x1_162 0) a _ (SlN.nth (OwnN.ok ho165 ((hs_ : St _ _ _ _).ow L1_163) (fun y Li hy h3 hl => h3.ok hl (by have h9_ := List.mem_map_of_mem (f := ActR.dat) hy; first | exact hsma _ h9_))) (by omega)) (okActR.st0 f_a (hs_ : St _ _ _ _))).mono fun e_ w_ h_ => ⟨h_.1, (hs_ : St _ _ _ _).call0 h_.2⟩) ?_
    refine WQ.runA tbk 1 (Acts.nil.cons (j := 14) rfl g171) [] rfl trivial (WQ.eO 6 Acts.nil J172 g171 rfl rfl)
   refine WQ.nil (fun _ (hs173 : St _ _ _ _) => ?_)
   refine WC.cq rfl (fun h174 qh174 => ?_) (fun h174 qh174 => ?_)
   ·have hg : actOk a.dat = false := by rw [← hG, goodI_R hp0 hp1 hl0]; have h9 := h174; grind
    refine WC.r1 hs173 [] rfl (WC.ret (tkR ?_))
    clear hK151
    refine rtv rfl rfl hs173 ?_
    first | (rw [actT_no hg]; done) | (rw [hno] at hg; cases hg) | (rw [actT_yes hg, ← hB]; done) | (rw [actT_yes hg, ← hB]; refine congrArg Value.string (ByteArray.ext ?_); simp; done) | (rw [actT_yes hg, ← hB]; refine congrArg Value.string (ByteArray.ext ?_); simp [actPre, argT, map_numBA, ActR.dat, hmk]; done) | (rw [actT_no (by rw [← Bool.not_eq_true]; intro hh; have := (actOk_R hh).2 k1; exact hr (by have e : a.dat.R = a.R := rfl; omega))])
   have hg : actOk a.dat = true := by rw [← hG, goodI_R hp0 hp1 hl0]; have h9 := h174; grind
   refine WC.skip (hK151 _ _ (WC.r1 hs173 [] rfl (WC.ret (rtv rfl rfl hs173 ?_))))
   first | (rw [actT_no hg]; done) | (rw [hno] at hg; cases hg) | (rw [actT_yes hg, ← hB]; done) | (rw [actT_yes hg, ← hB]; refine congrArg Value.string (ByteArray.ext ?_); simp; done) | (rw [actT_yes hg, ← hB]; refine congrArg Value.string (ByteArray.ext ?_); simp [actPre, argT, map_numBA, ActR.dat, hmk]; done) | (rw [actT_no (by rw [← Bool.not_eq_true]; intro hh; have := (actOk_R hh).2 k1; exact hr (by have e : a.dat.R = a.R := rfl; omega))])
  have hmk : a.Mark = false := h119
  refine WC.skip (hK118 _ _ (WC.rH hs106 hs106 (fun _ hs175 => ?_)))
  refine WH.rn [0, 1, 3, 4, 5] hs175 [0] rfl rfl (WH.all [2, 6] (by kernel_rfl) rfl (WHs.cons (i := 2) rfl ?_ (WHs.cons (i := 6) rfl ?_ WHs.nil)))
  ·refine WL.cl Tryd.call25 rfl (k1_ _ _ _ _ _ _ (SlF.ofOwn ho105 (hs175.ow L104)) (OwnF.cap ho105) ?_ ?_ ?_) ?_
   · first | exact OwnF.spot (by assumption) | assumption | omega | exact tab_st ht (by assumption) | exact ⟨Nat.zero_le _, Nat.zero_le _⟩ | rfl | (simp; first | done | omega)
   · first | omega | assumption | exact tab_st ht (by assumption) | exact ⟨Nat.zero_le _, Nat.zero_le _⟩ | rfl | (simp; first | done | omega)
   · first | (exact (by rw [join_args _ rfl]; have h9 := argT_len (l := a.Args.xs); omega)) | assumption | omega | exact tab_st ht (by assumption) | exact ⟨Nat.zero_le _, Nat.zero_le _⟩ | rfl | (simp; first | done | omega)
   rintro _ whs176 ⟨rfl, hs176⟩
   replace hs176 := hs175.call0 hs176
   refine ⟨_, rfl, WL.nil ⟨hs176, ?_⟩⟩
   refine WH.strS hs176 (fun w_ h_ => h_) ?_
   refine WH.o1 6 rfl (WL.buildSlice hs176 Tryd.runUnderlying22 Tryd.sizeOf5 Tryd.zeroValue5 rfl rfl rfl rfl rfl rfl rfl rfl rfl rfl (fun b177 whs178 hs178 => WL.nil ⟨hs178.d1, ?_⟩))
   refine WH.strS hs178 (fun w_ h_ => h_.d1) ?_
   refine WH.take 7 rfl (by kernel_rfl) rfl rfl rfl hs178 (fun w_ hs_ => (Run.strOf (SlF.own1 ((hs_ : St _ _ _ _).own _ (nthL_mem (i := 0) rfl)).1) Tryd.underlying22 Tryd.underlying5 Tryd.underlying9 rfl rfl)) ?_
   refine WH.take 8 rfl (by kernel_rfl) rfl rfl rfl hs178 (fun w_ hs_ => (Run.addS rfl rfl rfl ?_)) ?_
   · (simp [ByteArray.size]; try omega)
   refine WH.take 9 rfl (by kernel_rfl) rfl rfl rfl hs178 (fun w_ hs_ => (Run.addS rfl rfl rfl ?_)) ?_
   · (simp [ByteArray.size]; try omega)
   refine WH.rn [10] hs178 [] rfl rfl (WH.dn (hK4 _ _ (WC.seq (fun K179 hK179 => WC.sr ?_))))
   refine WL.val rfl rfl rfl (Run.build rfl rfl rfl rfl (built_26)) (WL.r 1 hs178 [] rfl (WL.bytesOf hs178 Tryd.underlying9 Tryd.underlying22 Tryd.underlying5 rfl rfl rfl rfl rfl ?_ (fun A183 c184 L180 whs181 hs181 ho182 => ?_)))
   · (simp [ByteArray.size]; try omega)
   replace hs181 := St.back [_, _] hs181
   refine WL.cl Tryd.call17 rfl (k43_ ⟨_, _, ⟨_, _, _, _⟩, ⟨_, _, _, _⟩⟩ _ _ _ _ _ ⟨(SlF.nil _ _), (by first | assumption | omega | simp), (by first | assumption | omega | (simp; omega) | simp), (SlF.nil _ _), (by first | assumption | omega | simp), (by first | assumption | omega | (simp; omega) | simp)⟩ (SlF.ofOwn ho182 (hs181.ow L180)) ?_ ?_ ?_) ?_
   iterate 3 focus first | assumption | rfl | omega | exact tab_st ht (by assumption) | exact ⟨Nat.zero_le _, Nat.zero_le _⟩ | (simp; first | done | omega)
   rintro _ whs185 ⟨r0_186, L0_187, A1_188, c1_189, x1_190, L1_191, rfl, hs185, ho192, ho193, hd0_194, hd1_195⟩
   replace hs185 := hs181.callF hs185
   refine ⟨_, rfl, ?_⟩
   replace hs185 := St.assoc hs185
   replace hs185 := St.back2 [_, _] hs185
   have hp0 : r0_186.dat = (vpParse vp0 (actPre a.dat ++ [ub a.R])).1 := hd0_194.trans (congrArg (fun z => (vpParse vp0 z).1) (by simp [actPre, argT, map_numBA, ActR.dat, hmk]))
   have hp1 : x1_190.map ActR.dat = (vpParse vp0 (actPre a.dat ++ [ub a.R])).2 := hd1_195.trans (congrArg (fun z => (vpParse vp0 z).2) (by simp [actPre, argT, map_numBA, ActR.dat, hmk]))
   have hsma : ∀ y, y ∈ x1_190.map ActR.dat → smAct 549755813888 y := by intro y hy; rw [hp1] at hy; have h9 := vpParse_act (v := vp0) rfl y hy; show y.Args.length ≤ 549755813888; omega
   have hvk := vpOk_len (vpParse_ok (l := (actPre a.dat ++ [ub a.R])) (v := vp0) rfl)
   have hsv : smVp 549755813888 r0_186.dat := by rw [hp0]; exact ⟨by omega, by omega⟩
   have hl0 : r0_186.Part.xs.length = r0_186.Part.n := (ownVpR.ok (B := 549755813888) ho192 (hs185.ow L0_187) hsv).Part.len
   have hB : (actPre a.dat ++ [ub a.R]) = actBy a.dat := (by unfold actBy; rw [if_neg k1, if_neg k2, if_neg k3, if_pos k4]; rfl)
   have hG : goodI (actPre a.dat ++ [ub a.R]) a.dat = actOk a.dat := by rw [hB]; exact goodI_B a.dat
   refine WL.r 3 hs185 [] rfl (WL.al hs185 Tryd.zeroValue26 rfl rfl (fun b196 _ hs197 => WL.st tbk hs197 0 rfl rfl (fun _ hs198 => WL.r 1 hs198 [] rfl (WL.nil (WC.sq1 hs198 (WQ.r 4 [0] rfl (WQ.pO tbk 4 Acts.nil [0] rfl rfl rfl rfl (fun g_ => ⟨rfl, trivial⟩) ?_)))))))
   refine WQ.r 1 [] rfl (WQ.pO tbk 3 Acts.nil [] rfl rfl rfl rfl (fun g_ => trivial) (WQ.r 1 [] rfl ?_))
   apply WQ.gO 6 Acts.nil rfl
   ·intro g199 J200
    have qg199 := g199
    try simp only [bf, within_iff, within_not] at qg199
    refine WQ.runA tbk 1 (Acts.nil.cons (j := 14) rfl g199) [] rfl trivial ?_
    refine WQ.val (wantF rfl g199) rfl rfl (fun w_ hs_ => (Run.idx Tryd.runUnderlying27 Tryd.sizeOf33 rfl rfl rfl ?_ ?_ ?_)) ?_
    · exact SlF.some_ (OwnN.sl ho193 ((hs_ : St _ _ _ _).ow L1_191))
    · omega
    · omega
    refine WQ.val (wantF rfl g199) rfl rfl (fun w_ hs_ => (Run.loadA Tryd.isAgg33 Tryd.sizeOf33 rfl rfl (SlF.whole (OwnN.sl ho193 ((hs_ : St _ _ _ _).ow L1_191)) ?_))) ?_
    · omega
    refine WQ.runA tbk 1 (Acts.nil.cons (j := 14) rfl g199) [2] rfl ⟨rfl, trivial⟩ ?_
    refine WQ.call (wantF rfl g199) rfl rfl (fun w_ hs_ => (Run.call Tryd.call26 rfl rfl rfl)) (fun w_ hs_ => (k24_ (gat encActR x1_190 0) a _ (SlN.nth (OwnN.ok ho193 ((hs_ : St _ _ _ _).ow L1_191) (fun y Li hy h3 hl => h3.ok hl (by have h9_ := List.mem_map_of_mem (f := ActR.dat) hy; first | exact hsma _ h9_))) (by omega)) (okActR.st0 f_a (hs_ : St _ _ _ _))).mono fun e_ w_ h_ => ⟨h_.1, (hs_ : St _ _ _ _).call0 h_.2⟩) ?_
    refine WQ.runA tbk 1 (Acts.nil.cons (j := 14) rfl g199) [] rfl trivial (WQ.eO 6 Acts.nil J200 g199 rfl rfl)
   refine WQ.nil (fun _ (hs201 : St _ _ _ _) => ?_)
   refine WC.cq rfl (fun h202 qh202 => ?_) (fun h202 qh202 => ?_)
   ·have hg : actOk a.dat = false := by rw [← hG, goodI_R hp0 hp1 hl0]; have h9 := h202; grind
    refine WC.r1 hs201 [] rfl (WC.ret (tkR ?_))
    clear hK179
    refine rtv rfl rfl hs201 ?_
    first | (rw [actT_no hg]; done) | (rw [hno] at hg; cases hg) | (rw [actT_yes hg, ← hB]; done) | (rw [actT_yes hg, ← hB]; refine congrArg Value.string (ByteArray.ext ?_); simp; done) | (rw [actT_yes hg, ← hB]; refine congrArg Value.string (ByteArray.ext ?_); simp [actPre, argT, map_numBA, ActR.dat, hmk]; done) | (rw [actT_no (by rw [← Bool.not_eq_true]; intro hh; have := (actOk_R hh).2 k1; exact hr (by have e : a.dat.R = a.R := rfl; omega))])
   have hg : actOk a.dat = true := by rw [← hG, goodI_R hp0 hp1 hl0]; have h9 := h202; grind
   refine WC.skip (hK179 _ _ (WC.r1 hs201 [] rfl (WC.ret (rtv rfl rfl hs201 ?_))))
   first | (rw [actT_no hg]; done) | (rw [hno] at hg; cases hg) | (rw [actT_yes hg, ← hB]; done) | (rw [actT_yes hg, ← hB]; refine congrArg Value.string (ByteArray.ext ?_); simp; done) | (rw [actT_yes hg, ← hB]; refine congrArg Value.string (ByteArray.ext ?_); simp [actPre, argT, map_numBA, ActR.dat, hmk]; done) | (rw [actT_no (by rw [← Bool.not_eq_true]; intro hh; have := (actOk_R hh).2 k1; exact hr (by have e : a.dat.R = a.R := rfl; omega))])
  refine WL.buildSlice hs175 Tryd.runUnderlying22 Tryd.sizeOf5 Tryd.zeroValue5 rfl rfl rfl rfl rfl rfl rfl rfl rfl rfl (fun b203 whs204 hs204 => WL.nil ⟨hs204.d1, ?_⟩)
  refine WH.strS hs204 (fun w_ h_ => h_.d1) ?_
  refine WH.take 7 rfl (by kernel_rfl) rfl rfl rfl hs204 (fun w_ hs_ => (Run.strOf (SlF.own1 ((hs_ : St _ _ _ _).own _ (nthL_mem (i := 0) rfl)).1) Tryd.underlying22 Tryd.underlying5 Tryd.underlying9 rfl rfl)) ?_
  refine WH.o1 2 rfl (WL.cl Tryd.call25 rfl (k1_ _ _ _ _ _ _ (SlF.ofOwn ho105 (hs204.ow L104)) (OwnF.cap ho105) ?_ ?_ ?_) ?_)
  · first | exact OwnF.spot (by assumption) | assumption | omega | exact tab_st ht (by assumption) | exact ⟨Nat.zero_le _, Nat.zero_le _⟩ | rfl | (simp; first | done | omega)
  · first | omega | assumption | exact tab_st ht (by assumption) | exact ⟨Nat.zero_le _, Nat.zero_le _⟩ | rfl | (simp; first | done | omega)
  · first | (exact (by rw [join_args _ rfl]; have h9 := argT_len (l := a.Args.xs); omega)) | assumption | omega | exact tab_st ht (by assumption) | exact ⟨Nat.zero_le _, Nat.zero_le _⟩ | rfl | (simp; first | done | omega)
  rintro _ whs205 ⟨rfl, hs205⟩
  replace hs205 := hs204.call0 hs205
  refine ⟨_, rfl, WL.nil ⟨hs205, ?_⟩⟩
  refine WH.strS hs205 (fun w_ h_ => h_) ?_
  refine WH.take 8 rfl (by kernel_rfl) rfl rfl rfl hs205 (fun w_ hs_ => (Run.addS rfl rfl rfl ?_)) ?_
  · (simp [ByteArray.size]; try omega)
  refine WH.take 9 rfl (by kernel_rfl) rfl rfl rfl hs205 (fun w_ hs_ => (Run.addS rfl rfl rfl ?_)) ?_
  · (simp [ByteArray.size]; try omega)
  refine WH.rn [10] hs205 [] rfl rfl (WH.dn (hK4 _ _ (WC.seq (fun K206 hK206 => WC.sr ?_))))
  refine WL.val rfl rfl rfl (Run.build rfl rfl rfl rfl (built_26)) (WL.r 1 hs205 [] rfl (WL.bytesOf hs205 Tryd.underlying9 Tryd.underlying22 Tryd.underlying5 rfl rfl rfl rfl rfl ?_ (fun A210 c211 L207 whs208 hs208 ho209 => ?_)))
  · (simp [ByteArray.size]; try omega)
  replace hs208 := St.back [_, _] hs208
  refine WL.cl Tryd.call17 rfl (k43_ ⟨_, _, ⟨_, _, _, _⟩, ⟨_, _, _, _⟩⟩ _ _ _ _ _ ⟨(SlF.nil _ _), (by first | assumption | omega | simp), (by first | assumption | omega | (simp; omega) | simp), (SlF.nil _ _), (by first | assumption | omega | simp), (by first | assumption | omega | (simp; omega) | simp)⟩ (SlF.ofOwn ho209 (hs208.ow L207)) ?_ ?_ ?_) ?_
  iterate 3 focus first | assumption | rfl | omega | exact tab_st ht (by assumption) | exact ⟨Nat.zero_le _, Nat.zero_le _⟩ | (simp; first | done | omega)
  rintro _ whs212 ⟨r0_213, L0_214, A1_215, c1_216, x1_217, L1_218, rfl, hs212, ho219, ho220, hd0_221, hd1_222⟩
  replace hs212 := hs208.callF hs212
  refine ⟨_, rfl, ?_⟩
  replace hs212 := St.assoc hs212
  replace hs212 := St.back2 [_, _] hs212
  have hp0 : r0_213.dat = (vpParse vp0 (actPre a.dat ++ [ub a.R])).1 := hd0_221.trans (congrArg (fun z => (vpParse vp0 z).1) (by simp [actPre, argT, map_numBA, ActR.dat, hmk]))
  have hp1 : x1_217.map ActR.dat = (vpParse vp0 (actPre a.dat ++ [ub a.R])).2 := hd1_222.trans (congrArg (fun z => (vpParse vp0 z).2) (by simp [actPre, argT, map_numBA, ActR.dat, hmk]))
  have hsma : ∀ y, y ∈ x1_217.map ActR.dat → smAct 549755813888 y := by intro y hy; rw [hp1] at hy; have h9 := vpParse_act (v := vp0) rfl y hy; show y.Args.length ≤ 549755813888; omega
  have hvk := vpOk_len (vpParse_ok (l := (actPre a.dat ++ [ub a.R])) (v := vp0) rfl)
  have hsv : smVp 549755813888 r0_213.dat := by rw [hp0]; exact ⟨by omega, by omega⟩
  have hl0 : r0_213.Part.xs.length = r0_213.Part.n := (ownVpR.ok (B := 549755813888) ho219 (hs212.ow L0_214) hsv).Part.len
  have hB : (actPre a.dat ++ [ub a.R]) = actBy a.dat := (by unfold actBy; rw [if_neg k1, if_neg k2, if_neg k3, if_pos k4]; rfl)
  have hG : goodI (actPre a.dat ++ [ub a.R]) a.dat = actOk a.dat := by rw [hB]; exact goodI_B a.dat
  refine WL.r 3 hs212 [] rfl (WL.al hs212 Tryd.zeroValue26 rfl rfl (fun b223 _ hs224 => WL.st tbk hs224 0 rfl rfl (fun _ hs225 => WL.r 1 hs225 [] rfl (WL.nil (WC.sq1 hs225 (WQ.r 4 [0] rfl (WQ.pO tbk 4 Acts.nil [0] rfl rfl rfl rfl (fun g_ => ⟨rfl, trivial⟩) ?_)))))))
  refine WQ.r 1 [] rfl (WQ.pO tbk 3 Acts.nil [] rfl rfl rfl rfl (fun g_ => trivial) (WQ.r 1 [] rfl ?_))
  apply WQ.gO 6 Acts.nil rfl
  ·intro g226 J227
   have qg226 := g226
   try simp only [bf, within_iff, within_not] at qg226
   refine WQ.runA tbk 1 (Acts.nil.cons (j := 14) rfl g226) [] rfl trivial ?_
   refine WQ.val (wantF rfl g226) rfl rfl (fun w_ hs_ => (Run.idx Tryd.runUnderlying27 Tryd.sizeOf33 rfl rfl rfl ?_ ?_ ?_)) ?_
   · exact SlF.some_ (OwnN.sl ho220 ((hs_ : St _ _ _ _).ow L1_218))
   · omega
   · omega
   refine WQ.val (wantF rfl g226) rfl rfl (fun w_ hs_ => (Run.loadA Tryd.isAgg33 Tryd.sizeOf33 rfl rfl (SlF.whole (OwnN.sl ho220 ((hs_ : St _ _ _ _).ow L1_218)) ?_))) ?_
   · omega
   refine WQ.runA tbk 1 (Acts.nil.cons (j := 14) rfl g226) [2] rfl ⟨rfl, trivial⟩ ?_
   refine WQ.call (wantF rfl g226) rfl rfl (fun w_ hs_ => (Run.call Tryd.call26 rfl rfl rfl)) (fun w_ hs_ => (k24_ (gat encActR x1_217 0) a _ (SlN.nth (OwnN.ok ho220 ((hs_ : St _ _ _ _).ow L1_218) (fun y Li hy h3 hl => h3.ok hl (by have h9_ := List.mem_map_of_mem (f := ActR.dat) hy; first | exact hsma _ h9_))) (by omega)) (okActR.st0 f_a (hs_ : St _ _ _ _))).mono fun e_ w_ h_ => ⟨h_.1, (hs_ : St _ _ _ _).call0 h_.2⟩) ?_
   refine WQ.runA tbk 1 (Acts.nil.cons (j := 14) rfl g226) [] rfl trivial (WQ.eO 6 Acts.nil J227 g226 rfl rfl)
  refine WQ.nil (fun _ (hs228 : St _ _ _ _) => ?_)
  refine WC.cq rfl (fun h229 qh229 => ?_) (fun h229 qh229 => ?_)
  ·have hg : actOk a.dat = false := by rw [← hG, goodI_R hp0 hp1 hl0]; have h9 := h229; grind
   refine WC.r1 hs228 [] rfl (WC.ret (tkR ?_))
   clear hK206
   refine rtv rfl rfl hs228 ?_
   first | (rw [actT_no hg]; done) | (rw [hno] at hg; cases hg) | (rw [actT_yes hg, ← hB]; done) | (rw [actT_yes hg, ← hB]; refine congrArg Value.string (ByteArray.ext ?_); simp; done) | (rw [actT_yes hg, ← hB]; refine congrArg Value.string (ByteArray.ext ?_); simp [actPre, argT, map_numBA, ActR.dat, hmk]; done) | (rw [actT_no (by rw [← Bool.not_eq_true]; intro hh; have := (actOk_R hh).2 k1; exact hr (by have e : a.dat.R = a.R := rfl; omega))])
  have hg : actOk a.dat = true := by rw [← hG, goodI_R hp0 hp1 hl0]; have h9 := h229; grind
  refine WC.skip (hK206 _ _ (WC.r1 hs228 [] rfl (WC.ret (rtv rfl rfl hs228 ?_))))
  first | (rw [actT_no hg]; done) | (rw [hno] at hg; cases hg) | (rw [actT_yes hg, ← hB]; done) | (rw [actT_yes hg, ← hB]; refine congrArg Value.string (ByteArray.ext ?_); simp; done) | (rw [actT_yes hg, ← hB]; refine congrArg Value.string (ByteArray.ext ?_); simp [actPre, argT, map_numBA, ActR.dat, hmk]; done) | (rw [actT_no (by rw [← Bool.not_eq_true]; intro hh; have := (actOk_R hh).2 k1; exact hr (by have e : a.dat.R = a.R := rfl; omega))])
 have k4 : ¬ (a.dat.Kind = 4 ∧ areArgs a.Args.xs = true) := (show ¬ (a.Kind = 4 ∧ areArgs a.Args.xs = true) by have h9 := h95; simpa using h9)
 have hno : actOk a.dat = false := by rw [← Bool.not_eq_true]; intro hh; rcases actOk_kind hh with h9 | h9 | h9 | h9; exact k1 h9; exact k2 h9; exact k3 h9; exact k4 ⟨h9, actOk_args hh⟩
 refine WC.skip (hK4 _ _ (WC.seq (fun K230 hK230 => WC.sr ?_)))
 refine WL.val rfl rfl rfl (Run.build rfl rfl rfl rfl (built_26)) (WL.r 1 hs94 [] rfl (WL.bytesOf hs94 Tryd.underlying9 Tryd.underlying22 Tryd.underlying5 rfl rfl rfl rfl rfl ?_ (fun A234 c235 L231 whs232 hs232 ho233 => ?_)))
 · (simp [ByteArray.size]; try omega)
 replace hs232 := St.back [_] hs232
 refine WL.cl Tryd.call17 rfl (k43_ ⟨_, _, ⟨_, _, _, _⟩, ⟨_, _, _, _⟩⟩ _ _ _ _ _ ⟨(SlF.nil _ _), (by first | assumption | omega | simp), (by first | assumption | omega | (simp; omega) | simp), (SlF.nil _ _), (by first | assumption | omega | simp), (by first | assumption | omega | (simp; omega) | simp)⟩ (SlF.ofOwn ho233 (hs232.ow L231)) ?_ ?_ ?_) ?_
 iterate 3 focus first | assumption | rfl | omega | exact tab_st ht (by assumption) | exact ⟨Nat.zero_le _, Nat.zero_le _⟩ | (simp; first | done | omega)
 rintro _ whs236 ⟨r0_237, L0_238, A1_239, c1_240, x1_241, L1_242, rfl, hs236, ho243, ho244, hd0_245, hd1_246⟩
 replace hs236 := hs232.callF hs236
 refine ⟨_, rfl, ?_⟩
 replace hs236 := St.assoc hs236
 replace hs236 := St.back2 [_] hs236
 have hp0 : r0_237.dat = (vpParse vp0 ([] : List UInt8)).1 := hd0_245.trans (congrArg (fun z => (vpParse vp0 z).1) (by simp))
 have hp1 : x1_241.map ActR.dat = (vpParse vp0 ([] : List UInt8)).2 := hd1_246.trans (congrArg (fun z => (vpParse vp0 z).2) (by simp))
 have hsma : ∀ y, y ∈ x1_241.map ActR.dat → smAct 549755813888 y := by intro y hy; rw [hp1] at hy; have h9 := vpParse_act (v := vp0) rfl y hy; show y.Args.length ≤ 549755813888; omega
 have hvk := vpOk_len (vpParse_ok (l := ([] : List UInt8)) (v := vp0) rfl)
 have hsv : smVp 549755813888 r0_237.dat := by rw [hp0]; exact ⟨by omega, by omega⟩
 have hl0 : r0_237.Part.xs.length = r0_237.Part.n := (ownVpR.ok (B := 549755813888) ho243 (hs236.ow L0_238) hsv).Part.len
 have hG : goodI ([] : List UInt8) a.dat = actOk a.dat := by rw [hno]; rfl
 refine WL.r 3 hs236 [] rfl (WL.al hs236 Tryd.zeroValue26 rfl rfl (fun b247 _ hs248 => WL.st tbk hs248 0 rfl rfl (fun _ hs249 => WL.r 1 hs249 [] rfl (WL.nil (WC.sq1 hs249 (WQ.r 4 [0] rfl (WQ.pO tbk 4 Acts.nil [0] rfl rfl rfl rfl (fun g_ => ⟨rfl, trivial⟩) ?_)))))))
 refine WQ.r 1 [] rfl (WQ.pO tbk 3 Acts.nil [] rfl rfl rfl rfl (fun g_ => trivial) (WQ.r 1 [] rfl ?_))
 apply WQ.gO 6 Acts.nil rfl
 ·intro g250 J251
  have qg250 := g250
  try simp only [bf, within_iff, within_not] at qg250
  refine WQ.runA tbk 1 (Acts.nil.cons (j := 14) rfl g250) [] rfl trivial ?_
  refine WQ.val (wantF rfl g250) rfl rfl (fun w_ hs_ => (Run.idx Tryd.runUnderlying27 Tryd.sizeOf33 rfl rfl rfl ?_ ?_ ?_)) ?_
  · exact SlF.some_ (OwnN.sl ho244 ((hs_ : St _ _ _ _).ow L1_242))
  · omega
  · omega
  refine WQ.val (wantF rfl g250) rfl rfl (fun w_ hs_ => (Run.loadA Tryd.isAgg33 Tryd.sizeOf33 rfl rfl (SlF.whole (OwnN.sl ho244 ((hs_ : St _ _ _ _).ow L1_242)) ?_))) ?_
  · omega
  refine WQ.runA tbk 1 (Acts.nil.cons (j := 14) rfl g250) [1] rfl ⟨rfl, trivial⟩ ?_
  refine WQ.call (wantF rfl g250) rfl rfl (fun w_ hs_ => (Run.call Tryd.call26 rfl rfl rfl)) (fun w_ hs_ => (k24_ (gat encActR x1_241 0) a _ (SlN.nth (OwnN.ok ho244 ((hs_ : St _ _ _ _).ow L1_242) (fun y Li hy h3 hl => h3.ok hl (by have h9_ := List.mem_map_of_mem (f := ActR.dat) hy; first | exact hsma _ h9_))) (by omega)) (okActR.st0 f_a (hs_ : St _ _ _ _))).mono fun e_ w_ h_ => ⟨h_.1, (hs_ : St _ _ _ _).call0 h_.2⟩) ?_
  refine WQ.runA tbk 1 (Acts.nil.cons (j := 14) rfl g250) [] rfl trivial (WQ.eO 6 Acts.nil J251 g250 rfl rfl)
 refine WQ.nil (fun _ (hs252 : St _ _ _ _) => ?_)
 refine WC.cq rfl (fun h253 qh253 => ?_) (fun h253 qh253 => ?_)
 ·have hg : actOk a.dat = false := by rw [← hG, goodI_R hp0 hp1 hl0]; have h9 := h253; grind
  refine WC.r1 hs252 [] rfl (WC.ret (tkR ?_))
  clear hK230
  refine rtv rfl rfl hs252 ?_
  first | (rw [actT_no hg]; done) | (rw [hno] at hg; cases hg) | (rw [actT_yes hg, ← hB]; done) | (rw [actT_yes hg, ← hB]; refine congrArg Value.string (ByteArray.ext ?_); simp; done) | (rw [actT_yes hg, ← hB]; refine congrArg Value.string (ByteArray.ext ?_); simp [actPre, argT, map_numBA, ActR.dat, hmk]; done) | (rw [actT_no (by rw [← Bool.not_eq_true]; intro hh; have := (actOk_R hh).2 k1; exact hr (by have e : a.dat.R = a.R := rfl; omega))])
 have hg : actOk a.dat = true := by rw [← hG, goodI_R hp0 hp1 hl0]; have h9 := h253; grind
 refine WC.skip (hK230 _ _ (WC.r1 hs252 [] rfl (WC.ret (rtv rfl rfl hs252 ?_))))
 first | (rw [actT_no hg]; done) | (rw [hno] at hg; cases hg) | (rw [actT_yes hg, ← hB]; done) | (rw [actT_yes hg, ← hB]; refine congrArg Value.string (ByteArray.ext ?_); simp; done) | (rw [actT_yes hg, ← hB]; refine congrArg Value.string (ByteArray.ext ?_); simp [actPre, argT, map_numBA, ActR.dat, hmk]; done) | (rw [actT_no (by rw [← Bool.not_eq_true]; intro hh; have := (actOk_R hh).2 k1; exact hr (by have e : a.dat.R = a.R := rfl; omega))])
theorem k45_ (p : VpR) (L_p : Hp) (b : Int) (w : World) (o_p : ownVpR p L_p) (h_p : Hh w L_p) (hd_ : ((L_p).map (·.1)).Nodup) (hsm : smVp 1048576 p.dat) (hok : areArgs p.dat.Args = true) (hb : 0 ≤ b ∧ b ≤ 255) :
    Calls Tryd.prog 60 #[.agg #[i64 p.State, .bool p.Mark, .slice p.Args.A p.Args.n p.Args.c, .slice p.Part.A p.Part.n p.Part.c], i64 b] w fun e w' => ∃ r0 L0 r1 L1, e = .returned (.tuple #[.agg #[i64 r0.State, .bool r0.Mark, .slice r0.Args.A r0.Args.n r0.Args.c, .slice r0.Part.A r0.Part.n r0.Part.c], .agg #[i64 r1.Kind, i64 r1.R, .bool r1.Mark, .slice r1.Args.A r1.Args.n r1.Args.c]]) ∧ St w (L_p.map (·.1)) (L0 ++ L1) w' ∧ ownVpR r0 L0 ∧ ownActR r1 L1 ∧ r0.dat = (vpCsi p.dat b).1 ∧ r1.dat = (vpCsi p.dat b).2 := by
 have hsB : smVp 549755813888 p.dat := ⟨Nat.le_trans hsm.1 (by decide), Nat.le_trans hsm.2 (by decide)⟩
 have hsa : p.Args.xs.length ≤ 1048576 := hsm.1
 have hsp : p.Part.xs.length ≤ 1048576 := hsm.2
 obtain ⟨hal, hpl⟩ := ownVpR.len o_p
 have h88 : p.Args.xs.length ≤ 8 := (areArgs_iff.1 hok).1
 refine enter 109 Tryd.func60 rfl Tryd.ntmps60 rfl rfl ?_
 have hs1 := St.takes1 w L_p h_p hd_
 refine WC.sr (WL.bx hs1 rfl (fun b2 _ hs3 => WL.al hs3 Tryd.zeroValue26 rfl rfl (fun b4 _ hs5 => WL.al hs5 Tryd.zeroValue33 rfl rfl (fun b6 _ hs7 => WL.nil (WC.seq (fun K8 hK8 => WC.block (WC.sr ?_)))))))
 refine WL.r 3 hs7 [] rfl (WL.pA tbk 4 Acts.nil hs7 [2] rfl rfl rfl rfl (fun g_ => ⟨rfl, trivial⟩) (WL.r 1 hs7 [] rfl (WL.pA tbk 3 Acts.nil hs7 [2] rfl rfl rfl rfl (fun g_ => ⟨rfl, trivial⟩) (WL.r 1 hs7 [] rfl (WL.nil (WC.cq rfl (fun h9 qh9 => ?_) (fun h9 qh9 => ?_)))))))
 ·have hc1 : (b = 63 ∧ p.dat.Args.length = 0) ∧ p.dat.Mark = false := by show (b = 63 ∧ p.Args.xs.length = 0) ∧ p.Mark = false; simp at qh9; exact ⟨⟨qh9.1.1, by omega⟩, qh9.2⟩
  refine WC.region (WL.r 1 hs7 [] rfl (WL.st tbk hs7 2 rfl rfl (fun _ hs10 => WL.nil (hK8 _ _ (WC.sr (WL.r 1 hs10 [2] rfl ?_))))))
  refine WL.val rfl rfl rfl (Run.build rfl rfl rfl rfl (built_33)) (WL.st tbk hs10 1 rfl rfl (fun _ hs11 => WL.st tbk hs11 0 rfl rfl (fun _ hs12 => WL.nil (WC.ret (retV2 rfl (resV.cellA tbk hs12 1 rfl rfl rfl rfl) (resV.cellA tbk hs12 0 rfl rfl rfl rfl) ?_)))))
  have hv : vpCsi p.dat b = ({ p.dat with Mark := true }, act0) := by unfold vpCsi; rw [if_pos hc1]
  obtain ⟨L13, L14, hs17, ho15, ho16⟩ := ownVpR.op hs12 o_p
  have hs18 := (((hs17.fb b2).fb b4).fb b6)
  obtain ⟨L20, hs19, ho21⟩ := ownVpR.fl hs18 ho15 ho16
  have hs22 := (((hs19.fb b2).fb b4).fb b6)
  refine ⟨⟨p.State, true, SlD.of ho15, SlD.of ho16⟩, _, ⟨0, 0, false, ⟨none, 0, 0, []⟩⟩, _, rfl, (St.drop ((hs22.fr ([] : Hp)).fr L20) (List.Sublist.append_left (List.sublist_append_left ([] : Hp) _) L20)), ?_, ?_, ?_, ?_⟩
  · exact (by exact ho21)
  · exact (OwnF.nil _ _)
  · rw [hv]; rfl
  · rw [hv]; first | done | rfl
 have hc1 : ¬ ((b = 63 ∧ p.dat.Args.length = 0) ∧ p.dat.Mark = false) := by show ¬ ((b = 63 ∧ p.Args.xs.length = 0) ∧ p.Mark = false); rintro ⟨⟨h1, h2⟩, h3⟩; rw [h3] at qh9; simp at qh9; omega
 refine WC.sr (WL.r 3 hs7 [] rfl (WL.pA tbk 2 Acts.nil hs7 [] rfl rfl rfl rfl (fun g_ => trivial) (WL.r 1 hs7 [] rfl (WL.nil (WC.cq rfl (fun h24 qh24 => ?_) (fun h24 qh24 => ?_))))))
 ·have hc2 : 48 ≤ b ∧ b ≤ 57 := by first | omega | (simp at qh24; omega)
  refine WC.seq (fun K25 hK25 => WC.r1 hs7 [2] rfl ?_)
  refine WC.cD rfl (fun qh26 => ?_) (fun qh26 => ?_)
  ·have gb : 0 ≤ gat encI (p.Args.xs ++ [0]) (((p.Args.xs ++ [0]).length : Int) - 1).toNat ∧ gat encI (p.Args.xs ++ [0]) (((p.Args.xs ++ [0]).length : Int) - 1).toNat ≤ 9999 := by (have hnil : p.Args.xs = [] := List.eq_nil_of_length_eq_zero (by omega); rw [hnil]; decide)
   refine WC.region (WL.r 2 hs7 [2] rfl (WL.buildSlice hs7 Tryd.runUnderlying24 Tryd.sizeOf3 Tryd.zeroValue3 rfl rfl rfl rfl rfl rfl rfl rfl rfl rfl (fun b27 whs28 hs28 => ?_)))
   obtain ⟨L29, L30, hs33, ho31, ho32⟩ := ownVpR.op hs28 o_p
   have hs34 := ((((hs33.fb b2).fb b4).fb b6).fb b27)
   refine WL.appendG (hs34.fr L29) ho31 (srcI1 Tryd.underlying24 (hs34.own _ (nthL_mem (i := 0) rfl)).1) Tryd.underlying24 inf3 rfl rfl rfl rfl rfl rfl rfl rfl rfl rfl ?_ (fun A38 c39 L35 whs36 hs36 ho37 => ?_)
   · first | omega | (simp; done) | (simp; omega) | omega
   replace hs36 := St.back [_, _, _, _] hs36
   refine WL.r 1 hs36 [] rfl (WL.st tbk hs36 3 rfl rfl (fun _ hs40 => WL.nil (hK25 _ _ (WC.sr ?_))))
   refine WL.run tbk 6 hs40 [3, 3] rfl ⟨by first | omega | (simp; done) | (simp; omega) | omega, rfl, rfl, trivial⟩ (WL.val rfl rfl rfl (Run.idx Tryd.runUnderlying24 Tryd.sizeOf3 rfl rfl rfl ?_ ?_ ?_) ?_)
   · exact SlF.some_ (SlF.ofOwn ho37 (hs40.ow L35))
   · first | omega | (simp; done) | (simp; omega) | omega
   · first | omega | (simp; done) | (simp; omega) | omega
   refine WL.val rfl rfl rfl (Run.load Tryd.isAgg3 rfl rfl (SlF.one1 (SlF.ofOwn ho37 (hs40.ow L35)) ?_ rfl)) ?_
   · first | omega | (simp; done) | (simp; omega) | omega
   refine WL.run tbk 5 hs40 [] rfl ⟨by first | omega | (simp; done) | (simp; omega) | omega, by first | omega | (simp; done) | (simp; omega) | omega, by first | omega | (simp; done) | (simp; omega) | omega, trivial⟩ (WL.nil (WC.seq (fun K41 hK41 => WC.r1 hs40 [] rfl ?_)))
   refine WC.cD rfl (fun qh42 => ?_) (fun qh42 => ?_)
   ·refine WC.region (WL.r 1 hs40 [] rfl (WL.nil (hK41 _ _ (WC.region ?_))))
    refine WL.run tbk 7 hs40 [3, 3] rfl ⟨by first | omega | (simp; done) | (simp; omega) | omega, rfl, rfl, trivial⟩ (WL.val rfl rfl rfl (Run.idx Tryd.runUnderlying24 Tryd.sizeOf3 rfl rfl rfl ?_ ?_ ?_) ?_)
    · exact SlF.some_ (SlF.ofOwn ho37 (hs40.ow L35))
    · first | omega | (simp; done) | (simp; omega) | omega
    · first | omega | (simp; done) | (simp; omega) | omega
    refine WL.storeF1 (x' := _) (hs40.fr L35) ho37 Tryd.sizeOf3 rfl rfl rfl rfl rfl rfl rfl rfl rfl ?_ rfl (fun L43 whs44 hs44 ho45 _ => ?_)
    · first | omega | (simp; done) | (simp; omega) | omega
    replace hs44 := St.back [_, _, _, _] hs44
    refine WL.nil (hK8 _ _ (WC.sr (WL.r 1 hs44 [3] rfl ?_)))
    refine WL.val rfl rfl rfl (Run.build rfl rfl rfl rfl (built_33)) (WL.st tbk hs44 2 rfl rfl (fun _ hs46 => WL.st tbk hs46 1 rfl rfl (fun _ hs47 => WL.nil (WC.ret (retV2 rfl (resV.cellA tbk hs47 2 rfl rfl rfl rfl) (resV.cellA tbk hs47 1 rfl rfl rfl rfl) ?_)))))
    have hv : vpCsi p.dat b = (vpDigit p.dat (b - 48), act0) := by unfold vpCsi; rw [if_neg hc1, if_pos hc2]
    have hnil : p.Args.xs = [] := List.eq_nil_of_length_eq_zero (by omega)
    obtain ⟨L49, hs48, ho50⟩ := ownVpR.fl hs47 ho45 ho32
    have hs51 := ((((hs48.fb b2).fb b4).fb b6).fb b27)
    refine ⟨⟨p.State, p.Mark, SlD.of ho45, SlD.of ho32⟩, _, ⟨0, 0, false, ⟨none, 0, 0, []⟩⟩, _, rfl, (St.drop ((hs51.fr ([] : Hp)).fr L49) (List.Sublist.append_left (List.sublist_append_left ([] : Hp) _) L49)), ?_, ?_, ?_, ?_⟩
    · exact (by exact ho50)
    · exact (OwnF.nil _ _)
    · rw [hv, vpDigit_A (show p.dat.Args.length = 0 from (by omega : p.Args.xs.length = 0))]; exact VpD.ext' rfl rfl (by show ((p.Args.xs ++ [0]).set _ _ : List Int) = _; simp only [hnil, List.nil_append] at *; have ez : gat encI [0] ((([0] : List Int).length : Int) - 1).toNat = 0 := rfl; have ez0 : gat encI [0] 0 = 0 := rfl; show [_] = [_]; congr 1; omega) rfl
    · rw [hv]; first | done | rfl
   refine WC.skip (hK41 _ _ (WC.region ?_))
   refine WL.run tbk 7 hs40 [3, 3] rfl ⟨by first | omega | (simp; done) | (simp; omega) | omega, rfl, rfl, trivial⟩ (WL.val rfl rfl rfl (Run.idx Tryd.runUnderlying24 Tryd.sizeOf3 rfl rfl rfl ?_ ?_ ?_) ?_)
   · exact SlF.some_ (SlF.ofOwn ho37 (hs40.ow L35))
   · first | omega | (simp; done) | (simp; omega) | omega
   · first | omega | (simp; done) | (simp; omega) | omega
   refine WL.storeF1 (x' := _) (hs40.fr L35) ho37 Tryd.sizeOf3 rfl rfl rfl rfl rfl rfl rfl rfl rfl ?_ rfl (fun L53 whs54 hs54 ho55 _ => ?_)
   · first | omega | (simp; done) | (simp; omega) | omega
   replace hs54 := St.back [_, _, _, _] hs54
   refine WL.nil (hK8 _ _ (WC.sr (WL.r 1 hs54 [3] rfl ?_)))
   refine WL.val rfl rfl rfl (Run.build rfl rfl rfl rfl (built_33)) (WL.st tbk hs54 2 rfl rfl (fun _ hs56 => WL.st tbk hs56 1 rfl rfl (fun _ hs57 => WL.nil (WC.ret (retV2 rfl (resV.cellA tbk hs57 2 rfl rfl rfl rfl) (resV.cellA tbk hs57 1 rfl rfl rfl rfl) ?_)))))
   have hv : vpCsi p.dat b = (vpDigit p.dat (b - 48), act0) := by unfold vpCsi; rw [if_neg hc1, if_pos hc2]
   have hnil : p.Args.xs = [] := List.eq_nil_of_length_eq_zero (by omega)
   obtain ⟨L59, hs58, ho60⟩ := ownVpR.fl hs57 ho55 ho32
   have hs61 := ((((hs58.fb b2).fb b4).fb b6).fb b27)
   refine ⟨⟨p.State, p.Mark, SlD.of ho55, SlD.of ho32⟩, _, ⟨0, 0, false, ⟨none, 0, 0, []⟩⟩, _, rfl, (St.drop ((hs61.fr ([] : Hp)).fr L59) (List.Sublist.append_left (List.sublist_append_left ([] : Hp) _) L59)), ?_, ?_, ?_, ?_⟩
   · exact (by exact ho60)
   · exact (OwnF.nil _ _)
   · rw [hv, vpDigit_A (show p.dat.Args.length = 0 from (by omega : p.Args.xs.length = 0))]; exact VpD.ext' rfl rfl (by show ((p.Args.xs ++ [0]).set _ _ : List Int) = _; simp only [hnil, List.nil_append] at *; have ez : gat encI [0] ((([0] : List Int).length : Int) - 1).toNat = 0 := rfl; have ez0 : gat encI [0] 0 = 0 := rfl; show [_] = [_]; congr 1; omega) rfl
   · rw [hv]; first | done | rfl
  have gb := areArgs_gat (k := ((p.Args.n : Int) - 1).toNat) hok (by show _ < p.Args.xs.length; omega)
  have e0 : p.dat.Args = p.Args.xs := rfl
  rw [e0] at gb
  refine WC.skip (hK25 _ _ (WC.sr ?_))
  refine WL.run tbk 6 hs7 [2, 2] rfl ⟨by first | omega | (simp; done) | (simp; omega) | omega, rfl, rfl, trivial⟩ (WL.val rfl rfl rfl (Run.idx Tryd.runUnderlying24 Tryd.sizeOf3 rfl rfl rfl ?_ ?_ ?_) ?_)
  · exact SlF.some_ (ownVpR.ok (B := 549755813888) o_p (hs7.ow L_p) (by assumption)).Args
  · first | omega | (simp; done) | (simp; omega) | omega
  · first | omega | (simp; done) | (simp; omega) | omega
  refine WL.val rfl rfl rfl (Run.load Tryd.isAgg3 rfl rfl (SlF.one1 (ownVpR.ok (B := 549755813888) o_p (hs7.ow L_p) (by assumption)).Args ?_ rfl)) ?_
  · first | omega | (simp; done) | (simp; omega) | omega
  refine WL.run tbk 5 hs7 [] rfl ⟨by first | omega | (simp; done) | (simp; omega) | omega, by first | omega | (simp; done) | (simp; omega) | omega, by first | omega | (simp; done) | (simp; omega) | omega, trivial⟩ (WL.nil (WC.seq (fun K63 hK63 => WC.r1 hs7 [] rfl ?_)))
  refine WC.cD rfl (fun qh64 => ?_) (fun qh64 => ?_)
  ·refine WC.region (WL.r 1 hs7 [] rfl (WL.nil (hK63 _ _ (WC.region ?_))))
   refine WL.run tbk 7 hs7 [2, 2] rfl ⟨by first | omega | (simp; done) | (simp; omega) | omega, rfl, rfl, trivial⟩ (WL.val rfl rfl rfl (Run.idx Tryd.runUnderlying24 Tryd.sizeOf3 rfl rfl rfl ?_ ?_ ?_) ?_)
   · exact SlF.some_ (ownVpR.ok (B := 549755813888) o_p (hs7.ow L_p) (by assumption)).Args
   · first | omega | (simp; done) | (simp; omega) | omega
   · first | omega | (simp; done) | (simp; omega) | omega
   obtain ⟨L65, L66, hs69, ho67, ho68⟩ := ownVpR.op hs7 o_p
   have hs70 := (((hs69.fb b2).fb b4).fb b6)
   refine WL.storeF1 (x' := _) (hs70.fr L65) ho67 Tryd.sizeOf3 rfl rfl rfl rfl rfl rfl rfl rfl rfl ?_ rfl (fun L71 whs72 hs72 ho73 _ => ?_)
   · first | omega | (simp; done) | (simp; omega) | omega
   replace hs72 := St.back [_, _, _] hs72
   refine WL.nil (hK8 _ _ (WC.sr (WL.r 1 hs72 [2] rfl ?_)))
   refine WL.val rfl rfl rfl (Run.build rfl rfl rfl rfl (built_33)) (WL.st tbk hs72 1 rfl rfl (fun _ hs74 => WL.st tbk hs74 0 rfl rfl (fun _ hs75 => WL.nil (WC.ret (retV2 rfl (resV.cellA tbk hs75 1 rfl rfl rfl rfl) (resV.cellA tbk hs75 0 rfl rfl rfl rfl) ?_)))))
   have hv : vpCsi p.dat b = (vpDigit p.dat (b - 48), act0) := by unfold vpCsi; rw [if_neg hc1, if_pos hc2]
   obtain ⟨L77, hs76, ho78⟩ := ownVpR.fl hs75 ho73 ho68
   have hs79 := (((hs76.fb b2).fb b4).fb b6)
   refine ⟨⟨p.State, p.Mark, SlD.of ho73, SlD.of ho68⟩, _, ⟨0, 0, false, ⟨none, 0, 0, []⟩⟩, _, rfl, (St.drop ((hs79.fr ([] : Hp)).fr L77) (List.Sublist.append_left (List.sublist_append_left ([] : Hp) _) L77)), ?_, ?_, ?_, ?_⟩
   · exact (by exact ho78)
   · exact (OwnF.nil _ _)
   · rw [hv, vpDigit_B (show ¬ p.dat.Args.length = 0 from (by omega : ¬ p.Args.xs.length = 0))]; exact VpD.ext' rfl rfl (by have e9 : ((p.Args.n : Int) - 1).toNat = p.Args.xs.length - 1 := (by omega); show (p.Args.xs.set _ _ : List Int) = _; show _ = p.Args.xs.set (p.Args.xs.length - 1) (min 9999 (10 * gat encI p.Args.xs (p.Args.xs.length - 1) + (b - 48))); have e10 : gat encI p.Args.xs ((p.Args.n : Int) - 1).toNat = gat encI p.Args.xs (p.Args.xs.length - 1) := (by rw [e9]); rw [e9]; congr 1; omega) rfl
   · rw [hv]; first | done | rfl
  refine WC.skip (hK63 _ _ (WC.region ?_))
  refine WL.run tbk 7 hs7 [2, 2] rfl ⟨by first | omega | (simp; done) | (simp; omega) | omega, rfl, rfl, trivial⟩ (WL.val rfl rfl rfl (Run.idx Tryd.runUnderlying24 Tryd.sizeOf3 rfl rfl rfl ?_ ?_ ?_) ?_)
  · exact SlF.some_ (ownVpR.ok (B := 549755813888) o_p (hs7.ow L_p) (by assumption)).Args
  · first | omega | (simp; done) | (simp; omega) | omega
  · first | omega | (simp; done) | (simp; omega) | omega
  obtain ⟨L81, L82, hs85, ho83, ho84⟩ := ownVpR.op hs7 o_p
  have hs86 := (((hs85.fb b2).fb b4).fb b6)
  refine WL.storeF1 (x' := _) (hs86.fr L81) ho83 Tryd.sizeOf3 rfl rfl rfl rfl rfl rfl rfl rfl rfl ?_ rfl (fun L87 whs88 hs88 ho89 _ => ?_)
  · first | omega | (simp; done) | (simp; omega) | omega
  replace hs88 := St.back [_, _, _] hs88
  refine WL.nil (hK8 _ _ (WC.sr (WL.r 1 hs88 [2] rfl ?_)))
  refine WL.val rfl rfl rfl (Run.build rfl rfl rfl rfl (built_33)) (WL.st tbk hs88 1 rfl rfl (fun _ hs90 => WL.st tbk hs90 0 rfl rfl (fun _ hs91 => WL.nil (WC.ret (retV2 rfl (resV.cellA tbk hs91 1 rfl rfl rfl rfl) (resV.cellA tbk hs91 0 rfl rfl rfl rfl) ?_)))))
  have hv : vpCsi p.dat b = (vpDigit p.dat (b - 48), act0) := by unfold vpCsi; rw [if_neg hc1, if_pos hc2]
  obtain ⟨L93, hs92, ho94⟩ := ownVpR.fl hs91 ho89 ho84
  have hs95 := (((hs92.fb b2).fb b4).fb b6)
  refine ⟨⟨p.State, p.Mark, SlD.of ho89, SlD.of ho84⟩, _, ⟨0, 0, false, ⟨none, 0, 0, []⟩⟩, _, rfl, (St.drop ((hs95.fr ([] : Hp)).fr L93) (List.Sublist.append_left (List.sublist_append_left ([] : Hp) _) L93)), ?_, ?_, ?_, ?_⟩
  · exact (by exact ho94)
  · exact (OwnF.nil _ _)
  · rw [hv, vpDigit_B (show ¬ p.dat.Args.length = 0 from (by omega : ¬ p.Args.xs.length = 0))]; exact VpD.ext' rfl rfl (by have e9 : ((p.Args.n : Int) - 1).toNat = p.Args.xs.length - 1 := (by omega); show (p.Args.xs.set _ _ : List Int) = _; show _ = p.Args.xs.set (p.Args.xs.length - 1) (min 9999 (10 * gat encI p.Args.xs (p.Args.xs.length - 1) + (b - 48))); have e10 : gat encI p.Args.xs ((p.Args.n : Int) - 1).toNat = gat encI p.Args.xs (p.Args.xs.length - 1) := (by rw [e9]); rw [e9]; congr 1; omega) rfl
  · rw [hv]; first | done | rfl
 have hc2 : ¬ (48 ≤ b ∧ b ≤ 57) := by first | omega | (simp at qh24; omega)
 refine WC.r1 hs7 [] rfl (WC.cD rfl (fun qh97 => ?_) (fun qh97 => ?_))
 ·have hc3 : b = 59 := by first | omega | (simp at qh97; omega)
  refine WC.seq (fun K98 hK98 => WC.r1 hs7 [2] rfl ?_)
  refine WC.cD rfl (fun qh99 => ?_) (fun qh99 => ?_)
  ·refine WC.region (WL.r 2 hs7 [2] rfl (WL.buildSlice hs7 Tryd.runUnderlying24 Tryd.sizeOf3 Tryd.zeroValue3 rfl rfl rfl rfl rfl rfl rfl rfl rfl rfl (fun b100 whs101 hs101 => ?_)))
   obtain ⟨L102, L103, hs106, ho104, ho105⟩ := ownVpR.op hs101 o_p
   have hs107 := ((((hs106.fb b2).fb b4).fb b6).fb b100)
   refine WL.appendG (hs107.fr L102) ho104 (srcI1 Tryd.underlying24 (hs107.own _ (nthL_mem (i := 0) rfl)).1) Tryd.underlying24 inf3 rfl rfl rfl rfl rfl rfl rfl rfl rfl rfl ?_ (fun A111 c112 L108 whs109 hs109 ho110 => ?_)
   · first | omega | (simp; done) | (simp; omega) | omega
   replace hs109 := St.back [_, _, _, _] hs109
   refine WL.r 1 hs109 [] rfl (WL.st tbk hs109 3 rfl rfl (fun _ hs113 => WL.nil (hK98 _ _ (WC.r1 hs113 [3] rfl ?_))))
   refine WC.cD rfl (fun qh114 => ?_) (fun qh114 => ?_)
   ·refine WC.region (WL.r 1 hs113 [] rfl (WL.st tbk hs113 3 rfl rfl (fun _ hs115 => WL.nil (hK8 _ _ (WC.sr (WL.r 1 hs115 [3] rfl ?_))))))
    refine WL.val rfl rfl rfl (Run.build rfl rfl rfl rfl (built_33)) (WL.st tbk hs115 2 rfl rfl (fun _ hs116 => WL.st tbk hs116 1 rfl rfl (fun _ hs117 => WL.nil (WC.ret (retV2 rfl (resV.cellA tbk hs117 2 rfl rfl rfl rfl) (resV.cellA tbk hs117 1 rfl rfl rfl rfl) ?_)))))
    exfalso
    simp at qh114 <;> omega
   refine WC.region (WL.r 2 hs113 [3] rfl (WL.buildSlice hs113 Tryd.runUnderlying24 Tryd.sizeOf3 Tryd.zeroValue3 rfl rfl rfl rfl rfl rfl rfl rfl rfl rfl (fun b118 whs119 hs119 => ?_)))
   refine WL.appendG (hs119.fr L108) ho110 (srcI1 Tryd.underlying24 (hs119.own _ (nthL_mem (i := 0) rfl)).1) Tryd.underlying24 inf3 rfl rfl rfl rfl rfl rfl rfl rfl rfl rfl ?_ (fun A123 c124 L120 whs121 hs121 ho122 => ?_)
   · first | omega | (simp; done) | (simp; omega) | omega
   replace hs121 := St.back [_, _, _, _, _] hs121
   refine WL.r 1 hs121 [] rfl (WL.st tbk hs121 4 rfl rfl (fun _ hs125 => WL.nil (hK8 _ _ (WC.sr (WL.r 1 hs125 [4] rfl ?_)))))
   refine WL.val rfl rfl rfl (Run.build rfl rfl rfl rfl (built_33)) (WL.st tbk hs125 3 rfl rfl (fun _ hs126 => WL.st tbk hs126 2 rfl rfl (fun _ hs127 => WL.nil (WC.ret (retV2 rfl (resV.cellA tbk hs127 3 rfl rfl rfl rfl) (resV.cellA tbk hs127 2 rfl rfl rfl rfl) ?_)))))
   have hv : vpCsi p.dat b = (vpNext p.dat, act0) := by unfold vpCsi; rw [if_neg hc1, if_neg hc2, if_pos hc3]
   have hnil : p.Args.xs = [] := List.eq_nil_of_length_eq_zero (by omega)
   obtain ⟨L129, hs128, ho130⟩ := ownVpR.fl hs127 ho122 ho105
   have hs131 := (((((hs128.fb b2).fb b4).fb b6).fb b100).fb b118)
   refine ⟨⟨p.State, p.Mark, SlD.of ho122, SlD.of ho105⟩, _, ⟨0, 0, false, ⟨none, 0, 0, []⟩⟩, _, rfl, (St.drop ((hs131.fr ([] : Hp)).fr L129) (List.Sublist.append_left (List.sublist_append_left ([] : Hp) _) L129)), ?_, ?_, ?_, ?_⟩
   · exact (by exact ho130)
   · exact (OwnF.nil _ _)
   · rw [hv, vpNext_A (show p.dat.Args.length = 0 from (by omega : p.Args.xs.length = 0))]; exact VpD.ext' rfl rfl (by show (p.Args.xs ++ [0]) ++ [0] = _; rw [hnil]; rfl) rfl
   · rw [hv]; first | done | rfl
  refine WC.skip (hK98 _ _ (WC.r1 hs7 [2] rfl ?_))
  refine WC.cD rfl (fun qh133 => ?_) (fun qh133 => ?_)
  ·refine WC.region (WL.r 1 hs7 [] rfl (WL.st tbk hs7 2 rfl rfl (fun _ hs134 => WL.nil (hK8 _ _ (WC.sr (WL.r 1 hs134 [2] rfl ?_))))))
   refine WL.val rfl rfl rfl (Run.build rfl rfl rfl rfl (built_33)) (WL.st tbk hs134 1 rfl rfl (fun _ hs135 => WL.st tbk hs135 0 rfl rfl (fun _ hs136 => WL.nil (WC.ret (retV2 rfl (resV.cellA tbk hs136 1 rfl rfl rfl rfl) (resV.cellA tbk hs136 0 rfl rfl rfl rfl) ?_)))))
   have hv : vpCsi p.dat b = (vpNext p.dat, act0) := by unfold vpCsi; rw [if_neg hc1, if_neg hc2, if_pos hc3]
   obtain ⟨L137, L138, hs141, ho139, ho140⟩ := ownVpR.op hs136 o_p
   have hs142 := (((hs141.fb b2).fb b4).fb b6)
   obtain ⟨L144, hs143, ho145⟩ := ownVpR.fl hs142 ho139 ho140
   have hs146 := (((hs143.fb b2).fb b4).fb b6)
   refine ⟨⟨(3), p.Mark, SlD.of ho139, SlD.of ho140⟩, _, ⟨0, 0, false, ⟨none, 0, 0, []⟩⟩, _, rfl, (St.drop ((hs146.fr ([] : Hp)).fr L144) (List.Sublist.append_left (List.sublist_append_left ([] : Hp) _) L144)), ?_, ?_, ?_, ?_⟩
   · exact (by exact ho145)
   · exact (OwnF.nil _ _)
   · rw [hv, vpNext_D (show p.dat.Args.length = 8 from (by omega : p.Args.xs.length = 8))]; rfl
   · rw [hv]; first | done | rfl
  refine WC.region (WL.r 2 hs7 [2] rfl (WL.buildSlice hs7 Tryd.runUnderlying24 Tryd.sizeOf3 Tryd.zeroValue3 rfl rfl rfl rfl rfl rfl rfl rfl rfl rfl (fun b148 whs149 hs149 => ?_)))
  obtain ⟨L150, L151, hs154, ho152, ho153⟩ := ownVpR.op hs149 o_p
  have hs155 := ((((hs154.fb b2).fb b4).fb b6).fb b148)
  refine WL.appendG (hs155.fr L150) ho152 (srcI1 Tryd.underlying24 (hs155.own _ (nthL_mem (i := 0) rfl)).1) Tryd.underlying24 inf3 rfl rfl rfl rfl rfl rfl rfl rfl rfl rfl ?_ (fun A159 c160 L156 whs157 hs157 ho158 => ?_)
  · first | omega | (simp; done) | (simp; omega) | omega
  replace hs157 := St.back [_, _, _, _] hs157
  refine WL.r 1 hs157 [] rfl (WL.st tbk hs157 3 rfl rfl (fun _ hs161 => WL.nil (hK8 _ _ (WC.sr (WL.r 1 hs161 [3] rfl ?_)))))
  refine WL.val rfl rfl rfl (Run.build rfl rfl rfl rfl (built_33)) (WL.st tbk hs161 2 rfl rfl (fun _ hs162 => WL.st tbk hs162 1 rfl rfl (fun _ hs163 => WL.nil (WC.ret (retV2 rfl (resV.cellA tbk hs163 2 rfl rfl rfl rfl) (resV.cellA tbk hs163 1 rfl rfl rfl rfl) ?_)))))
  have hv : vpCsi p.dat b = (vpNext p.dat, act0) := by unfold vpCsi; rw [if_neg hc1, if_neg hc2, if_pos hc3]
  obtain ⟨L165, hs164, ho166⟩ := ownVpR.fl hs163 ho158 ho153
  have hs167 := ((((hs164.fb b2).fb b4).fb b6).fb b148)
  refine ⟨⟨p.State, p.Mark, SlD.of ho158, SlD.of ho153⟩, _, ⟨0, 0, false, ⟨none, 0, 0, []⟩⟩, _, rfl, (St.drop ((hs167.fr ([] : Hp)).fr L165) (List.Sublist.append_left (List.sublist_append_left ([] : Hp) _) L165)), ?_, ?_, ?_, ?_⟩
  · exact (by exact ho166)
  · exact (OwnF.nil _ _)
  · rw [hv, vpNext_B (show ¬ p.dat.Args.length = 0 from (by omega : ¬ p.Args.xs.length = 0)) (show p.dat.Args.length + 1 ≤ 8 from (by omega : p.Args.xs.length + 1 ≤ 8))]; rfl
  · rw [hv]; first | done | rfl
 have hc3 : ¬ (b = 59) := by first | omega | (simp at qh97; omega)
 refine WC.sr (WL.r 3 hs7 [] rfl (WL.pA tbk 2 Acts.nil hs7 [] rfl rfl rfl rfl (fun g_ => trivial) (WL.r 1 hs7 [] rfl (WL.nil (WC.cq rfl (fun h169 qh169 => ?_) (fun h169 qh169 => ?_))))))
 ·have hc4 : 64 ≤ b ∧ b ≤ 126 := by first | omega | (simp at qh169; omega)
  refine WC.seq (fun K170 hK170 => WC.rH hs7.d1.d1 hs7 (fun _ hs171 => ?_))
  refine WH.take 0 rfl (by kernel_rfl) rfl rfl rfl hs171.d1.d1 (fun w_ hs_ => (Run.build rfl rfl rfl rfl (built_26))) ?_
  refine WH.rn [1, 2, 3, 4, 5] hs171.d1.d1 [0, 0] rfl rfl ?_
  refine WH.take 6 rfl (by kernel_rfl) rfl rfl rfl hs171.d1.d1 (fun w_ hs_ => (Run.build rfl rfl rfl rfl (built_33_0_1_2_3 _ _ _ _ _ _))) ?_
  refine WH.o1 7 rfl (WL.st tbk hs171 1 rfl rfl (fun _ hs172 => WL.nil ⟨hs172.d1.d1, WH.o1 8 rfl (WL.st tbk hs172 0 rfl rfl (fun _ hs173 => WL.nil ⟨hs173.d1.d1, WH.dn (hK170 _ _ ?_)⟩))⟩))
  refine WC.ret (ibR (tkR ?_))
  clear hK8
  refine retV2 rfl (resV.cellA tbk hs173 1 rfl rfl rfl rfl) (resV.cellA tbk hs173 0 rfl rfl rfl rfl) ?_
  have hv : vpCsi p.dat b = (vp0, ⟨4, b, p.dat.Mark, p.dat.Args⟩) := by unfold vpCsi; rw [if_neg hc1, if_neg hc2, if_neg hc3, if_pos hc4]
  obtain ⟨L177, hs176, ho178⟩ := ownVpR.fl hs173 (OwnF.nil _ _) (OwnF.nil _ _)
  have hs179 := (((hs176.fb b2).fb b4).fb b6)
  obtain ⟨L180, L181, hs184, ho182, ho183⟩ := ownVpR.op hs179 o_p
  have hs185 := (((hs184.fb b2).fb b4).fb b6)
  refine ⟨⟨0, false, ⟨none, 0, 0, []⟩, ⟨none, 0, 0, []⟩⟩, _, ⟨(4), b, p.Mark, SlD.of ho182⟩, _, rfl, (St.drop ((hs185.fr L180).fr L177) (List.Sublist.append_left (List.sublist_append_left L180 _) L177)), ?_, ?_, ?_, ?_⟩
  · exact (by exact ho178)
  · exact ho182
  · rw [hv]; rfl
  · rw [hv]; rfl
 have hc4 : ¬ (64 ≤ b ∧ b ≤ 126) := by first | omega | (simp at qh169; omega)
 refine WC.sr (WL.r 3 hs7 [] rfl (WL.pO tbk 2 Acts.nil hs7 [] rfl rfl rfl rfl (fun g_ => trivial) (WL.r 1 hs7 [] rfl (WL.nil (WC.cq rfl (fun h186 qh186 => ?_) (fun h186 qh186 => ?_))))))
 ·have hc5 : b < 32 ∨ b = 127 := by first | omega | (simp at qh186; omega)
  refine WC.sr (WL.r 2 hs7 [2] rfl ?_)
  refine WL.val rfl rfl rfl (Run.build rfl rfl rfl rfl (built_33_0_1 _ _)) (WL.st tbk hs7 1 rfl rfl (fun _ hs187 => WL.st tbk hs187 0 rfl rfl (fun _ hs188 => WL.nil (WC.ret (ibR (tkR ?_))))))
  clear hK8
  refine retV2 rfl (resV.cellA tbk hs188 1 rfl rfl rfl rfl) (resV.cellA tbk hs188 0 rfl rfl rfl rfl) ?_
  have hv : vpCsi p.dat b = (p.dat, ⟨2, b, false, []⟩) := by unfold vpCsi; rw [if_neg hc1, if_neg hc2, if_neg hc3, if_neg hc4, if_pos hc5]
  refine ⟨p, _, ⟨(2), b, false, ⟨none, 0, 0, []⟩⟩, _, rfl, (St.drop ((hs188.fr ([] : Hp)).fr L_p) (List.Sublist.append_left (List.sublist_append_left ([] : Hp) _) L_p)), ?_, ?_, ?_, ?_⟩
  · exact o_p
  · exact (OwnF.nil _ _)
  · rw [hv]; first | done | rfl
  · rw [hv]; first | done | rfl
 have hc5 : ¬ (b < 32 ∨ b = 127) := by first | omega | (simp at qh186; omega)
 refine WC.region (WL.r 1 hs7 [] rfl (WL.st tbk hs7 2 rfl rfl (fun _ hs190 => WL.nil (hK8 _ _ (WC.sr (WL.r 1 hs190 [2] rfl ?_))))))
 refine WL.val rfl rfl rfl (Run.build rfl rfl rfl rfl (built_33)) (WL.st tbk hs190 1 rfl rfl (fun _ hs191 => WL.st tbk hs191 0 rfl rfl (fun _ hs192 => WL.nil (WC.ret (retV2 rfl (resV.cellA tbk hs192 1 rfl rfl rfl rfl) (resV.cellA tbk hs192 0 rfl rfl rfl rfl) ?_)))))
 have hv : vpCsi p.dat b = ({ p.dat with State := 3 }, act0) := by unfold vpCsi; rw [if_neg hc1, if_neg hc2, if_neg hc3, if_neg hc4, if_neg hc5]
 obtain ⟨L193, L194, hs197, ho195, ho196⟩ := ownVpR.op hs192 o_p
 have hs198 := (((hs197.fb b2).fb b4).fb b6)
 obtain ⟨L200, hs199, ho201⟩ := ownVpR.fl hs198 ho195 ho196
 have hs202 := (((hs199.fb b2).fb b4).fb b6)
 refine ⟨⟨(3), p.Mark, SlD.of ho195, SlD.of ho196⟩, _, ⟨0, 0, false, ⟨none, 0, 0, []⟩⟩, _, rfl, (St.drop ((hs202.fr ([] : Hp)).fr L200) (List.Sublist.append_left (List.sublist_append_left ([] : Hp) _) L200)), ?_, ?_, ?_, ?_⟩
 · exact (by exact ho201)
 · exact (OwnF.nil _ _)
 · rw [hv]; rfl
 · rw [hv]; first | done | rfl
theorem k46_ (p : VpR) (b : Int) (w : World) (f_p : okVpR 549755813888 w p) (hsm : smVp 1048576 p.dat) :
    Calls Tryd.prog 43 #[.agg #[i64 p.State, .bool p.Mark, .slice p.Args.A p.Args.n p.Args.c, .slice p.Part.A p.Part.n p.Part.c], i64 b] w fun e w' => ∃ r0 L0 r1 L1, e = .returned (.tuple #[.agg #[i64 r0.State, .bool r0.Mark, .slice r0.Args.A r0.Args.n r0.Args.c, .slice r0.Part.A r0.Part.n r0.Part.c], .agg #[i64 r1.Kind, i64 r1.R, .bool r1.Mark, .slice r1.Args.A r1.Args.n r1.Args.c]]) ∧ St w [] (L0 ++ L1) w' ∧ ownVpR r0 L0 ∧ ownActR r1 L1 ∧ r0.dat = (vpByte p.dat b).1 ∧ r1.dat = (vpByte p.dat b).2 := by
 have nb_p_Args := f_p.Args_n
 have nl_p_Args := f_p.Args.len
 have nb_p_Part := f_p.Part_n
 have nl_p_Part := f_p.Part.len
 have hsB : smVp 549755813888 p.dat := ⟨Nat.le_trans hsm.1 (by decide), Nat.le_trans hsm.2 (by decide)⟩
 have hsa : p.Args.xs.length ≤ 1048576 := hsm.1
 have hsp : p.Part.xs.length ≤ 1048576 := hsm.2
 refine enter 78 Tryd.func43 rfl Tryd.ntmps43 rfl rfl ?_
 have hs1 := St.init w
 refine WC.sr (WL.bx hs1 rfl (fun b2 _ hs3 => WL.al hs3 Tryd.zeroValue26 rfl rfl (fun b4 _ hs5 => WL.al hs5 Tryd.zeroValue33 rfl rfl (fun b6 _ hs7 => WL.nil (WC.seq (fun K8 hK8 => WC.sr (WL.r 1 hs7 [2] rfl ?_)))))))
 refine WL.cl Tryd.call41 rfl (k34_ p _ (okVpR.st0 f_p hs7)) ?_
 rintro _ whs9 ⟨rfl, hs9⟩
 replace hs9 := hs7.call0 hs9
 refine ⟨_, rfl, WL.r 2 hs9 [] rfl (WL.pO tbk 2 Acts.nil hs9 [] rfl rfl rfl rfl (fun g_ => trivial) (WL.r 1 hs9 [] rfl (WL.pO tbk 2 Acts.nil hs9 [] rfl rfl rfl rfl (fun g_ => trivial) (WL.nil (WC.cq rfl (fun h10 qh10 => ?_) (fun h10 qh10 => ?_))))))⟩
 ·have k0 : ¬ (vpOk p.dat = true ∧ 0 ≤ b ∧ b ≤ 255) := by rintro ⟨h1, h2⟩; rw [h1] at qh10; simp at qh10; omega
  refine WC.sr ?_
  refine WL.val rfl rfl rfl (Run.build rfl rfl rfl rfl (built_26)) ?_
  refine WL.val rfl rfl rfl (Run.build rfl rfl rfl rfl (built_33)) (WL.st tbk hs9 1 rfl rfl (fun _ hs11 => WL.st tbk hs11 0 rfl rfl (fun _ hs12 => WL.nil (WC.ret (tkR ?_)))))
  clear hK8
  refine retV2 rfl (resV.cellA tbk hs12 1 rfl rfl rfl rfl) (resV.cellA tbk hs12 0 rfl rfl rfl rfl) ?_
  have hv : vpByte p.dat b = (vp0, act0) := by unfold vpByte; rw [if_neg k0]
  obtain ⟨L16, hs15, ho17⟩ := ownVpR.fl hs12 (OwnF.nil _ _) (OwnF.nil _ _)
  have hs18 := (((hs15.fb b2).fb b4).fb b6)
  refine ⟨⟨0, false, ⟨none, 0, 0, []⟩, ⟨none, 0, 0, []⟩⟩, _, ⟨0, 0, false, ⟨none, 0, 0, []⟩⟩, _, rfl, (St.drop ((hs18.fr ([] : Hp)).fr L16) (List.Sublist.append_left (List.sublist_append_left ([] : Hp) _) L16)), ?_, ?_, ?_, ?_⟩
  · exact (by exact ho17)
  · exact (OwnF.nil _ _)
  · rw [hv]; first | done | rfl
  · rw [hv]; first | done | rfl
 have k0 : vpOk p.dat = true ∧ 0 ≤ b ∧ b ≤ 255 := by first | exact qh10 | (simp at qh10; exact ⟨qh10.1.1, by omega⟩)
 have hok := k0.1
 have hb := k0.2
 have hb1 : vpByte p.dat b = vpStep p.dat b := by unfold vpByte; rw [if_pos k0]
 refine WC.skip (hK8 _ _ (WC.seq (fun K20 hK20 => WC.r1 hs9 [] rfl ?_)))
 refine WC.cD rfl (fun qh21 => ?_) (fun qh21 => ?_)
 ·have k1 : b = 27 := by first | exact qh21 | omega | (simp at qh21; omega)
  refine WC.sr ?_
  refine WL.val rfl rfl rfl (Run.build rfl rfl rfl rfl (built_26_0 _)) ?_
  refine WL.val rfl rfl rfl (Run.build rfl rfl rfl rfl (built_33)) (WL.st tbk hs9 1 rfl rfl (fun _ hs22 => WL.st tbk hs22 0 rfl rfl (fun _ hs23 => WL.nil (WC.ret (tkR ?_)))))
  clear hK20
  refine retV2 rfl (resV.cellA tbk hs23 1 rfl rfl rfl rfl) (resV.cellA tbk hs23 0 rfl rfl rfl rfl) ?_
  have hv : vpStep p.dat b = (⟨1, false, [], []⟩, act0) := by unfold vpStep; rw [if_pos k1]
  obtain ⟨L27, hs26, ho28⟩ := ownVpR.fl hs23 (OwnF.nil _ _) (OwnF.nil _ _)
  have hs29 := (((hs26.fb b2).fb b4).fb b6)
  refine ⟨⟨(1), false, ⟨none, 0, 0, []⟩, ⟨none, 0, 0, []⟩⟩, _, ⟨0, 0, false, ⟨none, 0, 0, []⟩⟩, _, rfl, (St.drop ((hs29.fr ([] : Hp)).fr L27) (List.Sublist.append_left (List.sublist_append_left ([] : Hp) _) L27)), ?_, ?_, ?_, ?_⟩
  · exact (by exact ho28)
  · exact (OwnF.nil _ _)
  · rw [hb1, hv]; first | exact rfl | rfl
  · rw [hb1, hv]; first | exact rfl | rfl
 have k1 : ¬ (b = 27) := by first | exact qh21 | omega | (simp at qh21; omega)
 refine WC.skip (hK20 _ _ (WC.seq (fun K31 hK31 => WC.sr (WL.r 3 hs9 [] rfl (WL.pO tbk 2 Acts.nil hs9 [] rfl rfl rfl rfl (fun g_ => trivial) (WL.nil ?_))))))
 refine WC.cq rfl (fun h32 qh32 => ?_) (fun h32 qh32 => ?_)
 ·have k2 : b = 24 ∨ b = 26 := by first | exact qh32 | omega | (simp at qh32; omega)
  refine WC.sr ?_
  refine WL.val rfl rfl rfl (Run.build rfl rfl rfl rfl (built_26)) ?_
  refine WL.val rfl rfl rfl (Run.build rfl rfl rfl rfl (built_33)) (WL.st tbk hs9 1 rfl rfl (fun _ hs33 => WL.st tbk hs33 0 rfl rfl (fun _ hs34 => WL.nil (WC.ret (tkR ?_)))))
  clear hK31
  refine retV2 rfl (resV.cellA tbk hs34 1 rfl rfl rfl rfl) (resV.cellA tbk hs34 0 rfl rfl rfl rfl) ?_
  have hv : vpStep p.dat b = (vp0, act0) := by unfold vpStep; rw [if_neg k1, if_pos k2]
  obtain ⟨L38, hs37, ho39⟩ := ownVpR.fl hs34 (OwnF.nil _ _) (OwnF.nil _ _)
  have hs40 := (((hs37.fb b2).fb b4).fb b6)
  refine ⟨⟨0, false, ⟨none, 0, 0, []⟩, ⟨none, 0, 0, []⟩⟩, _, ⟨0, 0, false, ⟨none, 0, 0, []⟩⟩, _, rfl, (St.drop ((hs40.fr ([] : Hp)).fr L38) (List.Sublist.append_left (List.sublist_append_left ([] : Hp) _) L38)), ?_, ?_, ?_, ?_⟩
  · exact (by exact ho39)
  · exact (OwnF.nil _ _)
  · rw [hb1, hv]; first | exact rfl | rfl
  · rw [hb1, hv]; first | exact rfl | rfl
 have k2 : ¬ (b = 24 ∨ b = 26) := by first | exact qh32 | omega | (simp at qh32; omega)
 refine WC.skip (hK31 _ _ (WC.sr (WL.r 1 hs9 [2] rfl ?_)))
 refine WL.cl Tryd.call42 rfl (k36_ p _ (okVpR.st0 f_p hs9) ?_) ?_
 · first | assumption | rfl | omega | (rw [rfl]; assumption) | (simp; omega)
 rintro _ whs42 ⟨r43, L1_44, rfl, hs42, ho45, hd46⟩
 replace hs42 := hs9.callF hs42
 refine ⟨_, rfl, ?_⟩
 replace hs42 := St.back [_, _, _] hs42
 skip
 refine WL.al hs42 Tryd.zeroValue26 rfl rfl (fun b47 _ hs48 => WL.st tbk hs48 0 rfl rfl (fun _ hs49 => WL.nil (WC.seq (fun K50 hK50 => WC.r1 hs49 [3] rfl (WC.block (WC.r1 hs49 [] rfl ?_))))))
 refine WC.cD rfl (fun qh51 => ?_) (fun qh51 => ?_)
 ·have k3 : p.dat.State = 0 := by show p.State = 0; first | exact qh51 | omega | (simp at qh51; omega)
  refine WC.sr (WL.r 3 hs49 [3] rfl (WL.cl Tryd.call59 rfl (k37_ _ _ _ _ _ _ (SlF.st0 f_p.Part hs49) ?_) ?_))
  · first | assumption | rfl | omega | (rw [hd46]; assumption) | (simp; omega)
  rintro _ whs52 ⟨r0_53, L0_54, r1_55, L1_56, rfl, hs52, ho57, ho58, hd0_59, hd1_60⟩
  replace hs52 := hs49.callF hs52
  refine ⟨_, rfl, ?_⟩
  replace hs52 := St.assoc hs52
  replace hs52 := St.back2 [_, _, _, _] hs52
  refine WL.r 2 hs52 [] rfl (WL.st tbk hs52 2 rfl rfl (fun _ hs61 => WL.st tbk hs61 1 rfl rfl (fun _ hs62 => WL.nil (WC.ret (ibR (tkR ?_))))))
  clear hK50
  refine retV2 rfl (resV.cellA tbk hs62 2 rfl rfl rfl rfl) (resV.cellA tbk hs62 1 rfl rfl rfl rfl) ?_
  have hv : vpStep p.dat b = vpPlain p.dat.Part b := by unfold vpStep; rw [if_neg k1, if_neg k2, if_pos k3]
  refine ⟨r0_53, _, r1_55, _, rfl, (St.drop ((hs62.fr L1_56).fr L0_54) (List.Sublist.append_left (List.sublist_append_left L1_56 _) L0_54)), ?_, ?_, ?_, ?_⟩
  · exact ho57
  · exact ho58
  · rw [hb1, hv]; first | exact hd0_59 | rfl
  · rw [hb1, hv]; first | exact hd1_60 | rfl
 have k3 : ¬ (p.dat.State = 0) := by show ¬ (p.State = 0); first | exact qh51 | omega | (simp at qh51; omega)
 refine WC.r1 hs49 [] rfl (WC.cD rfl (fun qh63 => ?_) (fun qh63 => ?_))
 ·have k4 : p.dat.State = 1 := by show p.State = 1; first | exact qh63 | omega | (simp at qh63; omega)
  refine WC.seq (fun K64 hK64 => WC.r1 hs49 [] rfl ?_)
  refine WC.cD rfl (fun qh65 => ?_) (fun qh65 => ?_)
  ·have k5 : b = 91 := by first | exact qh65 | omega | (simp at qh65; omega)
   refine WC.sr ?_
   refine WL.val rfl rfl rfl (Run.build rfl rfl rfl rfl (built_26_0 _)) ?_
   refine WL.val rfl rfl rfl (Run.build rfl rfl rfl rfl (built_33)) (WL.st tbk hs49 2 rfl rfl (fun _ hs66 => WL.st tbk hs66 1 rfl rfl (fun _ hs67 => WL.nil (WC.ret (tkR (ibR (tkR ?_)))))))
   clear hK64 hK50
   refine retV2 rfl (resV.cellA tbk hs67 2 rfl rfl rfl rfl) (resV.cellA tbk hs67 1 rfl rfl rfl rfl) ?_
   have hv : vpStep p.dat b = (⟨2, false, [], []⟩, act0) := by unfold vpStep; rw [if_neg k1, if_neg k2, if_neg k3, if_pos k4, if_pos k5]
   obtain ⟨L71, hs70, ho72⟩ := ownVpR.fl hs67 (OwnF.nil _ _) (OwnF.nil _ _)
   have hs73 := ((((hs70.fb b2).fb b4).fb b6).fb b47)
   refine ⟨⟨(2), false, ⟨none, 0, 0, []⟩, ⟨none, 0, 0, []⟩⟩, _, ⟨0, 0, false, ⟨none, 0, 0, []⟩⟩, _, rfl, (St.drop ((hs73.fr ([] : Hp)).fr L71) (List.Sublist.append_left (List.sublist_append_left ([] : Hp) _) L71)), ?_, ?_, ?_, ?_⟩
   · exact (by exact ho72)
   · exact (OwnF.nil _ _)
   · rw [hb1, hv]; first | exact rfl | rfl
   · rw [hb1, hv]; first | exact rfl | rfl
  have k5 : ¬ (b = 91) := by first | exact qh65 | omega | (simp at qh65; omega)
  refine WC.skip (hK64 _ _ (WC.seq (fun K75 hK75 => WC.sr (WL.r 3 hs49 [] rfl (WL.pA tbk 2 Acts.nil hs49 [] rfl rfl rfl rfl (fun g_ => trivial) (WL.nil ?_))))))
  refine WC.cq rfl (fun h76 qh76 => ?_) (fun h76 qh76 => ?_)
  ·have k6 : 48 ≤ b ∧ b ≤ 126 := by first | exact qh76 | omega | (simp at qh76; omega)
   refine WC.sr ?_
   refine WL.val rfl rfl rfl (Run.build rfl rfl rfl rfl (built_26)) (WL.r 1 hs49 [] rfl ?_)
   refine WL.val rfl rfl rfl (Run.build rfl rfl rfl rfl (built_33_0_1 _ _)) (WL.st tbk hs49 2 rfl rfl (fun _ hs77 => WL.st tbk hs77 1 rfl rfl (fun _ hs78 => WL.nil (WC.ret (tkR (ibR (tkR ?_)))))))
   clear hK75 hK50
   refine retV2 rfl (resV.cellA tbk hs78 2 rfl rfl rfl rfl) (resV.cellA tbk hs78 1 rfl rfl rfl rfl) ?_
   have hv : vpStep p.dat b = (vp0, ⟨3, b, false, []⟩) := by unfold vpStep; rw [if_neg k1, if_neg k2, if_neg k3, if_pos k4, if_neg k5, if_pos k6]
   obtain ⟨L82, hs81, ho83⟩ := ownVpR.fl hs78 (OwnF.nil _ _) (OwnF.nil _ _)
   have hs84 := ((((hs81.fb b2).fb b4).fb b6).fb b47)
   refine ⟨⟨0, false, ⟨none, 0, 0, []⟩, ⟨none, 0, 0, []⟩⟩, _, ⟨(3), b, false, ⟨none, 0, 0, []⟩⟩, _, rfl, (St.drop ((hs84.fr ([] : Hp)).fr L82) (List.Sublist.append_left (List.sublist_append_left ([] : Hp) _) L82)), ?_, ?_, ?_, ?_⟩
   · exact (by exact ho83)
   · exact (OwnF.nil _ _)
   · rw [hb1, hv]; first | exact rfl | rfl
   · rw [hb1, hv]; first | exact rfl | rfl
  have k6 : ¬ (48 ≤ b ∧ b ≤ 126) := by first | exact qh76 | omega | (simp at qh76; omega)
  refine WC.skip (hK75 _ _ (WC.sr ?_))
  refine WL.val rfl rfl rfl (Run.build rfl rfl rfl rfl (built_26)) ?_
  refine WL.val rfl rfl rfl (Run.build rfl rfl rfl rfl (built_33)) (WL.st tbk hs49 2 rfl rfl (fun _ hs86 => WL.st tbk hs86 1 rfl rfl (fun _ hs87 => WL.nil (WC.ret (ibR (tkR ?_))))))
  clear hK50
  refine retV2 rfl (resV.cellA tbk hs87 2 rfl rfl rfl rfl) (resV.cellA tbk hs87 1 rfl rfl rfl rfl) ?_
  have hv : vpStep p.dat b = (vp0, act0) := by unfold vpStep; rw [if_neg k1, if_neg k2, if_neg k3, if_pos k4, if_neg k5, if_neg k6]
  obtain ⟨L91, hs90, ho92⟩ := ownVpR.fl hs87 (OwnF.nil _ _) (OwnF.nil _ _)
  have hs93 := ((((hs90.fb b2).fb b4).fb b6).fb b47)
  refine ⟨⟨0, false, ⟨none, 0, 0, []⟩, ⟨none, 0, 0, []⟩⟩, _, ⟨0, 0, false, ⟨none, 0, 0, []⟩⟩, _, rfl, (St.drop ((hs93.fr ([] : Hp)).fr L91) (List.Sublist.append_left (List.sublist_append_left ([] : Hp) _) L91)), ?_, ?_, ?_, ?_⟩
  · exact (by exact ho92)
  · exact (OwnF.nil _ _)
  · rw [hb1, hv]; first | exact rfl | rfl
  · rw [hb1, hv]; first | exact rfl | rfl
 have k4 : ¬ (p.dat.State = 1) := by show ¬ (p.State = 1); first | exact qh63 | omega | (simp at qh63; omega)
 refine WC.r1 hs49 [] rfl (WC.cD rfl (fun qh95 => ?_) (fun qh95 => ?_))
 ·have k7 : p.dat.State = 2 := by show p.State = 2; first | exact qh95 | omega | (simp at qh95; omega)
  have hoa : areArgs p.dat.Args = true := by have h_ := hok; rw [vpOk_csi (.inl k7), Bool.and_eq_true] at h_; exact h_.1
  refine WC.sr (WL.r 2 hs49 [0] rfl (WL.cl Tryd.call60 rfl (k45_ r43 _ _ _ ho45 (hs49.ow L1_44) (St.nodupL (hs49.fr L1_44)) ?_ ?_ ?_) ?_))
  iterate 3 first | assumption | rfl | omega | (rw [hd46]; assumption) | (simp; omega)
  rintro _ whs96 ⟨r0_97, L0_98, r1_99, L1_100, rfl, hs96, ho101, ho102, hd0_103, hd1_104⟩
  replace hs96 := St.lend (hs49.fr L1_44) hs96
  refine ⟨_, rfl, ?_⟩
  replace hs96 := St.assoc hs96
  replace hs96 := St.back2 [_, _, _, _] hs96
  refine WL.r 2 hs96 [] rfl (WL.st tbk hs96 2 rfl rfl (fun _ hs105 => WL.st tbk hs105 1 rfl rfl (fun _ hs106 => WL.nil (WC.ret (ibR (tkR ?_))))))
  clear hK50
  refine retV2 rfl (resV.cellA tbk hs106 2 rfl rfl rfl rfl) (resV.cellA tbk hs106 1 rfl rfl rfl rfl) ?_
  have hv : vpStep p.dat b = vpCsi p.dat b := by unfold vpStep; rw [if_neg k1, if_neg k2, if_neg k3, if_neg k4, if_pos k7]
  refine ⟨r0_97, _, r1_99, _, rfl, (St.drop ((hs106.fr L1_100).fr L0_98) (List.Sublist.append_left (List.sublist_append_left L1_100 _) L0_98)), ?_, ?_, ?_, ?_⟩
  · exact ho101
  · exact ho102
  · rw [hb1, hv]; rw [hd46] at hd0_103; exact hd0_103
  · rw [hb1, hv]; rw [hd46] at hd1_104; exact hd1_104
 have k7 : ¬ (p.dat.State = 2) := by show ¬ (p.State = 2); first | exact qh95 | omega | (simp at qh95; omega)
 refine WC.skip (hK50 _ _ (WC.seq (fun K107 hK107 => WC.sr (WL.r 3 hs49 [] rfl (WL.pA tbk 2 Acts.nil hs49 [] rfl rfl rfl rfl (fun g_ => trivial) (WL.nil ?_))))))
 refine WC.cq rfl (fun h108 qh108 => ?_) (fun h108 qh108 => ?_)
 ·have k8 : 64 ≤ b ∧ b ≤ 126 := by first | exact qh108 | omega | (simp at qh108; omega)
  refine WC.sr ?_
  refine WL.val rfl rfl rfl (Run.build rfl rfl rfl rfl (built_26)) ?_
  refine WL.val rfl rfl rfl (Run.build rfl rfl rfl rfl (built_33)) (WL.st tbk hs49 2 rfl rfl (fun _ hs109 => WL.st tbk hs109 1 rfl rfl (fun _ hs110 => WL.nil (WC.ret (tkR ?_)))))
  clear hK107
  refine retV2 rfl (resV.cellA tbk hs110 2 rfl rfl rfl rfl) (resV.cellA tbk hs110 1 rfl rfl rfl rfl) ?_
  have hv : vpStep p.dat b = (vp0, act0) := by unfold vpStep; rw [if_neg k1, if_neg k2, if_neg k3, if_neg k4, if_neg k7, if_pos k8]
  obtain ⟨L114, hs113, ho115⟩ := ownVpR.fl hs110 (OwnF.nil _ _) (OwnF.nil _ _)
  have hs116 := ((((hs113.fb b2).fb b4).fb b6).fb b47)
  refine ⟨⟨0, false, ⟨none, 0, 0, []⟩, ⟨none, 0, 0, []⟩⟩, _, ⟨0, 0, false, ⟨none, 0, 0, []⟩⟩, _, rfl, (St.drop ((hs116.fr ([] : Hp)).fr L114) (List.Sublist.append_left (List.sublist_append_left ([] : Hp) _) L114)), ?_, ?_, ?_, ?_⟩
  · exact (by exact ho115)
  · exact (OwnF.nil _ _)
  · rw [hb1, hv]; first | exact rfl | rfl
  · rw [hb1, hv]; first | exact rfl | rfl
 have k8 : ¬ (64 ≤ b ∧ b ≤ 126) := by first | exact qh108 | omega | (simp at qh108; omega)
 refine WC.skip (hK107 _ _ (WC.sr (WL.r 1 hs49 [0] rfl ?_)))
 refine WL.val rfl rfl rfl (Run.build rfl rfl rfl rfl (built_33)) (WL.st tbk hs49 2 rfl rfl (fun _ hs118 => WL.st tbk hs118 1 rfl rfl (fun _ hs119 => WL.nil (WC.ret (retV2 rfl (resV.cellA tbk hs119 2 rfl rfl rfl rfl) (resV.cellA tbk hs119 1 rfl rfl rfl rfl) ?_)))))
 have hv : vpStep p.dat b = (p.dat, act0) := by unfold vpStep; rw [if_neg k1, if_neg k2, if_neg k3, if_neg k4, if_neg k7, if_neg k8]
 refine ⟨r43, _, ⟨0, 0, false, ⟨none, 0, 0, []⟩⟩, _, rfl, (St.drop ((hs119.fr ([] : Hp)).fr L1_44) (List.Sublist.append_left (List.sublist_append_left ([] : Hp) _) L1_44)), ?_, ?_, ?_, ?_⟩
 · exact ho45
 · exact (OwnF.nil _ _)
 · rw [hb1, hv]; exact hd46
 · rw [hb1, hv]; first | done | rfl
theorem k47_ (p : VpR) (A_b : Option Addr) (n_b c_b : Nat) (b : List UInt8) (w : World) (f_p : okVpR 549755813888 w p) (f_b : SlF encB w A_b n_b b) (hsm : smVp 1048576 p.dat) (hn : n_b ≤ 33554432) :
    Calls Tryd.prog 20 #[.agg #[i64 p.State, .bool p.Mark, .slice p.Args.A p.Args.n p.Args.c, .slice p.Part.A p.Part.n p.Part.c], .slice A_b n_b c_b] w fun e w' => ∃ r0 L0 A1 c1 x1 L1, e = .returned (.tuple #[.agg #[i64 r0.State, .bool r0.Mark, .slice r0.Args.A r0.Args.n r0.Args.c, .slice r0.Part.A r0.Part.n r0.Part.c], .slice A1 x1.length c1]) ∧ St w [] (L0 ++ L1) w' ∧ ownVpR r0 L0 ∧ OwnN encActR ownActR 33 (.slice A1 x1.length c1) x1 L1 ∧ r0.dat = (vpBytes p.dat b).1 ∧ x1.map ActR.dat = (vpBytes p.dat b).2 := by
 have nb_p_Args := f_p.Args_n
 have nl_p_Args := f_p.Args.len
 have nb_p_Part := f_p.Part_n
 have nl_p_Part := f_p.Part.len
 have hsB : smVp 549755813888 p.dat := ⟨Nat.le_trans hsm.1 (by decide), Nat.le_trans hsm.2 (by decide)⟩
 have hsa : p.Args.xs.length ≤ 1048576 := hsm.1
 have hsp : p.Part.xs.length ≤ 1048576 := hsm.2
 have hbl := f_b.len
 refine enter 43 Tryd.func20 rfl Tryd.ntmps20 rfl rfl ?_
 have hs1 := St.init w
 refine WC.sr (WL.bx hs1 rfl (fun b2 _ hs3 => WL.al hs3 Tryd.zeroValue26 rfl rfl (fun b4 _ hs5 => WL.r 1 hs5 [] rfl (WL.nil (WC.seq (fun K6 hK6 => WC.sr (WL.r 1 hs5 [1] rfl ?_)))))))
 refine WL.cl Tryd.call41 rfl (k34_ p _ (okVpR.st0 f_p hs5)) ?_
 rintro _ whs7 ⟨rfl, hs7⟩
 replace hs7 := hs5.call0 hs7
 refine ⟨_, rfl, WL.r 1 hs7 [] rfl (WL.nil (WC.cq rfl (fun h8 qh8 => ?_) (fun h8 qh8 => ?_)))⟩
 ·refine WC.sr ?_
  refine WL.val rfl rfl rfl (Run.build rfl rfl rfl rfl (built_26)) (WL.st tbk hs7 0 rfl rfl (fun _ hs9 => WL.r 1 hs9 [] rfl (WL.nil (WC.ret (tkR ?_)))))
  clear hK6
  refine retV2 rfl (resV.cellA tbk hs9 0 rfl rfl rfl rfl) (resV.tmp rfl) ?_
  have hvb : vpBytes p.dat b = (vp0, []) := by unfold vpBytes; rw [if_neg (by simpa using h8)]
  obtain ⟨L13, hs12, ho14⟩ := ownVpR.fl hs9 (OwnF.nil _ _) (OwnF.nil _ _)
  have hs15 := ((hs12.fb b2).fb b4)
  refine ⟨⟨0, false, ⟨none, 0, 0, []⟩, ⟨none, 0, 0, []⟩⟩, _, none, 0, [], _, rfl, (St.drop ((hs15.fr ([] : Hp)).fr L13) (List.Sublist.append_left (List.sublist_append_left ([] : Hp) _) L13)), ?_, ?_, ?_, ?_⟩
  · exact (by exact ho14)
  · exact (OwnN.nil _ _ _)
  · rw [hvb]; rfl
  · rw [hvb]; rfl
 have hok : vpOk p.dat = true := by simpa using h8
 have hvb : vpBytes p.dat b = vpParse p.dat b := by unfold vpBytes; rw [if_pos hok]
 refine WC.skip (hK6 _ _ (WC.sr (WL.r 1 hs7 [1] rfl ?_)))
 refine WL.cl Tryd.call42 rfl (k36_ p _ (okVpR.st0 f_p hs7) ?_) ?_
 · first | assumption | rfl | omega | exact ⟨by omega, by omega⟩ | (simp; omega)
 rintro _ whs17 ⟨r18, L1_19, rfl, hs17, ho20, hd21⟩
 replace hs17 := hs7.callF hs17
 refine ⟨_, rfl, ?_⟩
 replace hs17 := St.back [_, _] hs17
 skip
 refine WL.al hs17 Tryd.zeroValue26 rfl rfl (fun b22 _ hs23 => WL.st tbk hs23 0 rfl rfl (fun _ hs24 => WL.nil (WC.sr (WL.buildF (F := encActR) hs24 ([]) Tryd.runUnderlying27 Tryd.sizeOf33 Tryd.zeroValue33 rfl rfl rfl rfl rfl rfl rfl rfl rfl rfl rfl rfl (fun A28 c29 L25 whs26 hs26 ho27 => ?_)))))
 replace hs26 := St.back [_, _, _] hs26
 obtain ⟨L30, hs31, ho32⟩ := OwnN.fresh (own := ownActR) (hs26.fr L25) ho27 Bag.nil
 have hs33 := (((hs31.fb b2).fb b4).fb b22)
 refine WL.r 1 hs33 [] rfl (WL.nil (WC.seq (fun K34 hK34 => WC.r1 hs33 [] rfl (WC.block ?_))))
 have hM43 := (St.grp2 (L1 := L1_19) (L2 := L30) [_] (((((hs33.fb b2).fb b4).fr L30).fr L1_19).fb b22))
 refine WC.lV [4, 5, 6, 14, 19, 20] rfl hM43 (fun k_ (a_ : Hp) f => ∃ (i : Nat) (acts : List ActR) (r : VpR) (L37 : Hp) (A39 : Option Addr) (c40 : Nat) (L41 : Hp), k_ = n_b - i ∧ a_ = [(b22, .cells (List.toArray [i64 r.State, .bool r.Mark, .slice r.Args.A r.Args.n r.Args.c, .slice r.Part.A r.Part.n r.Part.c]) 26 (0, 0))] ++ (L37 ++ L41) ∧ (i ≤ n_b) ∧ (r.dat = (vpParse p.dat (b.take i)).1) ∧ (acts.map ActR.dat = (vpParse p.dat (b.take i)).2) ∧ (acts.length ≤ i) ∧ ownVpR r L37 ∧ OwnN encActR ownActR 33 (.slice A39 (acts).length c40) (acts) L41 ∧ Sub [(7, .slice A39 (acts).length c40), (21, .int .i64 i)] f) (((fun (i : Nat) (acts : List ActR) => n_b - i) (0) ([]))) ?_ ?_
 ·refine ⟨0, [], r18, L1_19, A28, c29, L30, rfl, rfl, ?_, ?_, ?_, ?_, ho20, ho32, ⟨rfl, rfl, trivial⟩⟩
  · exact Nat.zero_le _
  · exact hd21
  · rfl
  · exact Nat.le_refl _
 rintro _ _ f w ⟨i, acts, r, L37, A39, c40, L41, rfl, rfl, p0, p1, p2, p3, ho38, ho42, hG⟩ hF hs44
 refine WC.sub _ (hG.app hF) ?_
 clear hG hF
 replace hs44 := St.ungrp2 [_] hs44
 have hs45 := (((hs44.fb b2).fb b4).fb b22)
 have hvr : vpOk r.dat = true := by rw [p1]; exact vpParse_ok hok
 have hlr := vpOk_len hvr
 have hsmr : smVp 1048576 r.dat := ⟨by omega, by omega⟩
 have hsmB : smVp 549755813888 r.dat := ⟨by omega, by omega⟩
 have hxb := (gat encB b i).toNat_lt
 refine WC.r1 hs45 [] rfl (WC.seq (fun K46 hK46 => ?_))
 refine WC.cq rfl (fun h47 qh47 => ?_) (fun h47 qh47 => ?_)
 ·refine WC.skip (hK46 _ _ (WC.seq (fun K48 hK48 => WC.block (WC.sr ?_))))
  refine WL.val rfl rfl rfl (Run.idxN Tryd.runUnderlying22 Tryd.sizeOf5 rfl rfl rfl ?_ ?_ ?_) ?_
  · exact SlF.some_ (SlF.st0 f_b hs45)
  · omega
  · omega
  refine WL.val rfl rfl rfl (Run.load Tryd.isAgg5 rfl rfl (SlF.one1 (SlF.st0 f_b hs45) ?_ rfl)) ?_
  · omega
  refine WL.r 1 hs45 [] rfl (WL.nil (WC.sr (WL.r 3 hs45 [0] rfl (WL.cl Tryd.call43 rfl (k46_ r _ _ (ownVpR.ok (B := 549755813888) ho38 (hs45.ow L37) (by assumption)) ?_) ?_))))
  · first | assumption | rfl | omega | exact ⟨by omega, by omega⟩ | (simp; omega)
  rintro _ whs49 ⟨r0_50, L0_51, r1_52, L1_53, rfl, hs49, ho54, ho55, hd0_56, hd1_57⟩
  replace hs49 := hs45.callF hs49
  refine ⟨_, rfl, ?_⟩
  replace hs49 := St.assoc hs49
  replace hs49 := St.back2 [_, _, _] hs49
  refine WL.r 3 hs49 [] rfl (WL.al hs49 Tryd.zeroValue26 rfl rfl (fun b58 _ hs59 => WL.al hs59 Tryd.zeroValue33 rfl rfl (fun b60 _ hs61 => WL.st tbk hs61 1 rfl rfl (fun _ hs62 => WL.st tbk hs62 0 rfl rfl (fun _ hs63 => WL.nil (WC.sr (WL.r 1 hs63 [1] rfl ?_)))))))
  refine WL.st tbk hs63 2 rfl rfl (fun _ hs64 => WL.nil (WC.r1 hs64 [0] rfl ?_))
  refine WC.cq rfl (fun h65 qh65 => ?_) (fun h65 qh65 => ?_)
  ·have hb1 : vpByte r.dat (gat encB b i).toNat = vpStep r.dat (gat encB b i).toNat := by unfold vpByte; rw [if_pos ⟨hvr, by omega, by omega⟩]
   rw [hb1] at hd0_56 hd1_57
   have hk0 := hd0_56
   have hk1 := hd1_57
   have hkk : r1_52.Kind = (vpStep r.dat (gat encB b i).toNat).2.Kind := congrArg ActD.Kind hd1_57
   have hk : ¬ (vpStep r.dat (gat encB b i).toNat).2.Kind = 0 := by omega
   refine WC.region (WL.r 2 hs64 [0] rfl (WL.buildSlice hs64 Tryd.runUnderlying27 Tryd.sizeOf33 Tryd.zeroValue33 rfl rfl rfl rfl rfl rfl rfl rfl rfl rfl (fun b66 whs67 hs67 => ?_)))
   obtain ⟨L68, L69, hs72, ho70, ho71⟩ := OwnN.open_ (hs67.fr L41) ho42
   have hs73 := ((((((hs72.fb b2).fb b4).fb b22).fb b58).fb b60).fb b66)
   refine WL.appendG (hs73.fr L68) ho70 (srcF (F := encActR) (ys := [(r1_52 : ActR)]) Tryd.underlying27 rfl rfl (hs73.own _ (nthL_mem (i := 0) rfl)).1) Tryd.underlying27 inf33 rfl rfl rfl rfl rfl rfl rfl rfl rfl rfl ?_ (fun A77 c78 L74 whs75 hs75 ho76 => ?_)
   · (try simp only [List.length_append, List.length_singleton]); omega
   replace hs75 := St.back [_, _, _, _, _, _] hs75
   obtain ⟨L79, hs80, hb81⟩ := Bag.put (x := (r1_52 : ActR)) ((hs75.fr L1_53).fr L69) ho71 ho55
   have hs82 := ((((((hs80.fb b2).fb b4).fb b22).fb b58).fb b60).fb b66)
   obtain ⟨L84, hs83, ho85⟩ := OwnN.fold ((hs82.fr L79).fr L74) ho76 hb81
   have hs86 := ((((((hs83.fb b2).fb b4).fb b22).fb b58).fb b60).fb b66)
   refine WL.r 1 hs86 [] rfl (WL.nil (hK48 _ _ (WC.region (WL.r 2 hs86 [] rfl (WL.nil (tkN ?_))))))
   have hst := vpParse_take (v := p.dat) (l := b) (i := i) (by omega)
   replace hs86 := (hs86.d1.d1.d1.rm L37)
   have hF87 := (St.grp2 (L1 := L0_51) (L2 := L84) [_] (((((hs86.fb b2).fb b4).fr L84).fr L0_51).fb b22))
   refine ⟨sbF rfl, _, hF87, _, ?_, i + 1, ((acts) ++ [(r1_52 : ActR)]), r0_50, L0_51, A77, c78, L84, rfl, rfl, ?_, ?_, ?_, ?_, ho54, ho85, ⟨rfl, rfl, trivial⟩⟩
   · omega
   · omega
   · rw [hst, ← p1]; exact hk0
   · rw [hst, ← p2, ← p1, if_neg hk, List.map_append]; congr 1; show [_] = [_]; rw [← hk1]
   · (try simp only [List.length_append, List.length_singleton]); omega
  have hb1 : vpByte r.dat (gat encB b i).toNat = vpStep r.dat (gat encB b i).toNat := by unfold vpByte; rw [if_pos ⟨hvr, by omega, by omega⟩]
  rw [hb1] at hd0_56 hd1_57
  have hk0 := hd0_56
  have hk1 := hd1_57
  have hkk : r1_52.Kind = (vpStep r.dat (gat encB b i).toNat).2.Kind := congrArg ActD.Kind hd1_57
  have hk : (vpStep r.dat (gat encB b i).toNat).2.Kind = 0 := by omega
  refine WC.skip (hK48 _ _ (WC.region (WL.r 2 hs64 [] rfl (WL.nil (tkN ?_)))))
  have hst := vpParse_take (v := p.dat) (l := b) (i := i) (by omega)
  replace hs64 := ((hs64.d1.d1.rm L1_53).rm L37)
  have hF88 := (St.grp2 (L1 := L0_51) (L2 := L41) [_] (((((hs64.fb b2).fb b4).fr L41).fr L0_51).fb b22))
  refine ⟨sbF rfl, _, hF88, _, ?_, i + 1, acts, r0_50, L0_51, A39, c40, L41, rfl, rfl, ?_, ?_, ?_, ?_, ho54, ho42, ⟨rfl, rfl, trivial⟩⟩
  · omega
  · omega
  · rw [hst, ← p1]; exact hk0
  · rw [hst, ← p2, ← p1, if_pos hk, List.append_nil]
  · (try simp only [List.length_append, List.length_singleton]); omega
 refine WC.exit (hK34 _ _ (WC.sr (WL.r 2 hs45 [0] rfl (WL.st tbk hs45 1 rfl rfl (fun _ hs89 => WL.r 1 hs89 [] rfl (WL.nil (WC.ret ?_)))))))
 refine retV2 rfl (resV.cellA tbk hs89 1 rfl rfl rfl rfl) (resV.tmp rfl) ?_
 have hi_ : i = n_b := by omega
 have ht : b.take i = b := List.take_of_length_le (by omega)
 rw [ht] at p1 p2
 refine ⟨r, _, _, _, _, _, rfl, (St.drop ((hs89.fr L41).fr L37) (List.Sublist.append_left (List.sublist_append_left L41 _) L37)), ?_, ?_, ?_, ?_⟩
 · exact ho38
 · exact ho42
 · rw [hvb, p1]
 · rw [hvb, p2]
theorem WL.convLit {P : Program} {n : Nat} {ol rest : List Oper} {o : Oper} {K : Fr → World → Prop} {f : Fr} {w0 w : World} {T : List Nat} {L : Hp} {d b : Nat} {vs : List Value} {xs : List UInt8} {t e : TypeId} {x : Operand} (hst : St w0 T ((b, .cells vs.toArray e (0, 0)) :: L) w) (hv : vs = bytesV xs) (hm : Nat.ble xs.length 1000000 = true)
  (ht : P.underlying t = some (.slice e)) (he : P.underlying e = some (.int .u8)) (ho : o.op = .convert t t x) (hw : want ol o f = some true) (hd : o.dst = some d) (hn : Nat.blt d n = true) (hx : ev f x = some (.slice (some ⟨b, 0, none⟩) xs.length xs.length))
  (k : ∀ L1 w', St w0 T (L1 ++ L) w' → OwnF encB e (.slice (some ⟨b, 0, none⟩) xs.length xs.length) xs L1 → WL P n ol rest K ((d, .slice (some ⟨b, 0, none⟩) xs.length xs.length) :: f) w') : WL P n ol (o :: rest) K f w := by
 have hown := hst.own _ List.mem_cons_self
 have hb : w.heap[b]? = some (.cells vs.toArray e (0, 0)) := hown.1
 have hlt : b < w.heap.size := lt_of_heap hb
 have hsh : w.shape? b = some (e, vs.length) := by
  unfold World.shape?
  rw [hb]
  simp
 have hfr : (w.freeze ⟨b, vs.length, none⟩ 1).heap = w.heap.modify b fun
   | .cells c elem (lo, hi) => .cells c elem (if lo == hi then (vs.length, vs.length + 1) else (min lo vs.length, max hi (vs.length + 1)))
   | o => o := rfl
 have hvl : vs.length = xs.length := by rw [hv, bytesV_len]
 refine WL.val (w' := w.freeze ⟨b, vs.length, none⟩ 1) hw hd hn (fun ρ hρ => ?_) (k [(b, .cells vs.toArray e (vs.length, vs.length + 1))] _ ?_ ?_)
 ·simp [execOp, ho, hρ _ _ hx, convert, run_underlying ht, run_underlying he, markStringish, hsh]
 ·have hnd := hst.nodup
  simp only [List.map_cons, List.nodup_cons] at hnd
  refine ⟨hst.os, hst.tape, hst.output, ?_, fun j hj hT => ?_, fun p hp => ?_, hst.nodup⟩
  ·rw [hfr, Array.size_modify]; exact hst.size
  ·rw [hfr, Array.getElem?_modify, if_neg (by rintro rfl; rcases hown.2 with h9 | h9; exact absurd hj (by simp only at h9; omega); exact hT h9)]
   exact hst.keep j hj hT
  ·rw [List.singleton_append, List.mem_cons] at hp
   rcases hp with rfl | hp
   ·refine ⟨?_, hown.2⟩
    rw [hfr, Array.getElem?_modify, if_pos rfl, hb]
    rfl
   ·have h9 := hst.own p (List.mem_cons_of_mem _ hp)
    refine ⟨?_, h9.2⟩
    rw [hfr, Array.getElem?_modify, if_neg (by intro e9; exact hnd.1 (e9 ▸ List.mem_map_of_mem hp))]
    exact h9.1
 ·have hm' := Nat.le_of_ble_eq_true hm
  refine ⟨by rw [rows_len], .inr ⟨b, xs.length, 0, [], vs, (vs.length, vs.length + 1), rfl, rfl, Nat.le_refl _, by simp only [maxLen]; omega, ?_, ?_, .inr ?_, rfl⟩⟩
  ·rw [hvl]; simp [encB]
  ·rw [hv, List.take_of_length_le (by rw [rows_len]; exact Nat.le_refl _)]
  ·simp
set_option maxHeartbeats 8000000 in
theorem k48_ (a : ActR) (w : World) (f_a : okActR 549755813888 w a) (hn : a.Args.xs.length ≤ 1048576) :
    Calls Tryd.prog 12 #[.agg #[i64 a.Kind, i64 a.R, .bool a.Mark, .slice a.Args.A a.Args.n a.Args.c]] w fun e w' => e = .returned (.string (actT a.dat)) ∧ St w [] [] w' := by
 have nb_a_Args := f_a.Args_n
 have nl_a_Args := f_a.Args.len
 have hla := f_a.Args.len
 have hbm := bitsAnd_mask a.R (m := 127) (by omega) (by omega)
 have hrl := runeB_len a.R
 have hpl : (actPre a.dat).length ≤ 3 + 22 * a.Args.xs.length := actPre_len
 refine enter 83 Tryd.func12 rfl Tryd.ntmps12 rfl rfl ?_
 have hs1 := St.init w
 refine WC.sr (WL.bx hs1 rfl (fun b2 _ hs3 => WL.r 1 hs3 [] rfl (WL.nil (WC.sr (WL.buildF (F := encB) hs3 ([]) Tryd.runUnderlying22 Tryd.sizeOf5 Tryd.zeroValue5 rfl rfl rfl rfl rfl rfl rfl rfl rfl rfl rfl rfl (fun A7 c8 L4 whs5 hs5 ho6 => ?_))))))
 replace hs5 := St.back [_] hs5
 refine WL.r 1 hs5 [] rfl (WL.nil (WC.seq (fun K9 hK9 => WC.r1 hs5 [0] rfl (WC.block (WC.r1 hs5 [] rfl ?_)))))
 refine WC.cq rfl (fun h10 qh10 => ?_) (fun h10 qh10 => ?_)
 ·have k1 : a.dat.Kind = 1 := (show a.Kind = 1 by have h9 := h10; simpa using h9)
  refine WC.region (WL.r 2 hs5 [0] rfl (WL.cl Tryd.call28 rfl (k18_ _ _) ?_))
  rintro _ whs11 ⟨A12, c13, L1_14, rfl, hs11, ho15⟩
  replace hs11 := hs5.callF hs11
  refine ⟨_, rfl, ?_⟩
  replace hs11 := St.back [_] hs11
  refine WL.r 1 hs11 [] rfl (WL.nil (hK9 _ _ (WC.sr ?_)))
  refine WL.val rfl rfl rfl (Run.build rfl rfl rfl rfl (built_26)) (WL.r 1 hs11 [] rfl ?_)
  refine WL.cl Tryd.call20 rfl (k47_ ⟨_, _, ⟨_, _, _, _⟩, ⟨_, _, _, _⟩⟩ _ _ _ _ _ ⟨(SlF.nil _ _), (by first | assumption | omega | simp), (by first | assumption | omega | (simp; omega) | simp), (SlF.nil _ _), (by first | assumption | omega | simp), (by first | assumption | omega | (simp; omega) | simp)⟩ (SlF.ofOwn ho15 (hs11.ow L1_14)) ?_ ?_) ?_
  iterate 2 focus first | assumption | rfl | omega | exact ⟨Nat.zero_le _, Nat.zero_le _⟩ | (simp; first | done | omega)
  rintro _ whs16 ⟨r0_17, L0_18, A1_19, c1_20, x1_21, L1_22, rfl, hs16, ho23, ho24, hd0_25, hd1_26⟩
  replace hs16 := hs11.callF hs16
  refine ⟨_, rfl, ?_⟩
  replace hs16 := St.assoc hs16
  replace hs16 := St.back2 [_] hs16
  have hp1 : x1_21.map ActR.dat = (vpParse vp0 (runeB a.R)).2 := hd1_26.trans ((congrArg (·.2) vpBytes_vp0).trans (congrArg (fun z => (vpParse vp0 z).2) (by first | rfl | simp [actPre, argT, numBA, Go.Lib.join_nil])))
  have hsma : ∀ y, y ∈ x1_21.map ActR.dat → smAct 549755813888 y := by intro y hy; rw [hp1] at hy; have h9 := vpParse_act (v := vp0) rfl y hy; show y.Args.length ≤ 549755813888; omega
  have hB : (runeB a.R) = actS a.dat (bitsAnd a.R 127) := (by unfold actS; rw [if_pos k1]; rfl)
  have hq : 0 ≤ a.dat.R ∧ a.dat.R ≤ 127 → (bitsAnd a.R 127) = a.dat.R := fun h => bitsAnd_low h
  have hG := actS_ok hq
  rw [← hB] at hG
  refine WL.r 3 hs16 [] rfl (WL.al hs16 Tryd.zeroValue26 rfl rfl (fun b27 _ hs28 => WL.st tbk hs28 0 rfl rfl (fun _ hs29 => WL.r 1 hs29 [] rfl (WL.nil (WC.seq (fun K30 hK30 => WC.sq1 hs29 (WQ.r 4 [] rfl ?_)))))))
  apply WQ.gO 6 Acts.nil rfl
  ·intro g31 J32
   have qg31 := g31
   try simp only [bf, within_iff, within_not] at qg31
   refine WQ.runA tbk 1 (Acts.nil.cons (j := 3) rfl g31) [] rfl trivial ?_
   refine WQ.val (wantF rfl g31) rfl rfl (fun w_ hs_ => (Run.idx Tryd.runUnderlying27 Tryd.sizeOf33 rfl rfl rfl ?_ ?_ ?_)) ?_
   · exact SlF.some_ (OwnN.sl ho24 ((hs_ : St _ _ _ _).ow L1_22))
   · omega
   · omega
   refine WQ.val (wantF rfl g31) rfl rfl (fun w_ hs_ => (Run.loadA Tryd.isAgg33 Tryd.sizeOf33 rfl rfl (SlF.whole (OwnN.sl ho24 ((hs_ : St _ _ _ _).ow L1_22)) ?_))) ?_
   · omega
   refine WQ.runA tbk 1 (Acts.nil.cons (j := 3) rfl g31) [1] rfl ⟨rfl, trivial⟩ ?_
   refine WQ.call (wantF rfl g31) rfl rfl (fun w_ hs_ => (Run.call Tryd.call30 rfl rfl rfl)) (fun w_ hs_ => (k25_ (gat encActR x1_21 0) a _ (SlN.nth (OwnN.ok ho24 ((hs_ : St _ _ _ _).ow L1_22) (fun y Li hy h3 hl => h3.ok hl (by have h9_ := List.mem_map_of_mem (f := ActR.dat) hy; first | exact hsma _ h9_))) (by omega)) (okActR.st0 f_a (hs_ : St _ _ _ _))).mono fun e_ w_ h_ => ⟨h_.1, (hs_ : St _ _ _ _).call0 h_.2⟩) ?_
   refine WQ.runA tbk 1 (Acts.nil.cons (j := 3) rfl g31) [] rfl trivial (WQ.eO 6 Acts.nil J32 g31 rfl rfl)
  refine WQ.nil (fun _ (hs33 : St _ _ _ _) => ?_)
  refine WC.cq rfl (fun h34 qh34 => ?_) (fun h34 qh34 => ?_)
  ·have hg : actOk a.dat = false := by rw [← hG.1, oneA_R hp1]; have h9 := h34; grind
   refine WC.r1 hs33 [] rfl (WC.ret (tkR ?_))
   clear hK30
   refine rtv rfl rfl hs33 ?_
   first | (rw [actT_no hg]; done) | (rw [actT_yes hg, ← hG.2 hg]; done) | (rw [actT_yes hg, ← hG.2 hg, ← hB]; done) | (rw [actT_yes hg, ← hG.2 hg, ← hB]; rfl)
  have hg : actOk a.dat = true := by rw [← hG.1, oneA_R hp1]; have h9 := h34; grind
  refine WC.skip (hK30 _ _ (WC.sr (WL.r 1 hs33 [] rfl (WL.val rfl rfl rfl (Run.strOf (SlF.ofOwn ho15 (hs33.ow L1_14)) Tryd.underlying22 Tryd.underlying5 Tryd.underlying9 rfl rfl) (WL.r 1 hs33 [] rfl (WL.nil (WC.ret ?_)))))))
  refine rtv rfl rfl hs33 ?_
  first | (rw [actT_no hg]; done) | (rw [actT_yes hg, ← hG.2 hg]; done) | (rw [actT_yes hg, ← hG.2 hg, ← hB]; done) | (rw [actT_yes hg, ← hG.2 hg, ← hB]; rfl)
 have k1 : ¬ a.dat.Kind = 1 := (show ¬ a.Kind = 1 by have h9 := h10; simpa using h9)
 refine WC.r1 hs5 [] rfl (WC.cq rfl (fun h35 qh35 => ?_) (fun h35 qh35 => ?_))
 ·have k2 : a.dat.Kind = 2 := (show a.Kind = 2 by have h9 := h35; simpa using h9)
  refine WC.region (WL.r 2 hs5 [0] rfl (WL.val rfl rfl rfl (Run.andB rfl rfl rfl) (WL.r 1 hs5 [] rfl (WL.buildF (F := encB) hs5 ([ub (bitsAnd a.R 127)]) Tryd.runUnderlying22 Tryd.sizeOf5 Tryd.zeroValue5 rfl rfl rfl rfl rfl rfl rfl rfl rfl rfl rfl rfl (fun A39 c40 L36 whs37 hs37 ho38 => ?_)))))
  replace hs37 := St.back [_] hs37
  refine WL.r 1 hs37 [] rfl (WL.nil (hK9 _ _ (WC.sr ?_)))
  refine WL.val rfl rfl rfl (Run.build rfl rfl rfl rfl (built_26)) (WL.r 1 hs37 [] rfl ?_)
  refine WL.cl Tryd.call20 rfl (k47_ ⟨_, _, ⟨_, _, _, _⟩, ⟨_, _, _, _⟩⟩ _ _ _ _ _ ⟨(SlF.nil _ _), (by first | assumption | omega | simp), (by first | assumption | omega | (simp; omega) | simp), (SlF.nil _ _), (by first | assumption | omega | simp), (by first | assumption | omega | (simp; omega) | simp)⟩ (SlF.ofOwn ho38 (hs37.ow L36)) ?_ ?_) ?_
  iterate 2 focus first | assumption | rfl | omega | exact ⟨Nat.zero_le _, Nat.zero_le _⟩ | (simp; first | done | omega)
  rintro _ whs41 ⟨r0_42, L0_43, A1_44, c1_45, x1_46, L1_47, rfl, hs41, ho48, ho49, hd0_50, hd1_51⟩
  replace hs41 := hs37.callF hs41
  refine ⟨_, rfl, ?_⟩
  replace hs41 := St.assoc hs41
  replace hs41 := St.back2 [_] hs41
  have hp1 : x1_46.map ActR.dat = (vpParse vp0 [ub (bitsAnd a.R 127)]).2 := hd1_51.trans ((congrArg (·.2) vpBytes_vp0).trans (congrArg (fun z => (vpParse vp0 z).2) (by first | rfl | simp [actPre, argT, numBA, Go.Lib.join_nil])))
  have hsma : ∀ y, y ∈ x1_46.map ActR.dat → smAct 549755813888 y := by intro y hy; rw [hp1] at hy; have h9 := vpParse_act (v := vp0) rfl y hy; show y.Args.length ≤ 549755813888; omega
  have hB : [ub (bitsAnd a.R 127)] = actS a.dat (bitsAnd a.R 127) := (by unfold actS; rw [if_neg k1, if_pos k2])
  have hq : 0 ≤ a.dat.R ∧ a.dat.R ≤ 127 → (bitsAnd a.R 127) = a.dat.R := fun h => bitsAnd_low h
  have hG := actS_ok hq
  rw [← hB] at hG
  refine WL.r 3 hs41 [] rfl (WL.al hs41 Tryd.zeroValue26 rfl rfl (fun b52 _ hs53 => WL.st tbk hs53 0 rfl rfl (fun _ hs54 => WL.r 1 hs54 [] rfl (WL.nil (WC.seq (fun K55 hK55 => WC.sq1 hs54 (WQ.r 4 [] rfl ?_)))))))
  apply WQ.gO 6 Acts.nil rfl
  ·intro g56 J57
   have qg56 := g56
   try simp only [bf, within_iff, within_not] at qg56
   refine WQ.runA tbk 1 (Acts.nil.cons (j := 3) rfl g56) [] rfl trivial ?_
   refine WQ.val (wantF rfl g56) rfl rfl (fun w_ hs_ => (Run.idx Tryd.runUnderlying27 Tryd.sizeOf33 rfl rfl rfl ?_ ?_ ?_)) ?_
   · exact SlF.some_ (OwnN.sl ho49 ((hs_ : St _ _ _ _).ow L1_47))
   · omega
   · omega
   refine WQ.val (wantF rfl g56) rfl rfl (fun w_ hs_ => (Run.loadA Tryd.isAgg33 Tryd.sizeOf33 rfl rfl (SlF.whole (OwnN.sl ho49 ((hs_ : St _ _ _ _).ow L1_47)) ?_))) ?_
   · omega
   refine WQ.runA tbk 1 (Acts.nil.cons (j := 3) rfl g56) [1] rfl ⟨rfl, trivial⟩ ?_
   refine WQ.call (wantF rfl g56) rfl rfl (fun w_ hs_ => (Run.call Tryd.call30 rfl rfl rfl)) (fun w_ hs_ => (k25_ (gat encActR x1_46 0) a _ (SlN.nth (OwnN.ok ho49 ((hs_ : St _ _ _ _).ow L1_47) (fun y Li hy h3 hl => h3.ok hl (by have h9_ := List.mem_map_of_mem (f := ActR.dat) hy; first | exact hsma _ h9_))) (by omega)) (okActR.st0 f_a (hs_ : St _ _ _ _))).mono fun e_ w_ h_ => ⟨h_.1, (hs_ : St _ _ _ _).call0 h_.2⟩) ?_
   refine WQ.runA tbk 1 (Acts.nil.cons (j := 3) rfl g56) [] rfl trivial (WQ.eO 6 Acts.nil J57 g56 rfl rfl)
  refine WQ.nil (fun _ (hs58 : St _ _ _ _) => ?_)
  refine WC.cq rfl (fun h59 qh59 => ?_) (fun h59 qh59 => ?_)
  ·have hg : actOk a.dat = false := by rw [← hG.1, oneA_R hp1]; have h9 := h59; grind
   refine WC.r1 hs58 [] rfl (WC.ret (tkR ?_))
   clear hK55
   refine rtv rfl rfl hs58 ?_
   first | (rw [actT_no hg]; done) | (rw [actT_yes hg, ← hG.2 hg]; done) | (rw [actT_yes hg, ← hG.2 hg, ← hB]; done) | (rw [actT_yes hg, ← hG.2 hg, ← hB]; rfl)
  have hg : actOk a.dat = true := by rw [← hG.1, oneA_R hp1]; have h9 := h59; grind
  refine WC.skip (hK55 _ _ (WC.sr (WL.r 1 hs58 [] rfl (WL.val rfl rfl rfl (Run.strOf (SlF.ofOwn ho38 (hs58.ow L36)) Tryd.underlying22 Tryd.underlying5 Tryd.underlying9 rfl rfl) (WL.r 1 hs58 [] rfl (WL.nil (WC.ret ?_)))))))
  refine rtv rfl rfl hs58 ?_
  first | (rw [actT_no hg]; done) | (rw [actT_yes hg, ← hG.2 hg]; done) | (rw [actT_yes hg, ← hG.2 hg, ← hB]; done) | (rw [actT_yes hg, ← hG.2 hg, ← hB]; rfl)
 have k2 : ¬ a.dat.Kind = 2 := (show ¬ a.Kind = 2 by have h9 := h35; simpa using h9)
 refine WC.r1 hs5 [] rfl (WC.cq rfl (fun h60 qh60 => ?_) (fun h60 qh60 => ?_))
 ·have k3 : a.dat.Kind = 3 := (show a.Kind = 3 by have h9 := h60; simpa using h9)
  refine WC.region (WL.r 2 hs5 [0] rfl (WL.val rfl rfl rfl (Run.andB rfl rfl rfl) (WL.r 1 hs5 [] rfl (WL.buildF (F := encB) hs5 ([27, ub (bitsAnd a.R 127)]) Tryd.runUnderlying22 Tryd.sizeOf5 Tryd.zeroValue5 rfl rfl rfl rfl rfl rfl rfl rfl rfl rfl rfl rfl (fun A64 c65 L61 whs62 hs62 ho63 => ?_)))))
  replace hs62 := St.back [_] hs62
  refine WL.r 1 hs62 [] rfl (WL.nil (hK9 _ _ (WC.sr ?_)))
  refine WL.val rfl rfl rfl (Run.build rfl rfl rfl rfl (built_26)) (WL.r 1 hs62 [] rfl ?_)
  refine WL.cl Tryd.call20 rfl (k47_ ⟨_, _, ⟨_, _, _, _⟩, ⟨_, _, _, _⟩⟩ _ _ _ _ _ ⟨(SlF.nil _ _), (by first | assumption | omega | simp), (by first | assumption | omega | (simp; omega) | simp), (SlF.nil _ _), (by first | assumption | omega | simp), (by first | assumption | omega | (simp; omega) | simp)⟩ (SlF.ofOwn ho63 (hs62.ow L61)) ?_ ?_) ?_
  iterate 2 focus first | assumption | rfl | omega | exact ⟨Nat.zero_le _, Nat.zero_le _⟩ | (simp; first | done | omega)
  rintro _ whs66 ⟨r0_67, L0_68, A1_69, c1_70, x1_71, L1_72, rfl, hs66, ho73, ho74, hd0_75, hd1_76⟩
  replace hs66 := hs62.callF hs66
  refine ⟨_, rfl, ?_⟩
  replace hs66 := St.assoc hs66
  replace hs66 := St.back2 [_] hs66
  have hp1 : x1_71.map ActR.dat = (vpParse vp0 [27, ub (bitsAnd a.R 127)]).2 := hd1_76.trans ((congrArg (·.2) vpBytes_vp0).trans (congrArg (fun z => (vpParse vp0 z).2) (by first | rfl | simp [actPre, argT, numBA, Go.Lib.join_nil])))
  have hsma : ∀ y, y ∈ x1_71.map ActR.dat → smAct 549755813888 y := by intro y hy; rw [hp1] at hy; have h9 := vpParse_act (v := vp0) rfl y hy; show y.Args.length ≤ 549755813888; omega
  have hB : [27, ub (bitsAnd a.R 127)] = actS a.dat (bitsAnd a.R 127) := (by unfold actS; rw [if_neg k1, if_neg k2, if_pos k3])
  have hq : 0 ≤ a.dat.R ∧ a.dat.R ≤ 127 → (bitsAnd a.R 127) = a.dat.R := fun h => bitsAnd_low h
  have hG := actS_ok hq
  rw [← hB] at hG
  refine WL.r 3 hs66 [] rfl (WL.al hs66 Tryd.zeroValue26 rfl rfl (fun b77 _ hs78 => WL.st tbk hs78 0 rfl rfl (fun _ hs79 => WL.r 1 hs79 [] rfl (WL.nil (WC.seq (fun K80 hK80 => WC.sq1 hs79 (WQ.r 4 [] rfl ?_)))))))
  apply WQ.gO 6 Acts.nil rfl
  ·intro g81 J82
   have qg81 := g81
   try simp only [bf, within_iff, within_not] at qg81
   refine WQ.runA tbk 1 (Acts.nil.cons (j := 3) rfl g81) [] rfl trivial ?_
   refine WQ.val (wantF rfl g81) rfl rfl (fun w_ hs_ => (Run.idx Tryd.runUnderlying27 Tryd.sizeOf33 rfl rfl rfl ?_ ?_ ?_)) ?_
   · exact SlF.some_ (OwnN.sl ho74 ((hs_ : St _ _ _ _).ow L1_72))
   · omega
   · omega
   refine WQ.val (wantF rfl g81) rfl rfl (fun w_ hs_ => (Run.loadA Tryd.isAgg33 Tryd.sizeOf33 rfl rfl (SlF.whole (OwnN.sl ho74 ((hs_ : St _ _ _ _).ow L1_72)) ?_))) ?_
   · omega
   refine WQ.runA tbk 1 (Acts.nil.cons (j := 3) rfl g81) [1] rfl ⟨rfl, trivial⟩ ?_
   refine WQ.call (wantF rfl g81) rfl rfl (fun w_ hs_ => (Run.call Tryd.call30 rfl rfl rfl)) (fun w_ hs_ => (k25_ (gat encActR x1_71 0) a _ (SlN.nth (OwnN.ok ho74 ((hs_ : St _ _ _ _).ow L1_72) (fun y Li hy h3 hl => h3.ok hl (by have h9_ := List.mem_map_of_mem (f := ActR.dat) hy; first | exact hsma _ h9_))) (by omega)) (okActR.st0 f_a (hs_ : St _ _ _ _))).mono fun e_ w_ h_ => ⟨h_.1, (hs_ : St _ _ _ _).call0 h_.2⟩) ?_
   refine WQ.runA tbk 1 (Acts.nil.cons (j := 3) rfl g81) [] rfl trivial (WQ.eO 6 Acts.nil J82 g81 rfl rfl)
  refine WQ.nil (fun _ (hs83 : St _ _ _ _) => ?_)
  refine WC.cq rfl (fun h84 qh84 => ?_) (fun h84 qh84 => ?_)
  ·have hg : actOk a.dat = false := by rw [← hG.1, oneA_R hp1]; have h9 := h84; grind
   refine WC.r1 hs83 [] rfl (WC.ret (tkR ?_))
   clear hK80
   refine rtv rfl rfl hs83 ?_
   first | (rw [actT_no hg]; done) | (rw [actT_yes hg, ← hG.2 hg]; done) | (rw [actT_yes hg, ← hG.2 hg, ← hB]; done) | (rw [actT_yes hg, ← hG.2 hg, ← hB]; rfl)
  have hg : actOk a.dat = true := by rw [← hG.1, oneA_R hp1]; have h9 := h84; grind
  refine WC.skip (hK80 _ _ (WC.sr (WL.r 1 hs83 [] rfl (WL.val rfl rfl rfl (Run.strOf (SlF.ofOwn ho63 (hs83.ow L61)) Tryd.underlying22 Tryd.underlying5 Tryd.underlying9 rfl rfl) (WL.r 1 hs83 [] rfl (WL.nil (WC.ret ?_)))))))
  refine rtv rfl rfl hs83 ?_
  first | (rw [actT_no hg]; done) | (rw [actT_yes hg, ← hG.2 hg]; done) | (rw [actT_yes hg, ← hG.2 hg, ← hB]; done) | (rw [actT_yes hg, ← hG.2 hg, ← hB]; rfl)
 have k3 : ¬ a.dat.Kind = 3 := (show ¬ a.Kind = 3 by have h9 := h60; simpa using h9)
 refine WC.r1 hs5 [] rfl (WC.cq rfl (fun h85 qh85 => ?_) (fun h85 qh85 => ?_))
 ·have k4 : a.dat.Kind = 4 := (show a.Kind = 4 by have h9 := h85; simpa using h9)
  refine WC.sr (WL.buildSlice hs5 Tryd.runUnderlying22 Tryd.sizeOf5 Tryd.zeroValue5 rfl rfl rfl rfl rfl rfl rfl rfl rfl rfl (fun b86 whs87 hs87 => WL.convLit (xs := [27, 91]) hs87 rfl rfl Tryd.underlying22 Tryd.underlying5 rfl rfl rfl rfl rfl (fun L88 whs89 hs89 ho90 => ?_)))
  replace hs89 := St.back [_] hs89
  refine WL.r 1 hs89 [] rfl (WL.nil (WC.seq (fun K91 hK91 => WC.r1 hs89 [0] rfl ?_)))
  refine WC.cq rfl (fun h92 qh92 => ?_) (fun h92 qh92 => ?_)
  ·have hmk : a.Mark = true := h92
   refine WC.region (WL.r 1 hs89 [] rfl (WL.buildSlice hs89 Tryd.runUnderlying22 Tryd.sizeOf5 Tryd.zeroValue5 rfl rfl rfl rfl rfl rfl rfl rfl rfl rfl (fun b93 whs94 hs94 => ?_)))
   refine WL.appendG (hs94.fr L88) ho90 (srcF (F := encB) (ys := [63]) Tryd.underlying22 rfl rfl (hs94.own _ (nthL_mem (i := 0) rfl)).1) Tryd.underlying22 inf5 rfl rfl rfl rfl rfl rfl rfl rfl rfl rfl ?_ (fun A98 c99 L95 whs96 hs96 ho97 => ?_)
   · (try simp only [List.length_append, List.length_cons, List.length_nil]); first | omega | (split <;> simp; done) | (have h9 := numT_len (n := gat encI a.Args.xs i); simp [numBA]; omega)
   replace hs96 := St.back [_, _] hs96
   refine WL.r 1 hs96 [] rfl (WL.nil (hK91 _ _ (WC.seq (fun K100 hK100 => WC.r1 hs96 [1] rfl (WC.block ?_)))))
   refine WC.lO [1, 2, 11, 16, 23, 30, 35, 40, 41] rfl (hs96.fr L95) (fun k_ f L_ => ∃ (zs : List UInt8) (i : Nat) (A101 : Option Addr) (c102 : Nat), k_ = a.Args.n - i ∧ (i ≤ a.Args.n) ∧ (zs = ([27, 91] ++ (if a.Mark = true then [63] else [])) ++ argT (a.Args.xs.take i)) ∧ OwnF encB 5 (.slice A101 (zs.length) c102) (zs) L_ ∧ Sub [(3, .slice A101 (zs.length) c102), (42, .int .i64 i)] f) (a.Args.n) ?_ ?_
   ·refine ⟨_, 0, _, _, rfl, ?_, ?_, ho97, ⟨rfl, rfl, trivial⟩⟩
    · exact Nat.zero_le _
    · simp [argT, Go.Lib.join_nil, hmk]
   clear hs96
   rintro _ f w L103 ⟨zs, i, A101, c102, rfl, p0, p1, ho104, hG⟩ hF hs105
   refine WC.sub _ (hG.app hF) ?_
   clear hG hF
   replace hs105 := St.back [_, _] hs105
   have hzl : zs.length ≤ 30000000 := by rw [p1]; have h9 := argT_len (l := a.Args.xs.take i); rw [List.length_take] at h9; simp only [List.length_append]; split <;> simp <;> omega
   refine WC.r1 hs105 [] rfl (WC.seq (fun K106 hK106 => ?_))
   refine WC.cq rfl (fun h107 qh107 => ?_) (fun h107 qh107 => ?_)
   ·have hil : i < a.Args.n := by have h9 := h107; simpa using h9
    refine WC.skip (hK106 _ _ (WC.seq (fun K108 hK108 => WC.block (WC.sr (WL.r 1 hs105 [] rfl ?_)))))
    refine WL.val rfl rfl rfl (Run.idxN Tryd.runUnderlying24 Tryd.sizeOf3 rfl rfl rfl ?_ ?_ ?_) ?_
    · exact SlF.some_ (SlF.st0 f_a.Args hs105)
    · omega
    · omega
    refine WL.val rfl rfl rfl (Run.load Tryd.isAgg3 rfl rfl (SlF.one1 (SlF.st0 f_a.Args hs105) ?_ rfl)) ?_
    · omega
    refine WL.r 2 hs105 [] rfl (WL.nil (WC.seq (fun K109 hK109 => WC.r1 hs105 [] rfl ?_)))
    refine WC.cq rfl (fun h110 qh110 => ?_) (fun h110 qh110 => ?_)
    ·have hi0 : 0 < i := by have h9 := h110; simp at h9; omega
     refine WC.region (WL.r 1 hs105 [] rfl (WL.buildSlice hs105 Tryd.runUnderlying22 Tryd.sizeOf5 Tryd.zeroValue5 rfl rfl rfl rfl rfl rfl rfl rfl rfl rfl (fun b111 whs112 hs112 => ?_)))
     refine WL.appendG (hs112.fr L103) ho104 (srcF (F := encB) (ys := [59]) Tryd.underlying22 rfl rfl (hs112.own _ (nthL_mem (i := 0) rfl)).1) Tryd.underlying22 inf5 rfl rfl rfl rfl rfl rfl rfl rfl rfl rfl ?_ (fun A116 c117 L113 whs114 hs114 ho115 => ?_)
     · (try simp only [List.length_append, List.length_cons, List.length_nil]); first | omega | (split <;> simp; done) | (have h9 := numT_len (n := gat encI a.Args.xs i); simp [numBA]; omega)
     replace hs114 := St.back [_, _, _] hs114
     refine WL.r 1 hs114 [] rfl (WL.nil (hK109 _ _ (WC.region (WL.r 2 hs114 [] rfl (WL.cl Tryd.call29 rfl (k10_ _ _) ?_)))))
     rintro _ whs118 ⟨rfl, hs118⟩
     replace hs118 := hs114.call0 hs118
     refine ⟨_, rfl, WL.appendG (hs118.fr L113) ho115 (srcStr Tryd.underlying9 _) Tryd.underlying22 inf5 rfl rfl rfl rfl rfl rfl rfl rfl rfl rfl ?_ (fun A122 c123 L119 whs120 hs120 ho121 => ?_)⟩
     · (try simp only [List.length_append, List.length_cons, List.length_nil]); first | omega | (split <;> simp; done) | (have h9 := numT_len (n := gat encI a.Args.xs i); simp [numBA]; omega)
     replace hs120 := St.back [_, _, _] hs120
     refine WL.r 1 hs120 [] rfl (WL.nil (hK108 _ _ (WC.region (WL.r 2 hs120 [] rfl (WL.nil (tkN ?_))))))
     replace hs120 := hs120.d1
     refine ⟨sbF rfl, _, (hs120.fr L119), _, ?_, _, i + 1, _, _, rfl, ?_, ?_, ho121, ⟨rfl, rfl, trivial⟩⟩
     · omega
     · omega
     · rw [p1, argT_take (l := a.Args.xs) (i := i) (by omega), if_neg (show ¬ i = 0 by omega)]; simp [numBA, iat]
    have hi0 : i = 0 := by have h9 := h110; simp at h9; omega
    refine WC.skip (hK109 _ _ (WC.region (WL.r 2 hs105 [] rfl (WL.cl Tryd.call29 rfl (k10_ _ _) ?_))))
    rintro _ whs124 ⟨rfl, hs124⟩
    replace hs124 := hs105.call0 hs124
    refine ⟨_, rfl, WL.appendG (hs124.fr L103) ho104 (srcStr Tryd.underlying9 _) Tryd.underlying22 inf5 rfl rfl rfl rfl rfl rfl rfl rfl rfl rfl ?_ (fun A128 c129 L125 whs126 hs126 ho127 => ?_)⟩
    · (try simp only [List.length_append, List.length_cons, List.length_nil]); first | omega | (split <;> simp; done) | (have h9 := numT_len (n := gat encI a.Args.xs i); simp [numBA]; omega)
    replace hs126 := St.back [_, _] hs126
    refine WL.r 1 hs126 [] rfl (WL.nil (hK108 _ _ (WC.region (WL.r 2 hs126 [] rfl (WL.nil (tkN ?_))))))
    refine ⟨sbF rfl, _, (hs126.fr L125), _, ?_, _, i + 1, _, _, rfl, ?_, ?_, ho127, ⟨rfl, rfl, trivial⟩⟩
    · omega
    · omega
    · rw [p1, argT_take (l := a.Args.xs) (i := i) (by omega), if_pos (show i = 0 by omega)]; obtain rfl : i = 0 := (by omega); simp [numBA, iat, argT, Go.Lib.join_nil]
   have hzz : zs = actPre a.dat := by rw [p1, List.take_of_length_le (by omega)]; rfl
   subst hzz
   refine WC.exit (hK100 _ _ (WC.region (WL.r 3 hs105 [1] rfl (WL.val rfl rfl rfl (Run.andB rfl rfl rfl) (WL.r 1 hs105 [] rfl (WL.buildSlice hs105 Tryd.runUnderlying22 Tryd.sizeOf5 Tryd.zeroValue5 rfl rfl rfl rfl rfl rfl rfl rfl rfl rfl (fun b130 whs131 hs131 => ?_)))))))
   refine WL.appendG (hs131.fr L103) ho104 (srcF (F := encB) (ys := [ub (bitsAnd a.R 127)]) Tryd.underlying22 rfl rfl (hs131.own _ (nthL_mem (i := 0) rfl)).1) Tryd.underlying22 inf5 rfl rfl rfl rfl rfl rfl rfl rfl rfl rfl ?_ (fun A135 c136 L132 whs133 hs133 ho134 => ?_)
   · (try simp only [List.length_append, List.length_cons, List.length_nil]); first | omega | (split <;> simp; done) | (have h9 := numT_len (n := gat encI a.Args.xs i); simp [numBA]; omega)
   replace hs133 := St.back [_, _, _] hs133
   refine WL.r 1 hs133 [] rfl (WL.nil (hK9 _ _ (WC.sr ?_)))
   refine WL.val rfl rfl rfl (Run.build rfl rfl rfl rfl (built_26)) (WL.r 1 hs133 [] rfl ?_)
   refine WL.cl Tryd.call20 rfl (k47_ ⟨_, _, ⟨_, _, _, _⟩, ⟨_, _, _, _⟩⟩ _ _ _ _ _ ⟨(SlF.nil _ _), (by first | assumption | omega | simp), (by first | assumption | omega | (simp; omega) | simp), (SlF.nil _ _), (by first | assumption | omega | simp), (by first | assumption | omega | (simp; omega) | simp)⟩ (SlF.ofOwn ho134 (hs133.ow L132)) ?_ ?_) ?_
   iterate 2 focus first | assumption | rfl | omega | exact ⟨Nat.zero_le _, Nat.zero_le _⟩ | (simp; first | done | omega)
   rintro _ whs137 ⟨r0_138, L0_139, A1_140, c1_141, x1_142, L1_143, rfl, hs137, ho144, ho145, hd0_146, hd1_147⟩
   replace hs137 := hs133.callF hs137
   refine ⟨_, rfl, ?_⟩
   replace hs137 := St.assoc hs137
   replace hs137 := St.back2 [_, _, _] hs137
   have hp1 : x1_142.map ActR.dat = (vpParse vp0 (actPre a.dat ++ [ub (bitsAnd a.R 127)])).2 := hd1_147.trans ((congrArg (·.2) vpBytes_vp0).trans (congrArg (fun z => (vpParse vp0 z).2) (by first | rfl | simp [actPre, argT, numBA, Go.Lib.join_nil])))
   have hsma : ∀ y, y ∈ x1_142.map ActR.dat → smAct 549755813888 y := by intro y hy; rw [hp1] at hy; have h9 := vpParse_act (v := vp0) rfl y hy; show y.Args.length ≤ 549755813888; omega
   have hB : (actPre a.dat ++ [ub (bitsAnd a.R 127)]) = actS a.dat (bitsAnd a.R 127) := (by unfold actS; rw [if_neg k1, if_neg k2, if_neg k3, if_pos k4])
   have hq : 0 ≤ a.dat.R ∧ a.dat.R ≤ 127 → (bitsAnd a.R 127) = a.dat.R := fun h => bitsAnd_low h
   have hG := actS_ok hq
   rw [← hB] at hG
   refine WL.r 3 hs137 [] rfl (WL.al hs137 Tryd.zeroValue26 rfl rfl (fun b148 _ hs149 => WL.st tbk hs149 0 rfl rfl (fun _ hs150 => WL.r 1 hs150 [] rfl (WL.nil (WC.seq (fun K151 hK151 => WC.sq1 hs150 (WQ.r 4 [] rfl ?_)))))))
   apply WQ.gO 6 Acts.nil rfl
   ·intro g152 J153
    have qg152 := g152
    try simp only [bf, within_iff, within_not] at qg152
    refine WQ.runA tbk 1 (Acts.nil.cons (j := 3) rfl g152) [] rfl trivial ?_
    refine WQ.val (wantF rfl g152) rfl rfl (fun w_ hs_ => (Run.idx Tryd.runUnderlying27 Tryd.sizeOf33 rfl rfl rfl ?_ ?_ ?_)) ?_
    · exact SlF.some_ (OwnN.sl ho145 ((hs_ : St _ _ _ _).ow L1_143))
    · omega
    · omega
    refine WQ.val (wantF rfl g152) rfl rfl (fun w_ hs_ => (Run.loadA Tryd.isAgg33 Tryd.sizeOf33 rfl rfl (SlF.whole (OwnN.sl ho145 ((hs_ : St _ _ _ _).ow L1_143)) ?_))) ?_
    · omega
    refine WQ.runA tbk 1 (Acts.nil.cons (j := 3) rfl g152) [3] rfl ⟨rfl, trivial⟩ ?_
    refine WQ.call (wantF rfl g152) rfl rfl (fun w_ hs_ => (Run.call Tryd.call30 rfl rfl rfl)) (fun w_ hs_ => (k25_ (gat encActR x1_142 0) a _ (SlN.nth (OwnN.ok ho145 ((hs_ : St _ _ _ _).ow L1_143) (fun y Li hy h3 hl => h3.ok hl (by have h9_ := List.mem_map_of_mem (f := ActR.dat) hy; first | exact hsma _ h9_))) (by omega)) (okActR.st0 f_a (hs_ : St _ _ _ _))).mono fun e_ w_ h_ => ⟨h_.1, (hs_ : St _ _ _ _).call0 h_.2⟩) ?_
    refine WQ.runA tbk 1 (Acts.nil.cons (j := 3) rfl g152) [] rfl trivial (WQ.eO 6 Acts.nil J153 g152 rfl rfl)
   refine WQ.nil (fun _ (hs154 : St _ _ _ _) => ?_)
   refine WC.cq rfl (fun h155 qh155 => ?_) (fun h155 qh155 => ?_)
   ·have hg : actOk a.dat = false := by rw [← hG.1, oneA_R hp1]; have h9 := h155; grind
    refine WC.r1 hs154 [] rfl (WC.ret (tkR ?_))
    clear hK151
    refine rtv rfl rfl hs154 ?_
    first | (rw [actT_no hg]; done) | (rw [actT_yes hg, ← hG.2 hg]; done) | (rw [actT_yes hg, ← hG.2 hg, ← hB]; done) | (rw [actT_yes hg, ← hG.2 hg, ← hB]; rfl)
   have hg : actOk a.dat = true := by rw [← hG.1, oneA_R hp1]; have h9 := h155; grind
   refine WC.skip (hK151 _ _ (WC.sr (WL.r 1 hs154 [] rfl (WL.val rfl rfl rfl (Run.strOf (SlF.ofOwn ho134 (hs154.ow L132)) Tryd.underlying22 Tryd.underlying5 Tryd.underlying9 rfl rfl) (WL.r 1 hs154 [] rfl (WL.nil (WC.ret ?_)))))))
   refine rtv rfl rfl hs154 ?_
   first | (rw [actT_no hg]; done) | (rw [actT_yes hg, ← hG.2 hg]; done) | (rw [actT_yes hg, ← hG.2 hg, ← hB]; done) | (rw [actT_yes hg, ← hG.2 hg, ← hB]; rfl)
  have hmk : a.Mark = false := h92
  refine WC.skip (hK91 _ _ (WC.seq (fun K156 hK156 => WC.r1 hs89 [0] rfl (WC.block ?_))))
  refine WC.lO [1, 2, 11, 16, 23, 30, 35, 40, 41] rfl (hs89.fr L88) (fun k_ f L_ => ∃ (zs : List UInt8) (i : Nat) (A157 : Option Addr) (c158 : Nat), k_ = a.Args.n - i ∧ (i ≤ a.Args.n) ∧ (zs = ([27, 91] ++ (if a.Mark = true then [63] else [])) ++ argT (a.Args.xs.take i)) ∧ OwnF encB 5 (.slice A157 (zs.length) c158) (zs) L_ ∧ Sub [(3, .slice A157 (zs.length) c158), (42, .int .i64 i)] f) (a.Args.n) ?_ ?_
  ·refine ⟨_, 0, _, _, rfl, ?_, ?_, ho90, ⟨rfl, rfl, trivial⟩⟩
   · exact Nat.zero_le _
   · simp [argT, Go.Lib.join_nil, hmk]
  clear hs89
  rintro _ f w L159 ⟨zs, i, A157, c158, rfl, p0, p1, ho160, hG⟩ hF hs161
  refine WC.sub _ (hG.app hF) ?_
  clear hG hF
  replace hs161 := St.back [_] hs161
  have hzl : zs.length ≤ 30000000 := by rw [p1]; have h9 := argT_len (l := a.Args.xs.take i); rw [List.length_take] at h9; simp only [List.length_append]; split <;> simp <;> omega
  refine WC.r1 hs161 [] rfl (WC.seq (fun K162 hK162 => ?_))
  refine WC.cq rfl (fun h163 qh163 => ?_) (fun h163 qh163 => ?_)
  ·have hil : i < a.Args.n := by have h9 := h163; simpa using h9
   refine WC.skip (hK162 _ _ (WC.seq (fun K164 hK164 => WC.block (WC.sr (WL.r 1 hs161 [] rfl ?_)))))
   refine WL.val rfl rfl rfl (Run.idxN Tryd.runUnderlying24 Tryd.sizeOf3 rfl rfl rfl ?_ ?_ ?_) ?_
   · exact SlF.some_ (SlF.st0 f_a.Args hs161)
   · omega
   · omega
   refine WL.val rfl rfl rfl (Run.load Tryd.isAgg3 rfl rfl (SlF.one1 (SlF.st0 f_a.Args hs161) ?_ rfl)) ?_
   · omega
   refine WL.r 2 hs161 [] rfl (WL.nil (WC.seq (fun K165 hK165 => WC.r1 hs161 [] rfl ?_)))
   refine WC.cq rfl (fun h166 qh166 => ?_) (fun h166 qh166 => ?_)
   ·have hi0 : 0 < i := by have h9 := h166; simp at h9; omega
    refine WC.region (WL.r 1 hs161 [] rfl (WL.buildSlice hs161 Tryd.runUnderlying22 Tryd.sizeOf5 Tryd.zeroValue5 rfl rfl rfl rfl rfl rfl rfl rfl rfl rfl (fun b167 whs168 hs168 => ?_)))
    refine WL.appendG (hs168.fr L159) ho160 (srcF (F := encB) (ys := [59]) Tryd.underlying22 rfl rfl (hs168.own _ (nthL_mem (i := 0) rfl)).1) Tryd.underlying22 inf5 rfl rfl rfl rfl rfl rfl rfl rfl rfl rfl ?_ (fun A172 c173 L169 whs170 hs170 ho171 => ?_)
    · (try simp only [List.length_append, List.length_cons, List.length_nil]); first | omega | (split <;> simp; done) | (have h9 := numT_len (n := gat encI a.Args.xs i); simp [numBA]; omega)
    replace hs170 := St.back [_, _] hs170
    refine WL.r 1 hs170 [] rfl (WL.nil (hK165 _ _ (WC.region (WL.r 2 hs170 [] rfl (WL.cl Tryd.call29 rfl (k10_ _ _) ?_)))))
    rintro _ whs174 ⟨rfl, hs174⟩
    replace hs174 := hs170.call0 hs174
    refine ⟨_, rfl, WL.appendG (hs174.fr L169) ho171 (srcStr Tryd.underlying9 _) Tryd.underlying22 inf5 rfl rfl rfl rfl rfl rfl rfl rfl rfl rfl ?_ (fun A178 c179 L175 whs176 hs176 ho177 => ?_)⟩
    · (try simp only [List.length_append, List.length_cons, List.length_nil]); first | omega | (split <;> simp; done) | (have h9 := numT_len (n := gat encI a.Args.xs i); simp [numBA]; omega)
    replace hs176 := St.back [_, _] hs176
    refine WL.r 1 hs176 [] rfl (WL.nil (hK164 _ _ (WC.region (WL.r 2 hs176 [] rfl (WL.nil (tkN ?_))))))
    replace hs176 := hs176.d1
    refine ⟨sbF rfl, _, (hs176.fr L175), _, ?_, _, i + 1, _, _, rfl, ?_, ?_, ho177, ⟨rfl, rfl, trivial⟩⟩
    · omega
    · omega
    · rw [p1, argT_take (l := a.Args.xs) (i := i) (by omega), if_neg (show ¬ i = 0 by omega)]; simp [numBA, iat]
   have hi0 : i = 0 := by have h9 := h166; simp at h9; omega
   refine WC.skip (hK165 _ _ (WC.region (WL.r 2 hs161 [] rfl (WL.cl Tryd.call29 rfl (k10_ _ _) ?_))))
   rintro _ whs180 ⟨rfl, hs180⟩
   replace hs180 := hs161.call0 hs180
   refine ⟨_, rfl, WL.appendG (hs180.fr L159) ho160 (srcStr Tryd.underlying9 _) Tryd.underlying22 inf5 rfl rfl rfl rfl rfl rfl rfl rfl rfl rfl ?_ (fun A184 c185 L181 whs182 hs182 ho183 => ?_)⟩
   · (try simp only [List.length_append, List.length_cons, List.length_nil]); first | omega | (split <;> simp; done) | (have h9 := numT_len (n := gat encI a.Args.xs i); simp [numBA]; omega)
   replace hs182 := St.back [_] hs182
   refine WL.r 1 hs182 [] rfl (WL.nil (hK164 _ _ (WC.region (WL.r 2 hs182 [] rfl (WL.nil (tkN ?_))))))
   refine ⟨sbF rfl, _, (hs182.fr L181), _, ?_, _, i + 1, _, _, rfl, ?_, ?_, ho183, ⟨rfl, rfl, trivial⟩⟩
   · omega
   · omega
   · rw [p1, argT_take (l := a.Args.xs) (i := i) (by omega), if_pos (show i = 0 by omega)]; obtain rfl : i = 0 := (by omega); simp [numBA, iat, argT, Go.Lib.join_nil]
  have hzz : zs = actPre a.dat := by rw [p1, List.take_of_length_le (by omega)]; rfl
  subst hzz
  refine WC.exit (hK156 _ _ (WC.region (WL.r 3 hs161 [0] rfl (WL.val rfl rfl rfl (Run.andB rfl rfl rfl) (WL.r 1 hs161 [] rfl (WL.buildSlice hs161 Tryd.runUnderlying22 Tryd.sizeOf5 Tryd.zeroValue5 rfl rfl rfl rfl rfl rfl rfl rfl rfl rfl (fun b186 whs187 hs187 => ?_)))))))
  refine WL.appendG (hs187.fr L159) ho160 (srcF (F := encB) (ys := [ub (bitsAnd a.R 127)]) Tryd.underlying22 rfl rfl (hs187.own _ (nthL_mem (i := 0) rfl)).1) Tryd.underlying22 inf5 rfl rfl rfl rfl rfl rfl rfl rfl rfl rfl ?_ (fun A191 c192 L188 whs189 hs189 ho190 => ?_)
  · (try simp only [List.length_append, List.length_cons, List.length_nil]); first | omega | (split <;> simp; done) | (have h9 := numT_len (n := gat encI a.Args.xs i); simp [numBA]; omega)
  replace hs189 := St.back [_, _] hs189
  refine WL.r 1 hs189 [] rfl (WL.nil (hK9 _ _ (WC.sr ?_)))
  refine WL.val rfl rfl rfl (Run.build rfl rfl rfl rfl (built_26)) (WL.r 1 hs189 [] rfl ?_)
  refine WL.cl Tryd.call20 rfl (k47_ ⟨_, _, ⟨_, _, _, _⟩, ⟨_, _, _, _⟩⟩ _ _ _ _ _ ⟨(SlF.nil _ _), (by first | assumption | omega | simp), (by first | assumption | omega | (simp; omega) | simp), (SlF.nil _ _), (by first | assumption | omega | simp), (by first | assumption | omega | (simp; omega) | simp)⟩ (SlF.ofOwn ho190 (hs189.ow L188)) ?_ ?_) ?_
  iterate 2 focus first | assumption | rfl | omega | exact ⟨Nat.zero_le _, Nat.zero_le _⟩ | (simp; first | done | omega)
  rintro _ whs193 ⟨r0_194, L0_195, A1_196, c1_197, x1_198, L1_199, rfl, hs193, ho200, ho201, hd0_202, hd1_203⟩
  replace hs193 := hs189.callF hs193
  refine ⟨_, rfl, ?_⟩
  replace hs193 := St.assoc hs193
  replace hs193 := St.back2 [_, _] hs193
  have hp1 : x1_198.map ActR.dat = (vpParse vp0 (actPre a.dat ++ [ub (bitsAnd a.R 127)])).2 := hd1_203.trans ((congrArg (·.2) vpBytes_vp0).trans (congrArg (fun z => (vpParse vp0 z).2) (by first | rfl | simp [actPre, argT, numBA, Go.Lib.join_nil])))
  have hsma : ∀ y, y ∈ x1_198.map ActR.dat → smAct 549755813888 y := by intro y hy; rw [hp1] at hy; have h9 := vpParse_act (v := vp0) rfl y hy; show y.Args.length ≤ 549755813888; omega
  have hB : (actPre a.dat ++ [ub (bitsAnd a.R 127)]) = actS a.dat (bitsAnd a.R 127) := (by unfold actS; rw [if_neg k1, if_neg k2, if_neg k3, if_pos k4])
  have hq : 0 ≤ a.dat.R ∧ a.dat.R ≤ 127 → (bitsAnd a.R 127) = a.dat.R := fun h => bitsAnd_low h
  have hG := actS_ok hq
  rw [← hB] at hG
  refine WL.r 3 hs193 [] rfl (WL.al hs193 Tryd.zeroValue26 rfl rfl (fun b204 _ hs205 => WL.st tbk hs205 0 rfl rfl (fun _ hs206 => WL.r 1 hs206 [] rfl (WL.nil (WC.seq (fun K207 hK207 => WC.sq1 hs206 (WQ.r 4 [] rfl ?_)))))))
  apply WQ.gO 6 Acts.nil rfl
  ·intro g208 J209
   have qg208 := g208
   try simp only [bf, within_iff, within_not] at qg208
   refine WQ.runA tbk 1 (Acts.nil.cons (j := 3) rfl g208) [] rfl trivial ?_
   refine WQ.val (wantF rfl g208) rfl rfl (fun w_ hs_ => (Run.idx Tryd.runUnderlying27 Tryd.sizeOf33 rfl rfl rfl ?_ ?_ ?_)) ?_
   · exact SlF.some_ (OwnN.sl ho201 ((hs_ : St _ _ _ _).ow L1_199))
   · omega
   · omega
   refine WQ.val (wantF rfl g208) rfl rfl (fun w_ hs_ => (Run.loadA Tryd.isAgg33 Tryd.sizeOf33 rfl rfl (SlF.whole (OwnN.sl ho201 ((hs_ : St _ _ _ _).ow L1_199)) ?_))) ?_
   · omega
   refine WQ.runA tbk 1 (Acts.nil.cons (j := 3) rfl g208) [2] rfl ⟨rfl, trivial⟩ ?_
   refine WQ.call (wantF rfl g208) rfl rfl (fun w_ hs_ => (Run.call Tryd.call30 rfl rfl rfl)) (fun w_ hs_ => (k25_ (gat encActR x1_198 0) a _ (SlN.nth (OwnN.ok ho201 ((hs_ : St _ _ _ _).ow L1_199) (fun y Li hy h3 hl => h3.ok hl (by have h9_ := List.mem_map_of_mem (f := ActR.dat) hy; first | exact hsma _ h9_))) (by omega)) (okActR.st0 f_a (hs_ : St _ _ _ _))).mono fun e_ w_ h_ => ⟨h_.1, (hs_ : St _ _ _ _).call0 h_.2⟩) ?_
   refine WQ.runA tbk 1 (Acts.nil.cons (j := 3) rfl g208) [] rfl trivial (WQ.eO 6 Acts.nil J209 g208 rfl rfl)
  refine WQ.nil (fun _ (hs210 : St _ _ _ _) => ?_)
  refine WC.cq rfl (fun h211 qh211 => ?_) (fun h211 qh211 => ?_)
  ·have hg : actOk a.dat = false := by rw [← hG.1, oneA_R hp1]; have h9 := h211; grind
   refine WC.r1 hs210 [] rfl (WC.ret (tkR ?_))
   clear hK207
   refine rtv rfl rfl hs210 ?_
   first | (rw [actT_no hg]; done) | (rw [actT_yes hg, ← hG.2 hg]; done) | (rw [actT_yes hg, ← hG.2 hg, ← hB]; done) | (rw [actT_yes hg, ← hG.2 hg, ← hB]; rfl)
  have hg : actOk a.dat = true := by rw [← hG.1, oneA_R hp1]; have h9 := h211; grind
  refine WC.skip (hK207 _ _ (WC.sr (WL.r 1 hs210 [] rfl (WL.val rfl rfl rfl (Run.strOf (SlF.ofOwn ho190 (hs210.ow L188)) Tryd.underlying22 Tryd.underlying5 Tryd.underlying9 rfl rfl) (WL.r 1 hs210 [] rfl (WL.nil (WC.ret ?_)))))))
  refine rtv rfl rfl hs210 ?_
  first | (rw [actT_no hg]; done) | (rw [actT_yes hg, ← hG.2 hg]; done) | (rw [actT_yes hg, ← hG.2 hg, ← hB]; done) | (rw [actT_yes hg, ← hG.2 hg, ← hB]; rfl)
 have k4 : ¬ a.dat.Kind = 4 := (show ¬ a.Kind = 4 by have h9 := h85; simpa using h9)
 refine WC.skip (hK9 _ _ (WC.sr ?_))
 refine WL.val rfl rfl rfl (Run.build rfl rfl rfl rfl (built_26)) (WL.r 1 hs5 [] rfl ?_)
 refine WL.cl Tryd.call20 rfl (k47_ ⟨_, _, ⟨_, _, _, _⟩, ⟨_, _, _, _⟩⟩ _ _ _ _ _ ⟨(SlF.nil _ _), (by first | assumption | omega | simp), (by first | assumption | omega | (simp; omega) | simp), (SlF.nil _ _), (by first | assumption | omega | simp), (by first | assumption | omega | (simp; omega) | simp)⟩ (SlF.ofOwn ho6 (hs5.ow L4)) ?_ ?_) ?_
 iterate 2 focus first | assumption | rfl | omega | exact ⟨Nat.zero_le _, Nat.zero_le _⟩ | (simp; first | done | omega)
 rintro _ whs212 ⟨r0_213, L0_214, A1_215, c1_216, x1_217, L1_218, rfl, hs212, ho219, ho220, hd0_221, hd1_222⟩
 replace hs212 := hs5.callF hs212
 refine ⟨_, rfl, ?_⟩
 replace hs212 := St.assoc hs212
 replace hs212 := St.back2 [_] hs212
 have hp1 : x1_217.map ActR.dat = (vpParse vp0 ([] : List UInt8)).2 := hd1_222.trans ((congrArg (·.2) vpBytes_vp0).trans (congrArg (fun z => (vpParse vp0 z).2) (by first | rfl | simp [actPre, argT, numBA, Go.Lib.join_nil])))
 have hsma : ∀ y, y ∈ x1_217.map ActR.dat → smAct 549755813888 y := by intro y hy; rw [hp1] at hy; have h9 := vpParse_act (v := vp0) rfl y hy; show y.Args.length ≤ 549755813888; omega
 have hB : ([] : List UInt8) = actS a.dat (bitsAnd a.R 127) := (by unfold actS; rw [if_neg k1, if_neg k2, if_neg k3, if_neg k4])
 have hq : 0 ≤ a.dat.R ∧ a.dat.R ≤ 127 → (bitsAnd a.R 127) = a.dat.R := fun h => bitsAnd_low h
 have hG := actS_ok hq
 rw [← hB] at hG
 refine WL.r 3 hs212 [] rfl (WL.al hs212 Tryd.zeroValue26 rfl rfl (fun b223 _ hs224 => WL.st tbk hs224 0 rfl rfl (fun _ hs225 => WL.r 1 hs225 [] rfl (WL.nil (WC.seq (fun K226 hK226 => WC.sq1 hs225 (WQ.r 4 [] rfl ?_)))))))
 apply WQ.gO 6 Acts.nil rfl
 ·intro g227 J228
  have qg227 := g227
  try simp only [bf, within_iff, within_not] at qg227
  refine WQ.runA tbk 1 (Acts.nil.cons (j := 3) rfl g227) [] rfl trivial ?_
  refine WQ.val (wantF rfl g227) rfl rfl (fun w_ hs_ => (Run.idx Tryd.runUnderlying27 Tryd.sizeOf33 rfl rfl rfl ?_ ?_ ?_)) ?_
  · exact SlF.some_ (OwnN.sl ho220 ((hs_ : St _ _ _ _).ow L1_218))
  · omega
  · omega
  refine WQ.val (wantF rfl g227) rfl rfl (fun w_ hs_ => (Run.loadA Tryd.isAgg33 Tryd.sizeOf33 rfl rfl (SlF.whole (OwnN.sl ho220 ((hs_ : St _ _ _ _).ow L1_218)) ?_))) ?_
  · omega
  refine WQ.runA tbk 1 (Acts.nil.cons (j := 3) rfl g227) [1] rfl ⟨rfl, trivial⟩ ?_
  refine WQ.call (wantF rfl g227) rfl rfl (fun w_ hs_ => (Run.call Tryd.call30 rfl rfl rfl)) (fun w_ hs_ => (k25_ (gat encActR x1_217 0) a _ (SlN.nth (OwnN.ok ho220 ((hs_ : St _ _ _ _).ow L1_218) (fun y Li hy h3 hl => h3.ok hl (by have h9_ := List.mem_map_of_mem (f := ActR.dat) hy; first | exact hsma _ h9_))) (by omega)) (okActR.st0 f_a (hs_ : St _ _ _ _))).mono fun e_ w_ h_ => ⟨h_.1, (hs_ : St _ _ _ _).call0 h_.2⟩) ?_
  refine WQ.runA tbk 1 (Acts.nil.cons (j := 3) rfl g227) [] rfl trivial (WQ.eO 6 Acts.nil J228 g227 rfl rfl)
 refine WQ.nil (fun _ (hs229 : St _ _ _ _) => ?_)
 refine WC.cq rfl (fun h230 qh230 => ?_) (fun h230 qh230 => ?_)
 ·have hg : actOk a.dat = false := by rw [← hG.1, oneA_R hp1]; have h9 := h230; grind
  refine WC.r1 hs229 [] rfl (WC.ret (tkR ?_))
  clear hK226
  refine rtv rfl rfl hs229 ?_
  first | (rw [actT_no hg]; done) | (rw [actT_yes hg, ← hG.2 hg]; done) | (rw [actT_yes hg, ← hG.2 hg, ← hB]; done) | (rw [actT_yes hg, ← hG.2 hg, ← hB]; rfl)
 have hg : actOk a.dat = true := by rw [← hG.1, oneA_R hp1]; have h9 := h230; grind
 refine WC.skip (hK226 _ _ (WC.sr (WL.r 1 hs229 [] rfl (WL.val rfl rfl rfl (Run.strOf (SlF.ofOwn ho6 (hs229.ow L4)) Tryd.underlying22 Tryd.underlying5 Tryd.underlying9 rfl rfl) (WL.r 1 hs229 [] rfl (WL.nil (WC.ret ?_)))))))
 refine rtv rfl rfl hs229 ?_
 first | (rw [actT_no hg]; done) | (rw [actT_yes hg, ← hG.2 hg]; done) | (rw [actT_yes hg, ← hG.2 hg, ← hB]; done) | (rw [actT_yes hg, ← hG.2 hg, ← hB]; rfl)
set_option maxHeartbeats 8000000 in
theorem k49_ (aA : ActR) (w : World) (f_aA : okActR 9223372036854775807 w aA) (ht : TabOk w) :
    Calls Tryd.prog 4 #[.agg #[i64 aA.Kind, i64 aA.R, .bool aA.Mark, .slice aA.Args.A aA.Args.n aA.Args.c]] w fun e w' => e = .returned (.bool true) ∧ St w [] [] w' := by
 have nb_aA_Args := f_aA.Args_n
 have nl_aA_Args := f_aA.Args.len
 refine enter 27 Tryd.func4 rfl Tryd.ntmps4 rfl rfl ?_
 have hs1 := St.init w
 refine WC.sr (WL.bx hs1 rfl (fun b2 _ hs3 => WL.r 1 hs3 [] rfl (WL.nil (WC.r1 hs3 [] rfl (WC.sr (WL.r 2 hs3 [0] rfl ?_))))))
 refine WL.cl Tryd.call11 rfl (k11_ aA _ _ (okActR.st0 f_aA hs3) ?_ ?_) ?_
 · first | assumption | omega | exact tab_st ht (by assumption) | (simp only []; first | done | assumption | omega)
 · first | assumption | omega | exact szR_b (by assumption) (by omega) (by first | assumption | omega) | exact tab_st ht (by assumption) | (simp only []; first | done | assumption | omega)
 rintro _ whs4 ⟨rfl, hs4⟩
 replace hs4 := hs3.call0 hs4
 refine ⟨_, rfl, WL.r 1 hs4 [] rfl (WL.nil (WC.seq (fun K5 hK5 => WC.r1 hs4 [] rfl ?_)))⟩
 refine WC.cD rfl (fun qh6 => ?_) (fun qh6 => ?_)
 ·refine WC.r1 hs4 [] rfl (WC.ret (tkR ?_))
  clear hK5
  refine rtv rfl rfl hs4 ?_
  rfl
 simp only [szR] at qh6
 have hb_aA : totAct aA.dat ≤ 1048576 := by split at qh6 <;> omega
 have hsm_aA : smAct 1048576 aA.dat := totAct_sm hb_aA
 have hsB_aA : smAct 549755813888 aA.dat := totAct_sm (by omega)
 have f_aA := f_aA.to hsB_aA
 refine WC.skip (hK5 _ _ (WC.sr (WL.r 1 hs4 [0] rfl (WL.cl Tryd.call13 rfl (k12_ aA _ (okActR.st0 f_aA hs4)) ?_))))
 rintro _ whs7 ⟨r8, L1_9, rfl, hs7, ho10, hd11⟩
 replace hs7 := hs4.callF hs7
 refine ⟨_, rfl, ?_⟩
 replace hs7 := St.back [_] hs7
 have hz13 : r8.Args.xs.length ≤ 1048576 := by have h9 : smAct 1048576 r8.dat := (by rw [hd11]; exact hsm_aA); exact h9
 refine WL.cl Tryd.call12 rfl (k48_ r8 _ (ownActR.ok (B := 549755813888) ho10 (hs7.ow L1_9) (by rw [hd11]; assumption)) ?_) ?_
 · first | assumption | rfl | omega | exact tab_st ht (by assumption) | (simp only [hd11]; first | done | assumption | omega)
 rintro _ whs12 ⟨rfl, hs12⟩
 replace hs12 := hs7.call0 hs12
 refine ⟨_, rfl, WL.r 1 hs12 [] rfl (WL.nil (WC.sr (WL.r 1 hs12 [0] rfl (WL.cl Tryd.call13 rfl (k12_ aA _ (okActR.st0 f_aA hs12)) ?_))))⟩
 rintro _ whs13 ⟨r14, L1_15, rfl, hs13, ho16, hd17⟩
 try simp only [hd11] at hd17
 replace hs13 := hs12.callF hs13
 refine ⟨_, rfl, ?_⟩
 replace hs13 := St.back [_] hs13
 have hz16 : r14.Args.xs.length ≤ 1048576 := by have h9 : smAct 1048576 r14.dat := (by rw [hd17]; exact hsm_aA); exact h9
 refine WL.al hs13 Tryd.zeroValue33 rfl rfl (fun b18 _ hs19 => WL.st tbk hs19 0 rfl rfl (fun _ hs20 => WL.nil (WC.sr (WL.r 1 hs20 [0] rfl ?_))))
 refine WL.cl Tryd.call10 rfl (k44_ r14 _ (ownActR.ok (B := 549755813888) ho16 (hs20.ow L1_15) (by rw [hd17]; assumption)) ?_ ?_) ?_
 iterate 2 focus first | assumption | rfl | omega | exact tab_st ht (by assumption) | (simp only [hd11, hd17]; first | done | assumption | omega)
 rintro _ whs21 ⟨rfl, hs21⟩
 replace hs21 := hs20.call0 hs21
 refine ⟨_, rfl, WL.r 1 hs21 [] rfl (WL.nil (WC.seq (fun K22 hK22 => WC.r1 hs21 [] rfl ?_)))⟩
 refine WC.condF rfl (by first | (simp; done) | (simp; omega) | (simp [hd11, hd17]; done) | (simp [hd11, hd17]; omega) | (simp only []; simp; omega)) (WC.skip (hK22 _ _ (WC.seq (fun K24 hK24 => WC.seq (fun K25 hK25 => WC.rH hs21 hs21 (fun _ hs26 => ?_))))))
 refine WH.rn [0, 1] hs26 [0, 1] rfl rfl (WH.o1 2 rfl (WL.cl Tryd.call13 rfl (k12_ aA _ (okActR.st0 f_aA hs26)) ?_))
 rintro _ whs27 ⟨r28, L1_29, rfl, hs27, ho30, hd31⟩
 try simp only [hd11, hd17] at hd31
 replace hs27 := hs26.callF hs27
 refine ⟨_, rfl, ?_⟩
 replace hs27 := St.back [_, _] hs27
 refine WL.nil ⟨(hs27.rm L1_29), WH.o1 3 rfl ?_⟩
 refine WL.cl Tryd.call14 rfl (k13_ r14 r28 _ (ownActR.ok (B := 549755813888) ho16 (hs27.ow L1_15) (by rw [hd17]; assumption)) (ownActR.ok (B := 549755813888) ho30 (hs27.ow L1_29) (by rw [hd31]; assumption)) ?_) ?_
 · first | assumption | rfl | omega | exact tab_st ht (by assumption) | (simp only [hd11, hd17, hd31]; first | done | assumption | omega)
 rintro _ whs32 ⟨rfl, hs32⟩
 replace hs32 := hs27.call0 hs32
 refine ⟨_, rfl, WL.nil ⟨(hs32.rm L1_29), WH.rn [4] (hs32.rm L1_29) [] rfl rfl (WH.dn (hK25 _ _ ?_))⟩⟩
 refine WC.condF rfl (by first | (simp; done) | (simp; omega) | (simp [hd11, hd17, hd31]; done) | (simp [hd11, hd17, hd31]; omega) | (simp only []; simp; omega)) (WC.skip (hK24 _ _ (WC.r1 hs32 [] rfl (WC.ret (rtv rfl rfl hs32 ?_)))))
 rfl
open Go Go.RowKit Go.ChangeShapes Go.WideShapes Go.ChangeAt Go.Deep
theorem list_succ {n : Nat} {l : List Value} (h : l.length = n + 1) : ∃ c r, l = c :: r ∧ r.length = n := by
 cases l with
 | nil => simp at h
 | cons c r => exact ⟨c, r, rfl, by simpa using h⟩
theorem list_zero {l : List Value} (h : l.length = 0) : l = [] := List.eq_nil_of_length_eq_zero h
section
variable {H : Type} {enc : TypeId × Value → H} {P : Program} {w : World} {base : Nat} {spare : Nat → Bool} {held : Bool} {fuel : Nat} {t e : TypeId} {cs : List Value} {x : DataW H × List MemPlace}
theorem trod_flds {fs : Array Field} (ht : P.underlying t = some (.struct fs)) (h : DataW.trod enc P w base spare held fuel t cs = some x) :
  cs.length = P.cellsOf t ∧ ∃ n, ∀ (i : Nat) (f : Field), fs.toList[i]? = some f → ∃ y, DataW.trod enc P w base spare held n f.type ((cs.drop f.offset).take (P.cellsOf f.type)) = some y := by
 obtain ⟨xs, n, _, _, hl, hlen, hg⟩ := DataW.trod_struct ht h
 refine ⟨hl, n, fun i f hf => ?_⟩
 have hf' : fs[i]? = some f := by simpa using hf
 have hi : i < xs.length := by rw [hlen]; exact (Array.getElem?_eq_some_iff.1 hf').1
 exact ⟨xs[i], (hg i f hf').trans (List.getElem?_eq_getElem hi)⟩
theorem open_i64 (ht : P.underlying t = some (.int .i64)) (h : DataW.trod enc P w base spare held fuel t cs = some x) : ∃ n, cs = [i64 n] ∧ In64 n := by
 obtain ⟨n, rfl, _, hw⟩ := DataW.trod_int ht h
 refine ⟨n, rfl, ?_⟩
 simp [Lit.wf, IntKind.min, IntKind.max, IntKind.signed, IntKind.bits] at hw
 exact hw
theorem open_bool' (ht : P.underlying t = some .bool) (h : DataW.trod enc P w base spare held fuel t cs = some x) : ∃ b, cs = [.bool b] := by
 obtain ⟨b, rfl, _⟩ := DataW.trod_bool ht h
 exact ⟨b, rfl⟩
theorem open_SlF {α : Type} {F : Enc α} {good : α → Prop} (ht : P.underlying t = some (.slice e)) (hc : P.cellsOf e = F.sz)
  (hE : ∀ n cs' y, DataW.trod enc P w base spare held n e cs' = some y → ∃ d, cs' = F.enc d ∧ good d) (h : DataW.trod enc P w base spare held fuel t cs = some x) :
  ∃ A n c xs, cs = [.slice A n c] ∧ SlF F w A n xs ∧ n ≤ 9223372036854775807 ∧ ∀ d, d ∈ xs → good d := by
 rcases open_slice ht h with ⟨rfl, _⟩ | ⟨a, l, c, m, n, D, Pl, rfl, _, hl, hm, hmm, _, hx⟩
 ·exact ⟨none, 0, 0, [], rfl, ⟨rfl, SlR.nil _ _ _⟩, by omega, fun z h => by cases h⟩
 ·have hlm : l ≤ m := by rw [hmm]; split <;> omega
  have : Inhabited α := ⟨F.dflt⟩
  have each : ∀ i, i < l → ∃ d : α, good d ∧ ∀ r, r < F.sz → w.cell? (a.add (i * F.sz + r)) = (F.enc d)[r]? := by
   intro i hi
   obtain ⟨cs', h1, h2⟩ := hx i (by omega)
   obtain ⟨d, rfl, hg⟩ := hE _ _ _ h2
   obtain ⟨_, _, h3⟩ := World.cells?_some h1
   refine ⟨d, hg, fun r hr => ?_⟩
   have := h3 r (by rw [hc]; exact hr)
   rw [← this, hc]
   congr 1
   rw [Addr.add_add']
  obtain ⟨d, hd⟩ := choose_lt each
  have hlen : ((List.range l).map d).length = l := by simp
  refine ⟨some a, l, c, (List.range l).map d, rfl, ⟨hlen, ⟨by rw [rows_len, hlen], fun _ => rfl, fun j v hv => ?_⟩⟩, by simp only [maxLen] at hm; omega, fun z hz => ?_⟩
  ·have hj := (List.getElem?_eq_some_iff.1 hv).1
   rw [rows_len, hlen] at hj
   have hp := F.pos
   have hi : j / F.sz < l := Nat.div_lt_of_lt_mul (by rw [Nat.mul_comm]; exact hj)
   have hr : j % F.sz < F.sz := Nat.mod_lt _ hp
   have ej : j / F.sz * F.sz + j % F.sz = j := by rw [Nat.mul_comm]; exact Nat.div_add_mod _ _
   have e1 := (hd (j / F.sz) hi).2 (j % F.sz) hr
   rw [ej] at e1
   show w.cell? (a.add j) = some v
   rw [e1, ← hv]
   have e2 := rows_get (F := F) (xs := (List.range l).map d) (k := j / F.sz) (by rw [hlen]; exact hi) hr
   rw [ej] at e2
   rw [e2]
   have e3 : gat F ((List.range l).map d) (j / F.sz) = d (j / F.sz) := by
    have := gat_get (F := F) (xs := (List.range l).map d) (k := j / F.sz) (by rw [hlen]; exact hi)
    rw [List.getElem?_map, List.getElem?_range hi] at this
    exact (Option.some.inj this).symm
   rw [e3]
  ·obtain ⟨i, hi, rfl⟩ := List.mem_map.1 hz
   exact (hd i (by simpa using hi)).1
theorem open_e64 (ht : P.underlying t = some (.int .i64)) (h : DataW.trod enc P w base spare held fuel t cs = some x) : ∃ n : Int, cs = encI.enc n ∧ In64 n := open_i64 ht h
theorem open_SlE {α : Type} {F : Enc α} {good : α → Prop} (ht : P.underlying t = some (.slice e)) (hc : P.cellsOf e = F.sz)
  (hE : ∀ n cs' y, DataW.trod enc P w base spare held n e cs' = some y → ∃ d, cs' = F.enc d ∧ good d) (h : DataW.trod enc P w base spare held fuel t cs = some x) :
  ∃ A n c xs, cs = [.slice A n c] ∧ SlF F w A n xs ∧ n ≤ c ∧ n ≤ 9223372036854775807 ∧ ∀ d, d ∈ xs → good d := by
 obtain ⟨A, n, c, xs, e1, f, hn, hg⟩ := open_SlF ht hc hE h
 refine ⟨A, n, c, xs, e1, f, ?_, hn, hg⟩
 rcases open_slice ht h with ⟨e2, _⟩ | ⟨a, l, c', m, n', D, Pl, e2, _, hl, _⟩
 ·rw [e1] at e2
  cases e2
  exact Nat.le_refl _
 ·rw [e1] at e2
  cases e2
  exact hl
end
theorem cells_3 : Tryd.prog.cellsOf 3 = 1 := by kernel_rfl
theorem cells_4 : Tryd.prog.cellsOf 4 = 1 := by kernel_rfl
theorem cells_24 : Tryd.prog.cellsOf 24 = 1 := by kernel_rfl
theorem cells_37 : Tryd.prog.cellsOf 37 = 4 := by kernel_rfl
theorem open_ActR {H : Type} {enc : TypeId × Value → H} {w : World} {base : Nat} {spare : Nat → Bool} {held : Bool} {fuel : Nat} {cs : List Value} {x : DataW H × List MemPlace} (h : DataW.trod enc Tryd.prog w base spare held fuel 37 cs = some x) : ∃ d, cs = encActR.enc d ∧ okActR 9223372036854775807 w d := by
  obtain ⟨hl, n, hg⟩ := trod_flds Tryd.underlying37 h
  rw [cells_37] at hl
  obtain ⟨c0, l0, rfl, z0⟩ := list_succ hl
  obtain ⟨c1, l1, rfl, z1⟩ := list_succ z0
  obtain ⟨c2, l2, rfl, z2⟩ := list_succ z1
  obtain ⟨c3, l3, rfl, z3⟩ := list_succ z2
  obtain rfl := list_zero z3
  obtain ⟨y0, g0⟩ := hg 0 _ rfl
  rw [show Tryd.prog.cellsOf _ = 1 from cells_3] at g0
  replace g0 : DataW.trod _ _ _ _ _ _ _ 3 [c0] = _ := g0
  obtain ⟨x0, e0, w0⟩ := open_i64 Tryd.underlying3 g0
  obtain ⟨y1, g1⟩ := hg 1 _ rfl
  rw [show Tryd.prog.cellsOf _ = 1 from cells_3] at g1
  replace g1 : DataW.trod _ _ _ _ _ _ _ 3 [c1] = _ := g1
  obtain ⟨x1, e1, w1⟩ := open_i64 Tryd.underlying3 g1
  obtain ⟨y2, g2⟩ := hg 2 _ rfl
  rw [show Tryd.prog.cellsOf _ = 1 from cells_4] at g2
  replace g2 : DataW.trod _ _ _ _ _ _ _ 4 [c2] = _ := g2
  obtain ⟨x2, e2⟩ := open_bool' Tryd.underlying4 g2
  obtain ⟨y3, g3⟩ := hg 3 _ rfl
  rw [show Tryd.prog.cellsOf _ = 1 from cells_24] at g3
  replace g3 : DataW.trod _ _ _ _ _ _ _ 24 [c3] = _ := g3
  obtain ⟨A3, n3, k3, x3, e3, f3, hc3, hn3, hg3⟩ := open_SlE (F := encI) (good := fun n => In64 n) Tryd.underlying24 cells_3 (fun _ _ _ h_ => open_e64 Tryd.underlying3 h_) g3
  cases e0
  cases e1
  cases e2
  cases e3
  exact ⟨⟨x0, x1, x2, ⟨A3, n3, k3, x3⟩⟩, rfl, ⟨f3, hc3, hn3⟩⟩
namespace fnExactActText
open Go.ChangeShapes Go.WideShapes Go.ChangeAt Go.WideMaps Go.WideElems Go.RowKit
theorem own : ownKnob Tryd.prog.godebug = none := by kernel_rfl
theorem laidOut : laidOutB Tryd.prog = true := by kernel_rfl
def laid3 : List (String × DataW Unit) := [("math/bits.deBruijn32tab", Rows.laid_math_bits_deBruijn32tab), ("math/bits.deBruijn64tab", Rows.laid_math_bits_deBruijn64tab), ("internal/strconv.uint64pow10", Rows.laid_internal_strconv_uint64pow10)]
theorem door_met (os : Os) (args : Array Value) : laidMetH Tryd.prog laid3 ((World.doorLaid Tryd.prog 400 os).forCall (fun _ _ => 0) ⟨#[], args, []⟩).memory :=
  laidMetH_of_parts3 (fuel := 8) (laidMet_of_run' 8 (by kernel_rfl) (by kernel_rfl)) (by kernel_rfl) (by kernel_rfl)
theorem tabData_is : (Rows.laid_internal_strconv_uint64pow10 : DataW Unit) = Go.Lib.tabData .u64 Go.Lib.pow10Tab := by kernel_rfl
theorem tab_of {W : World} (h : laidMetH Tryd.prog laid3 W) : TabOk W := by
  rw [MakeChecks.laidMetH_plain _ _ _ (by kernel_rfl)] at h
  obtain ⟨ps, ⟨_, _, _, _, _, _, _, _, _, _, ⟨_, _, _, _, _, _, _, _, _, _, ⟨g, t, cs, fuel, p, q, hg, ht, hvar, hd, _, _⟩, _⟩, _⟩, _, _⟩ := h
  obtain rfl := Option.some.inj ((show Tryd.prog.globalNamed "internal/strconv.uint64pow10" = some 1 by kernel_rfl).symm.trans hg)
  have hty : (Tryd.prog.globals[1]?).map (·.type) = some t := ht
  obtain rfl := Option.some.inj ((show (Tryd.prog.globals[1]?).map (·.type) = some 96 by kernel_rfl).symm.trans hty)
  rw [tabData_is] at hd
  unfold TabOk Go.Lib.TabIs
  rw [hvar, ← Go.Lib.cells_of_tab Tryd.underlying96 Tryd.underlying89 (show Tryd.prog.cellsOf 89 = 1 by kernel_rfl) (show Tryd.prog.cellsOf 96 = 20 by kernel_rfl) hd]
set_option maxRecDepth 100000 in
set_option maxHeartbeats 1000000 in
theorem lifted (os : Os) (started : os.Started) (H : Type) (enc : TypeId × Value → H) :
    ReturnsInHanded {} Tryd.checked os 4 .any (fun w args => (Rows.fnExactActTextSpec.pre enc Tryd.prog Tryd.f4 [] false w args ∧ laidMetH Tryd.prog laid3 w) ∧ sizedMet enc Tryd.prog Tryd.f4 (OpenSpec.ofChange Rows.fnExactActTextSpec) false w args) (Rows.fnExactActTextSpec.post enc Tryd.prog Tryd.f4 false true false false) := by
  refine returnsInHanded_of_change_and (C := Tryd.checked) (X := fun w _ => laidMetH Tryd.prog laid3 w) (fun _ _ _ hh h => h.of_heap hh) own started (by kernel_rfl) Tryd.func4
    (ChangeSpec.witness_shaped (enc := enc) (C := Tryd.checked) (os := os) (X := fun w _ => laidMetH Tryd.prog laid3 w) false (World.doorLaid Tryd.prog 400 os) #[(Value.agg #[Value.int IntKind.i64 0, Value.int IntKind.i64 0, Value.bool false, Value.slice none 0 0])] 8 rfl (World.shaped_of_RefB (by kernel_rfl) (by kernel_rfl)) (by kernel_rfl) (by kernel_rfl) (by kernel_rfl) (door_met os _)) ?_
  intro W base args ds gs before hval0 hW _ _ hL _
  have hval : ∀ (j : Nat) t v, Tryd.f4.params[j]? = some t → args[j]? = some v → Value.okWide Tryd.prog W .any base t v := hval0
  have hW' := hW
  obtain ⟨p, q, hA0, hV, rfl, hfz, hnd⟩ := hW
  have hA : DataW.TrodAll enc Tryd.prog W 0 (fun _ => true) true Tryd.f4.params.toList args.toList ds p := hA0
  rw [Tryd.params4] at hA hval
  obtain ⟨v0, vs0, d0, ds0, p0, q0, hargs, rfl, rfl, h0, r0⟩ := trodAll_cons hA
  obtain ⟨rfl, rfl, rfl⟩ := trodAll_nil r0
  obtain rfl : args = #[v0] := by cases args; simp_all
  obtain ⟨rfl, rfl⟩ := trodVars_none hV
  have k0 := h0
  have lt0 : ∀ x ∈ p0, x.block < W.heap.size := by obtain ⟨m, hm⟩ := k0; exact DataW.trod_lt m _ _ _ hm
  obtain ⟨cs0, rfl, hsz0⟩ := okWide_struct Tryd.underlying37 (hval 0 37 v0 rfl rfl)
  obtain ⟨l0⟩ := cs0
  obtain ⟨fuel0, hf0⟩ := h0
  replace hf0 : DataW.trod _ _ _ _ _ _ _ 37 l0 = _ := hf0
  obtain ⟨aA, rfl, f_aA⟩ := open_ActR hf0
  have htab := tab_of hL
  clear hA0 hval0
  refine (k49_ aA W f_aA htab).mono fun e W' ⟨he, hst⟩ => ?_
  have bel := hst.toBelow
  subst he
  exact ⟨_, rfl, _, _, _, [], _, [], hW', trodAll_mk1 (shut_bool Tryd.underlying4 _), (trodAll_cons_mk (Below.trod laidOut (by kernel_rfl) (of_decide_eq_true (by kernel_rfl)) k0 bel lt0) trodAll_mk0), rfl, bel.frame _, fun h => by cases h⟩
theorem over : Rows.FnExactActTextSaid :=
  OpenClaim.holds_of_wide 4 Tryd.f4 rfl rfl rfl rfl rfl rfl rfl ⟨rfl, rfl, rfl, rfl, rfl⟩ rfl rfl rfl rfl rfl (by kernel_rfl) Tryd.func4 (by kernel_rfl)
    (of_decide_eq_true (by kernel_rfl)) (by unfold Func.isWrapper; first | (rw [if_pos (by decide +kernel)]; kernel_rfl) | (rw [if_neg (by decide +kernel)]; exact ⟨rfl, rfl⟩))
    (fun os started H enc _ => lifted os started H enc)
end fnExactActText
theorem fnExactActText_holds : Rows.FnExactActTextCardSaid :=
  Claim7.holds_tied_plain_at .later [] [.data, .data, .data] true (true, "8ff4406ad3204752b6d210d978a720f33a215dc23176343fab7496e9f77897be") false
    fnExactActText.over (fun _ h => by cases h) (by kernel_rfl) (fun _ h => by cases h) fnExactActText_row_tie rfl ⟨rfl, rfl⟩ (by kernel_rfl) rfl
    (fun f fn hf hfn => by
      obtain rfl : f = 4 := Option.some.inj ((show Tryd.prog.funcNamed "loop.example/g00661/laws.FnExactActText" = some 4 by kernel_rfl).symm.trans hf) |>.symm
      obtain rfl : fn = Tryd.f4 := (Option.some.inj (Tryd.func4.symm.trans hfn)).symm
      exact ⟨by kernel_rfl, fun j t ht => by
        rw [Tryd.params4] at ht
        have hm : t ∈ [37] := by simpa using Array.mem_of_getElem? ht
        have hall : ([37].all fun u => !Tryd.prog.wantsStandIn u) = true := by kernel_rfl
        exact (show Tryd.prog.wantsStandIn t = false by simpa using List.all_eq_true.1 hall t hm)⟩)
    (by kernel_rfl)
end Go.Proofs.YtpbflopkkfihaaaDoor
