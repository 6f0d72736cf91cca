/- Walks of Go functions, printed by a program (wip/gen). -/
import Derived.Test.YtlmcekfdlgkffaaP6
namespace Go.Proofs.Ytlmcekfdlgkffaa
open Go Go.RowKit
set_option linter.unusedVariables false
set_option linter.unusedSimpArgs false
theorem built_44_0_1_2_3 (x0 : Int) (x1 : Int) (x2 : Bool) (x3 : Option Addr) (x4 : Nat) (x5 : Nat) : Try.prog.built 44 [(0, .int .i64 x0), (1, .int .i64 x1), (2, .bool x2), (3, .slice x3 x4 x5)] = some (List.toArray [.int .i64 x0, .int .i64 x1, .bool x2, .slice x3 x4 x5]) := by kernel_rfl
theorem built_25_0 (x0 : Int) : Try.prog.built 25 [(0, .int .i64 x0)] = some (List.toArray [.int .i64 x0, .bool false, .slice none 0 0, .slice none 0 0]) := by kernel_rfl
theorem c_impl_Vp_csi (p : VpR) (b : Int) (w : World) (f_p : okVpR 1099511627776 w p) (hsm : smVp 1048576 p.dat) (hok : areArgs p.dat.Args = true) (hb : 0 ≤ b ∧ b ≤ 255) :
    Calls Try.prog 139 #[.agg #[i64 p.State, .bool p.Mark, .slice p.Args.A p.Args.n p.Args.c, .slice p.Part.A p.Part.n p.Part.c], i64 b] w fun e w' => ∃ r0 L0 r1 L1, e = .returned (.tuple #[.agg #[i64 r0.State, .bool r0.Mark, .slice r0.Args.A r0.Args.n r0.Args.c, .slice r0.Part.A r0.Part.n r0.Part.c], .agg #[i64 r1.Kind, i64 r1.R, .bool r1.Mark, .slice r1.Args.A r1.Args.n r1.Args.c]]) ∧ St w [] (L0 ++ L1) w' ∧ ownVpR r0 L0 ∧ ownActR r1 L1 ∧ r0.dat = (vpCsi p.dat b).1 ∧ r1.dat = (vpCsi p.dat b).2 := by
 have nb_p_Args := f_p.Args_n
 have nl_p_Args := f_p.Args.len
 have nb_p_Part := f_p.Part_n
 have nl_p_Part := f_p.Part.len
 have hsB : smVp 1099511627776 p.dat := ⟨Nat.le_trans hsm.1 (by decide), Nat.le_trans hsm.2 (by decide)⟩
 have hsa : p.Args.xs.length ≤ 1048576 := hsm.1
 have hsp : p.Part.xs.length ≤ 1048576 := hsm.2
 have hal := f_p.Args.len
 refine enter (vs := [.agg #[i64 p.State, .bool p.Mark, .slice p.Args.A p.Args.n p.Args.c, .slice p.Part.A p.Part.n p.Part.c], i64 b]) 63 Try.func139 rfl Try.ntmps139 rfl rfl ?_
 have hs1 := St.init w
 refine WC.sr ?_
 refine WL.bx hs1 rfl (fun b2 _ hs3 => ?_)
 refine WL.al hs3 Try.zeroValue25 rfl rfl (fun b4 _ hs5 => ?_)
 refine WL.al hs5 Try.zeroValue44 rfl rfl (fun b6 _ hs7 => ?_)
 refine WL.nil ?_
 refine WC.sr ?_
 refine WL.run tbk 1 hs7 [2] rfl ⟨rfl, trivial⟩ ?_
 refine WL.call rfl rfl rfl (Run.call Try.call140 rfl rfl rfl) (c_impl_copyVp p _ (okVpR.st0 f_p hs7) ?_) ?_
 · first | (first | assumption | rfl | omega) | (simp; omega)
 rintro _ whs8 ⟨r9, L110, rfl, hs8, ho11, hd12⟩
 replace hs8 := hs7.callF hs8
 refine ⟨_, rfl, ?_⟩
 replace hs8 := St.back [_, _, _] hs8
 have hlr := ownVpR.len ho11
 have hxr : r9.Args.xs = p.Args.xs := congrArg VpD.Args hd12
 have hpr : r9.Part.xs = p.Part.xs := congrArg VpD.Part hd12
 have hxp : p.dat.Args = p.Args.xs := rfl
 have hlx : r9.Args.xs.length = p.Args.xs.length := by rw [hxr]
 have hly : r9.Part.xs.length = p.Part.xs.length := by rw [hpr]
 skip
 refine WL.al hs8 Try.zeroValue25 rfl rfl (fun b13 _ hs14 => ?_)
 refine WL.st tbk hs14 0 rfl rfl (fun _ hs15 => ?_)
 refine WL.nil ?_
 refine WC.seq (fun K16 hK16 => ?_)
 refine WC.block ?_
 refine WC.sr ?_
 refine WL.run tbk 3 hs15 [] rfl trivial ?_
 refine WL.pA tbk 4 Acts.nil hs15 [3] rfl rfl rfl rfl (fun g_ => ⟨rfl, trivial⟩) ?_
 refine WL.run tbk 1 hs15 [] rfl trivial ?_
 refine WL.pA tbk 3 Acts.nil hs15 [3] rfl rfl rfl rfl (fun g_ => ⟨rfl, trivial⟩) ?_
 refine WL.run tbk 1 hs15 [] rfl trivial ?_
 refine WL.nil ?_
 refine WC.cond rfl (fun h17 => ?_) (fun h17 => ?_)
 ·have qh17 := h17
  try simp only [bf, within_iff, within_not] at qh17
  have hc1 : (b = 63 ∧ p.dat.Args.length = 0) ∧ p.dat.Mark = false := by show (b = 63 ∧ p.Args.xs.length = 0) ∧ p.Mark = false; simp at qh17; exact ⟨⟨qh17.1.1, by omega⟩, qh17.2⟩
  refine WC.sr ?_
  refine WL.run tbk 1 hs15 [] rfl trivial ?_
  refine WL.st tbk hs15 0 rfl rfl (fun _ hs18 => ?_)
  refine WL.nil ?_
  refine WC.sr ?_
  refine WL.run tbk 1 hs18 [0] rfl ⟨rfl, trivial⟩ ?_
  refine WL.val rfl rfl rfl (Run.build rfl rfl rfl rfl (built_44)) ?_
  refine WL.st tbk hs18 2 rfl rfl (fun _ hs19 => ?_)
  refine WL.st tbk hs19 1 rfl rfl (fun _ hs20 => ?_)
  refine WL.nil ?_
  refine WC.ret ?_
  refine ibR (tkR ?_)
  clear hK16
  refine retV2 rfl (resV.cellA tbk hs20 2 rfl rfl rfl rfl) (resV.cellA tbk hs20 1 rfl rfl rfl rfl) ?_
  have hv : vpCsi p.dat b = ({ p.dat with Mark := true }, act0) := by unfold vpCsi; rw [if_pos hc1]
  obtain ⟨L21, L22, hs25, ho23, ho24⟩ := ownVpR.open_ (St.perm hs20 (L' := L110 ++ _) (perm_front (A := [_, _, _, _]) (List.Perm.refl _))) ho11
  have hs26 := (St.perm (St.perm (St.perm (St.perm hs25 (L' := [_] ++ _) (perm_front (A := L21) (perm_front (A := L22) (perm_front (A := [_, _, _]) (List.Perm.refl _))))) (L' := [_] ++ _) (perm_front (A := [_]) (perm_front (A := L21) (perm_front (A := L22) (perm_front (A := [_, _]) (List.Perm.refl _)))))) (L' := [_] ++ _) (perm_front (A := [_, _]) (perm_front (A := L21) (perm_front (A := L22) (perm_front (A := [_]) (List.Perm.refl _)))))) (L' := [_] ++ _) (perm_front (A := [_, _, _]) (perm_front (A := L21) (perm_front (A := L22) (List.Perm.refl _)))))
  obtain ⟨L28, hs27, ho29⟩ := ownVpR.fold ⟨0, false, ⟨_, _, _, _⟩, ⟨_, _, _, _⟩⟩ (St.perm (St.perm hs26 (L' := L22 ++ _) (perm_front (A := [_, _, _, _]) (perm_front (A := L21) (List.Perm.refl _)))) (L' := L21 ++ _) (perm_front (A := L22) (perm_front (A := [_, _, _, _]) (List.Perm.refl _)))) ho23 ho24
  have hs30 := (St.perm (St.perm (St.perm (St.perm hs27 (L' := [_] ++ _) (perm_front (A := L28) (perm_front (A := [_, _, _]) (List.Perm.refl _)))) (L' := [_] ++ _) (perm_front (A := [_]) (perm_front (A := L28) (perm_front (A := [_, _]) (List.Perm.refl _))))) (L' := [_] ++ _) (perm_front (A := [_, _]) (perm_front (A := L28) (perm_front (A := [_]) (List.Perm.refl _))))) (L' := [_] ++ _) (perm_front (A := [_, _, _]) (perm_front (A := L28) (List.Perm.refl _))))
  refine ⟨⟨r9.State, true, SlD.of ho23, SlD.of ho24⟩, _, ⟨0, 0, false, ⟨none, 0, 0, []⟩⟩, _, rfl, (St.drop (St.perm (St.perm hs30 (L' := ([] : Hp) ++ _) (perm_front (A := [_, _, _, _]) (List.Perm.refl _))) (L' := L28 ++ _) (perm_front (A := ([] : Hp)) (perm_front (A := [_, _, _, _]) (List.Perm.refl _)))) (List.Sublist.append_left (List.sublist_append_left ([] : Hp) _) L28)), ?_, ?_, ?_, ?_⟩
  · exact (by exact ho29)
  · exact (OwnF.nil _ _)
  · rw [hv, ← hd12]; rfl
  · rw [hv]; first | exact rfl | rfl
 ·have qh17 := h17
  try simp only [bf, within_iff, within_not] at qh17
  have hc1 : ¬ ((b = 63 ∧ p.dat.Args.length = 0) ∧ p.dat.Mark = false) := by show ¬ ((b = 63 ∧ p.Args.xs.length = 0) ∧ p.Mark = false); rintro ⟨⟨h1, h2⟩, h3⟩; rw [h3] at qh17; simp at qh17; omega
  refine WC.sr ?_
  refine WL.run tbk 1 hs15 [] rfl trivial ?_
  refine WL.call rfl rfl rfl (Run.call Try.call72 rfl rfl rfl) (c_impl_within _ _ _ _) ?_
  rintro _ whs32 ⟨rfl, hs32⟩
  replace hs32 := hs15.call0 hs32
  refine ⟨_, rfl, ?_⟩
  refine WL.run tbk 1 hs32 [] rfl trivial ?_
  refine WL.nil ?_
  refine WC.cond rfl (fun h33 => ?_) (fun h33 => ?_)
  ·have qh33 := h33
   try simp only [bf, within_iff, within_not] at qh33
   have hc2 : 48 ≤ b ∧ b ≤ 57 := by first | omega | (simp at qh33; omega)
   refine WC.sr ?_
   refine WL.run tbk 3 hs32 [3] rfl ⟨by omega, rfl, trivial⟩ ?_
   refine WL.call rfl rfl rfl (Run.call Try.call186 rfl rfl rfl) (c_impl_Vp_digit p _ _ (okVpR.st0 f_p hs32) ?_ ?_ ?_) ?_
   · first | (first | assumption | rfl | omega) | (simp; omega)
   · first | (first | assumption | rfl | omega) | (simp; omega)
   · first | (first | assumption | rfl | omega) | (simp; omega)
   rintro _ whs34 ⟨r35, L136, rfl, hs34, ho37, hd38⟩
   replace hs34 := hs32.callF hs34
   refine ⟨_, rfl, ?_⟩
   replace hs34 := St.back [_, _, _, _] hs34
   refine WL.val rfl rfl rfl (Run.build rfl rfl rfl rfl (built_44)) ?_
   refine WL.st tbk hs34 2 rfl rfl (fun _ hs39 => ?_)
   refine WL.st tbk hs39 1 rfl rfl (fun _ hs40 => ?_)
   refine WL.nil ?_
   refine WC.ret ?_
   refine ibR (tkR ?_)
   clear hK16
   refine retV2 rfl (resV.cellA tbk hs40 2 rfl rfl rfl rfl) (resV.cellA tbk hs40 1 rfl rfl rfl rfl) ?_
   have hv : vpCsi p.dat b = (vpDigit p.dat (b - 48), act0) := by unfold vpCsi; rw [if_neg hc1, if_pos hc2]
   refine ⟨r35, _, ⟨0, 0, false, ⟨none, 0, 0, []⟩⟩, _, rfl, (St.drop (St.perm (St.perm hs40 (L' := ([] : Hp) ++ _) (perm_front (A := [_, _, _, _]) (List.Perm.refl _))) (L' := L136 ++ _) (perm_front (A := ([] : Hp)) (perm_front (A := [_, _, _, _]) (List.Perm.refl _)))) (List.Sublist.append_left (List.sublist_append_left ([] : Hp) _) L136)), ?_, ?_, ?_, ?_⟩
   · exact ho37
   · exact (OwnF.nil _ _)
   · rw [hv]; first | exact hd38 | rfl
   · rw [hv]; first | exact rfl | rfl
  ·have qh33 := h33
   try simp only [bf, within_iff, within_not] at qh33
   have hc2 : ¬ (48 ≤ b ∧ b ≤ 57) := by first | omega | (simp at qh33; omega)
   refine WC.rr tbk hs32 [] rfl trivial ?_
   refine WC.cD rfl (fun qh42 => ?_) (fun qh42 => ?_)
   ·have hc3 : b = 59 := by first | omega | (simp at qh42; omega)
    refine WC.sr ?_
    refine WL.run tbk 1 hs32 [3] rfl ⟨rfl, trivial⟩ ?_
    refine WL.call rfl rfl rfl (Run.call Try.call187 rfl rfl rfl) (c_impl_Vp_next p _ (okVpR.st0 f_p hs32) ?_ ?_) ?_
    · first | (first | assumption | rfl | omega) | (simp; omega)
    · first | (first | assumption | rfl | omega) | (simp; omega)
    rintro _ whs43 ⟨r44, L145, rfl, hs43, ho46, hd47⟩
    replace hs43 := hs32.callF hs43
    refine ⟨_, rfl, ?_⟩
    replace hs43 := St.back [_, _, _, _] hs43
    refine WL.val rfl rfl rfl (Run.build rfl rfl rfl rfl (built_44)) ?_
    refine WL.st tbk hs43 2 rfl rfl (fun _ hs48 => ?_)
    refine WL.st tbk hs48 1 rfl rfl (fun _ hs49 => ?_)
    refine WL.nil ?_
    refine WC.ret ?_
    refine ibR (tkR ?_)
    clear hK16
    refine retV2 rfl (resV.cellA tbk hs49 2 rfl rfl rfl rfl) (resV.cellA tbk hs49 1 rfl rfl rfl rfl) ?_
    have hv : vpCsi p.dat b = (vpNext p.dat, act0) := by unfold vpCsi; rw [if_neg hc1, if_neg hc2, if_pos hc3]
    refine ⟨r44, _, ⟨0, 0, false, ⟨none, 0, 0, []⟩⟩, _, rfl, (St.drop (St.perm (St.perm hs49 (L' := ([] : Hp) ++ _) (perm_front (A := [_, _, _, _]) (List.Perm.refl _))) (L' := L145 ++ _) (perm_front (A := ([] : Hp)) (perm_front (A := [_, _, _, _]) (List.Perm.refl _)))) (List.Sublist.append_left (List.sublist_append_left ([] : Hp) _) L145)), ?_, ?_, ?_, ?_⟩
    · exact ho46
    · exact (OwnF.nil _ _)
    · rw [hv]; first | exact hd47 | rfl
    · rw [hv]; first | exact rfl | rfl
   ·have hc3 : ¬ (b = 59) := by first | omega | (simp at qh42; omega)
    refine WC.sr ?_
    refine WL.run tbk 1 hs32 [] rfl trivial ?_
    refine WL.call rfl rfl rfl (Run.call Try.call72 rfl rfl rfl) (c_impl_within _ _ _ _) ?_
    rintro _ whs51 ⟨rfl, hs51⟩
    replace hs51 := hs32.call0 hs51
    refine ⟨_, rfl, ?_⟩
    refine WL.run tbk 1 hs51 [] rfl trivial ?_
    refine WL.nil ?_
    refine WC.cond rfl (fun h52 => ?_) (fun h52 => ?_)
    ·have qh52 := h52
     try simp only [bf, within_iff, within_not] at qh52
     have hc4 : 64 ≤ b ∧ b ≤ 126 := by first | omega | (simp at qh52; omega)
     refine WC.seq (fun K53 hK53 => ?_)
     refine WC.regionH2 (fun w' => St _ _ _ w') (fun w' => St _ _ _ w') mixed (St.drew (St.drop hs51 (List.Sublist.cons_cons _ (List.Sublist.cons _ (List.Sublist.cons _ (List.Sublist.cons_cons _ (List.Sublist.refl _))))))) (St.drew hs51) (fun whs54 hs54 => ?_)
     replace hs54 : St _ _ _ _ := hs54
     refine WH.take 0 rfl (by kernel_rfl) rfl rfl rfl (St.drop hs54 (List.Sublist.cons_cons _ (List.Sublist.cons _ (List.Sublist.cons _ (List.Sublist.cons_cons _ (List.Sublist.refl _)))))) (fun w_ hs_ => (Run.build rfl rfl rfl rfl (built_25))) ?_
     refine WH.take 1 rfl (by kernel_rfl) rfl rfl rfl (St.drop hs54 (List.Sublist.cons_cons _ (List.Sublist.cons _ (List.Sublist.cons _ (List.Sublist.cons_cons _ (List.Sublist.refl _)))))) (fun w_ hs_ => (Run.move rfl rfl)) ?_
     refine WH.take 2 rfl (by kernel_rfl) rfl rfl rfl (St.drop hs54 (List.Sublist.cons_cons _ (List.Sublist.cons _ (List.Sublist.cons _ (List.Sublist.cons_cons _ (List.Sublist.refl _)))))) (fun w_ hs_ => (Run.field Try.runUnderlying25 rfl rfl rfl Try.sizeOf4 rfl)) ?_
     refine WH.take 3 rfl (by kernel_rfl) rfl rfl rfl (St.drop hs54 (List.Sublist.cons_cons _ (List.Sublist.cons _ (List.Sublist.cons _ (List.Sublist.cons_cons _ (List.Sublist.refl _)))))) (fun w_ hs_ => (Run.loadL (hs_ : St _ _ _ _) 1 Try.isAgg4 rfl rfl rfl rfl)) ?_
     refine WH.take 4 rfl (by kernel_rfl) rfl rfl rfl (St.drop hs54 (List.Sublist.cons_cons _ (List.Sublist.cons _ (List.Sublist.cons _ (List.Sublist.cons_cons _ (List.Sublist.refl _)))))) (fun w_ hs_ => (Run.field Try.runUnderlying25 rfl rfl rfl Try.sizeOf22 rfl)) ?_
     refine WH.take 5 rfl (by kernel_rfl) rfl rfl rfl (St.drop hs54 (List.Sublist.cons_cons _ (List.Sublist.cons _ (List.Sublist.cons _ (List.Sublist.cons_cons _ (List.Sublist.refl _)))))) (fun w_ hs_ => (Run.loadL (hs_ : St _ _ _ _) 0 Try.isAgg22 rfl rfl rfl rfl)) ?_
     refine WH.take 6 rfl (by kernel_rfl) rfl rfl rfl (St.drop hs54 (List.Sublist.cons_cons _ (List.Sublist.cons _ (List.Sublist.cons _ (List.Sublist.cons_cons _ (List.Sublist.refl _)))))) (fun w_ hs_ => (Run.build rfl rfl rfl rfl (built_44_0_1_2_3 _ _ _ _ _ _))) ?_
     refine WH.all [7] (by kernel_rfl) rfl (WHs.cons (i := 7) rfl ?_ WHs.nil)
     refine WL.st tbk hs54 2 rfl rfl (fun _ hs55 => ?_)
     refine WL.nil ⟨(St.drop hs55 (List.Sublist.cons_cons _ (List.Sublist.cons _ (List.Sublist.cons _ (List.Sublist.cons_cons _ (List.Sublist.refl _)))))), ?_⟩
     refine WH.all [8] (by kernel_rfl) rfl (WHs.cons (i := 8) rfl ?_ WHs.nil)
     refine WL.st tbk hs55 1 rfl rfl (fun _ hs56 => ?_)
     refine WL.nil ⟨(St.drop hs56 (List.Sublist.cons_cons _ (List.Sublist.cons _ (List.Sublist.cons _ (List.Sublist.cons_cons _ (List.Sublist.refl _)))))), ?_⟩
     refine WH.done (by kernel_rfl) ?_
     refine hK53 _ _ ?_
     refine WC.ret ?_
     refine ibR (tkR ?_)
     clear hK16
     refine retV2 rfl (resV.cellA tbk hs56 2 rfl rfl rfl rfl) (resV.cellA tbk hs56 1 rfl rfl rfl rfl) ?_
     have hv : vpCsi p.dat b = (vp0, ⟨4, b, p.dat.Mark, p.dat.Args⟩) := by unfold vpCsi; rw [if_neg hc1, if_neg hc2, if_neg hc3, if_pos hc4]
     obtain ⟨L60, hs59, ho61⟩ := ownVpR.fold ⟨0, false, ⟨_, _, _, _⟩, ⟨_, _, _, _⟩⟩ (St.perm (St.perm hs56 (L' := ([] : Hp) ++ _) (perm_front (A := [_, _, _, _]) (List.Perm.refl _))) (L' := ([] : Hp) ++ _) (perm_front (A := ([] : Hp)) (perm_front (A := [_, _, _, _]) (List.Perm.refl _)))) (OwnF.nil _ _) (OwnF.nil _ _)
     have hs62 := (St.perm (St.perm (St.perm (St.perm hs59 (L' := [_] ++ _) (perm_front (A := L60) (perm_front (A := [_, _, _]) (List.Perm.refl _)))) (L' := [_] ++ _) (perm_front (A := [_]) (perm_front (A := L60) (perm_front (A := [_, _]) (List.Perm.refl _))))) (L' := [_] ++ _) (perm_front (A := [_, _]) (perm_front (A := L60) (perm_front (A := [_]) (List.Perm.refl _))))) (L' := [_] ++ _) (perm_front (A := [_, _, _]) (perm_front (A := L60) (List.Perm.refl _))))
     obtain ⟨L63, L64, hs67, ho65, ho66⟩ := ownVpR.open_ (St.perm hs62 (L' := L110 ++ _) (perm_front (A := [_, _, _, _]) (perm_front (A := L60) (List.Perm.refl _)))) ho11
     have hs68 := (St.perm (St.perm (St.perm (St.perm hs67 (L' := [_] ++ _) (perm_front (A := L63) (perm_front (A := L64) (perm_front (A := [_, _, _]) (List.Perm.refl _))))) (L' := [_] ++ _) (perm_front (A := [_]) (perm_front (A := L63) (perm_front (A := L64) (perm_front (A := [_, _]) (List.Perm.refl _)))))) (L' := [_] ++ _) (perm_front (A := [_, _]) (perm_front (A := L63) (perm_front (A := L64) (perm_front (A := [_]) (List.Perm.refl _)))))) (L' := [_] ++ _) (perm_front (A := [_, _, _]) (perm_front (A := L63) (perm_front (A := L64) (List.Perm.refl _)))))
     refine ⟨⟨0, false, ⟨none, 0, 0, []⟩, ⟨none, 0, 0, []⟩⟩, _, ⟨(4), b, p.Mark, SlD.of ho65⟩, _, rfl, (St.drop (St.perm (St.perm hs68 (L' := L63 ++ _) (perm_front (A := [_, _, _, _]) (List.Perm.refl _))) (L' := L60 ++ _) (perm_front (A := L63) (perm_front (A := [_, _, _, _]) (perm_front (A := L64) (List.Perm.refl _))))) (List.Sublist.append_left (List.sublist_append_left L63 _) L60)), ?_, ?_, ?_, ?_⟩
     · exact (by exact ho61)
     · exact ho65
     · rw [hv]; rfl
     · rw [hv]; exact ActD.ext' rfl rfl rfl hxr
    ·have qh52 := h52
     try simp only [bf, within_iff, within_not] at qh52
     have hc4 : ¬ (64 ≤ b ∧ b ≤ 126) := by first | omega | (simp at qh52; omega)
     refine WC.sr ?_
     refine WL.run tbk 3 hs51 [] rfl trivial ?_
     refine WL.pO tbk 2 Acts.nil hs51 [] rfl rfl rfl rfl (fun g_ => trivial) ?_
     refine WL.run tbk 1 hs51 [] rfl trivial ?_
     refine WL.nil ?_
     refine WC.cond rfl (fun h69 => ?_) (fun h69 => ?_)
     ·have qh69 := h69
      try simp only [bf, within_iff, within_not] at qh69
      have hc5 : b < 32 ∨ b = 127 := by first | omega | (simp at qh69; omega)
      refine WC.sr ?_
      refine WL.run tbk 2 hs51 [0] rfl ⟨rfl, trivial⟩ ?_
      refine WL.val rfl rfl rfl (Run.build rfl rfl rfl rfl (built_44_0_1 _ _)) ?_
      refine WL.st tbk hs51 2 rfl rfl (fun _ hs70 => ?_)
      refine WL.st tbk hs70 1 rfl rfl (fun _ hs71 => ?_)
      refine WL.nil ?_
      refine WC.ret ?_
      refine ibR (tkR ?_)
      clear hK16
      refine retV2 rfl (resV.cellA tbk hs71 2 rfl rfl rfl rfl) (resV.cellA tbk hs71 1 rfl rfl rfl rfl) ?_
      have hv : vpCsi p.dat b = (p.dat, ⟨2, b, false, []⟩) := by unfold vpCsi; rw [if_neg hc1, if_neg hc2, if_neg hc3, if_neg hc4, if_pos hc5]
      refine ⟨r9, _, ⟨(2), b, false, ⟨none, 0, 0, []⟩⟩, _, rfl, (St.drop (St.perm (St.perm hs71 (L' := ([] : Hp) ++ _) (perm_front (A := [_, _, _, _]) (List.Perm.refl _))) (L' := L110 ++ _) (perm_front (A := ([] : Hp)) (perm_front (A := [_, _, _, _]) (List.Perm.refl _)))) (List.Sublist.append_left (List.sublist_append_left ([] : Hp) _) L110)), ?_, ?_, ?_, ?_⟩
      · exact ho11
      · exact (OwnF.nil _ _)
      · rw [hv]; exact hd12
      · rw [hv]; first | exact rfl | rfl
     ·have qh69 := h69
      try simp only [bf, within_iff, within_not] at qh69
      have hc5 : ¬ (b < 32 ∨ b = 127) := by first | omega | (simp at qh69; omega)
      refine WC.skip ?_
      refine hK16 _ _ ?_
      refine WC.sr ?_
      refine WL.run tbk 1 hs51 [] rfl trivial ?_
      refine WL.st tbk hs51 0 rfl rfl (fun _ hs73 => ?_)
      refine WL.nil ?_
      refine WC.sr ?_
      refine WL.run tbk 1 hs73 [0] rfl ⟨rfl, trivial⟩ ?_
      refine WL.val rfl rfl rfl (Run.build rfl rfl rfl rfl (built_44)) ?_
      refine WL.st tbk hs73 2 rfl rfl (fun _ hs74 => ?_)
      refine WL.st tbk hs74 1 rfl rfl (fun _ hs75 => ?_)
      refine WL.nil ?_
      refine WC.ret ?_
      refine retV2 rfl (resV.cellA tbk hs75 2 rfl rfl rfl rfl) (resV.cellA tbk hs75 1 rfl rfl rfl rfl) ?_
      have hv : vpCsi p.dat b = ({ p.dat with State := 3 }, act0) := by unfold vpCsi; rw [if_neg hc1, if_neg hc2, if_neg hc3, if_neg hc4, if_neg hc5]
      obtain ⟨L76, L77, hs80, ho78, ho79⟩ := ownVpR.open_ (St.perm hs75 (L' := L110 ++ _) (perm_front (A := [_, _, _, _]) (List.Perm.refl _))) ho11
      have hs81 := (St.perm (St.perm (St.perm (St.perm hs80 (L' := [_] ++ _) (perm_front (A := L76) (perm_front (A := L77) (perm_front (A := [_, _, _]) (List.Perm.refl _))))) (L' := [_] ++ _) (perm_front (A := [_]) (perm_front (A := L76) (perm_front (A := L77) (perm_front (A := [_, _]) (List.Perm.refl _)))))) (L' := [_] ++ _) (perm_front (A := [_, _]) (perm_front (A := L76) (perm_front (A := L77) (perm_front (A := [_]) (List.Perm.refl _)))))) (L' := [_] ++ _) (perm_front (A := [_, _, _]) (perm_front (A := L76) (perm_front (A := L77) (List.Perm.refl _)))))
      obtain ⟨L83, hs82, ho84⟩ := ownVpR.fold ⟨0, false, ⟨_, _, _, _⟩, ⟨_, _, _, _⟩⟩ (St.perm (St.perm hs81 (L' := L77 ++ _) (perm_front (A := [_, _, _, _]) (perm_front (A := L76) (List.Perm.refl _)))) (L' := L76 ++ _) (perm_front (A := L77) (perm_front (A := [_, _, _, _]) (List.Perm.refl _)))) ho78 ho79
      have hs85 := (St.perm (St.perm (St.perm (St.perm hs82 (L' := [_] ++ _) (perm_front (A := L83) (perm_front (A := [_, _, _]) (List.Perm.refl _)))) (L' := [_] ++ _) (perm_front (A := [_]) (perm_front (A := L83) (perm_front (A := [_, _]) (List.Perm.refl _))))) (L' := [_] ++ _) (perm_front (A := [_, _]) (perm_front (A := L83) (perm_front (A := [_]) (List.Perm.refl _))))) (L' := [_] ++ _) (perm_front (A := [_, _, _]) (perm_front (A := L83) (List.Perm.refl _))))
      refine ⟨⟨(3), r9.Mark, SlD.of ho78, SlD.of ho79⟩, _, ⟨0, 0, false, ⟨none, 0, 0, []⟩⟩, _, rfl, (St.drop (St.perm (St.perm hs85 (L' := ([] : Hp) ++ _) (perm_front (A := [_, _, _, _]) (List.Perm.refl _))) (L' := L83 ++ _) (perm_front (A := ([] : Hp)) (perm_front (A := [_, _, _, _]) (List.Perm.refl _)))) (List.Sublist.append_left (List.sublist_append_left ([] : Hp) _) L83)), ?_, ?_, ?_, ?_⟩
      · exact (by exact ho84)
      · exact (OwnF.nil _ _)
      · rw [hv, ← hd12]; rfl
      · rw [hv]; first | exact rfl | rfl
theorem c_impl_Vp_step (p : VpR) (b : Int) (w : World) (f_p : okVpR 1099511627776 w p) (hsm : smVp 1048576 p.dat) (hok : vpOk p.dat = true) (hb : 0 ≤ b ∧ b ≤ 255) :
    Calls Try.prog 73 #[.agg #[i64 p.State, .bool p.Mark, .slice p.Args.A p.Args.n p.Args.c, .slice p.Part.A p.Part.n p.Part.c], i64 b] w fun e w' => ∃ r0 L0 r1 L1, e = .returned (.tuple #[.agg #[i64 r0.State, .bool r0.Mark, .slice r0.Args.A r0.Args.n r0.Args.c, .slice r0.Part.A r0.Part.n r0.Part.c], .agg #[i64 r1.Kind, i64 r1.R, .bool r1.Mark, .slice r1.Args.A r1.Args.n r1.Args.c]]) ∧ St w [] (L0 ++ L1) w' ∧ ownVpR r0 L0 ∧ ownActR r1 L1 ∧ r0.dat = (vpStep p.dat b).1 ∧ r1.dat = (vpStep p.dat b).2 := by
 have nb_p_Args := f_p.Args_n
 have nl_p_Args := f_p.Args.len
 have nb_p_Part := f_p.Part_n
 have nl_p_Part := f_p.Part.len
 have hsB : smVp 1099511627776 p.dat := ⟨Nat.le_trans hsm.1 (by decide), Nat.le_trans hsm.2 (by decide)⟩
 have hsa : p.Args.xs.length ≤ 1048576 := hsm.1
 have hsp : p.Part.xs.length ≤ 1048576 := hsm.2
 refine enter (vs := [.agg #[i64 p.State, .bool p.Mark, .slice p.Args.A p.Args.n p.Args.c, .slice p.Part.A p.Part.n p.Part.c], i64 b]) 58 Try.func73 rfl Try.ntmps73 rfl rfl ?_
 have hs1 := St.init w
 refine WC.sr ?_
 refine WL.bx hs1 rfl (fun b2 _ hs3 => ?_)
 refine WL.al hs3 Try.zeroValue25 rfl rfl (fun b4 _ hs5 => ?_)
 refine WL.al hs5 Try.zeroValue44 rfl rfl (fun b6 _ hs7 => ?_)
 refine WL.nil ?_
 refine WC.seq (fun K8 hK8 => ?_)
 refine WC.block ?_
 refine WC.rr tbk hs7 [] rfl trivial ?_
 refine WC.cD rfl (fun qh9 => ?_) (fun qh9 => ?_)
 ·have k1 : b = 27 := by first | exact qh9 | omega | (simp at qh9; omega)
  refine WC.sr ?_
  refine WL.val rfl rfl rfl (Run.build rfl rfl rfl rfl (built_25_0 _)) ?_
  refine WL.val rfl rfl rfl (Run.build rfl rfl rfl rfl (built_44)) ?_
  refine WL.st tbk hs7 1 rfl rfl (fun _ hs10 => ?_)
  refine WL.st tbk hs10 0 rfl rfl (fun _ hs11 => ?_)
  refine WL.nil ?_
  refine WC.ret ?_
  refine ibR (tkR ?_)
  clear hK8
  refine retV2 rfl (resV.cellA tbk hs11 1 rfl rfl rfl rfl) (resV.cellA tbk hs11 0 rfl rfl rfl rfl) ?_
  have hv : vpStep p.dat b = (⟨1, false, [], []⟩, act0) := by unfold vpStep; rw [if_pos k1]
  obtain ⟨L15, hs14, ho16⟩ := ownVpR.fold ⟨0, false, ⟨_, _, _, _⟩, ⟨_, _, _, _⟩⟩ (St.perm (St.perm hs11 (L' := ([] : Hp) ++ _) (perm_front (A := [_, _, _]) (List.Perm.refl _))) (L' := ([] : Hp) ++ _) (perm_front (A := ([] : Hp)) (perm_front (A := [_, _, _]) (List.Perm.refl _)))) (OwnF.nil _ _) (OwnF.nil _ _)
  have hs17 := (St.perm (St.perm (St.perm hs14 (L' := [_] ++ _) (perm_front (A := L15) (perm_front (A := [_, _]) (List.Perm.refl _)))) (L' := [_] ++ _) (perm_front (A := [_]) (perm_front (A := L15) (perm_front (A := [_]) (List.Perm.refl _))))) (L' := [_] ++ _) (perm_front (A := [_, _]) (perm_front (A := L15) (List.Perm.refl _))))
  refine ⟨⟨(1), false, ⟨none, 0, 0, []⟩, ⟨none, 0, 0, []⟩⟩, _, ⟨0, 0, false, ⟨none, 0, 0, []⟩⟩, _, rfl, (St.drop (St.perm (St.perm hs17 (L' := ([] : Hp) ++ _) (perm_front (A := [_, _, _]) (List.Perm.refl _))) (L' := L15 ++ _) (perm_front (A := ([] : Hp)) (perm_front (A := [_, _, _]) (List.Perm.refl _)))) (List.Sublist.append_left (List.sublist_append_left ([] : Hp) _) L15)), ?_, ?_, ?_, ?_⟩
  · exact (by exact ho16)
  · exact (OwnF.nil _ _)
  · rw [hv]; first | exact rfl | rfl
  · rw [hv]; first | exact rfl | rfl
 ·have k1 : ¬ (b = 27) := by first | exact qh9 | omega | (simp at qh9; omega)
  refine WC.sr ?_
  refine WL.run tbk 3 hs7 [] rfl trivial ?_
  refine WL.pO tbk 2 Acts.nil hs7 [] rfl rfl rfl rfl (fun g_ => trivial) ?_
  refine WL.run tbk 1 hs7 [] rfl trivial ?_
  refine WL.nil ?_
  refine WC.cond rfl (fun h19 => ?_) (fun h19 => ?_)
  ·have qh19 := h19
   try simp only [bf, within_iff, within_not] at qh19
   have k2 : b = 24 ∨ b = 26 := by first | exact qh19 | omega | (simp at qh19; omega)
   refine WC.sr ?_
   refine WL.val rfl rfl rfl (Run.build rfl rfl rfl rfl (built_25)) ?_
   refine WL.val rfl rfl rfl (Run.build rfl rfl rfl rfl (built_44)) ?_
   refine WL.st tbk hs7 1 rfl rfl (fun _ hs20 => ?_)
   refine WL.st tbk hs20 0 rfl rfl (fun _ hs21 => ?_)
   refine WL.nil ?_
   refine WC.ret ?_
   refine ibR (tkR ?_)
   clear hK8
   refine retV2 rfl (resV.cellA tbk hs21 1 rfl rfl rfl rfl) (resV.cellA tbk hs21 0 rfl rfl rfl rfl) ?_
   have hv : vpStep p.dat b = (vp0, act0) := by unfold vpStep; rw [if_neg k1, if_pos k2]
   obtain ⟨L25, hs24, ho26⟩ := ownVpR.fold ⟨0, false, ⟨_, _, _, _⟩, ⟨_, _, _, _⟩⟩ (St.perm (St.perm hs21 (L' := ([] : Hp) ++ _) (perm_front (A := [_, _, _]) (List.Perm.refl _))) (L' := ([] : Hp) ++ _) (perm_front (A := ([] : Hp)) (perm_front (A := [_, _, _]) (List.Perm.refl _)))) (OwnF.nil _ _) (OwnF.nil _ _)
   have hs27 := (St.perm (St.perm (St.perm hs24 (L' := [_] ++ _) (perm_front (A := L25) (perm_front (A := [_, _]) (List.Perm.refl _)))) (L' := [_] ++ _) (perm_front (A := [_]) (perm_front (A := L25) (perm_front (A := [_]) (List.Perm.refl _))))) (L' := [_] ++ _) (perm_front (A := [_, _]) (perm_front (A := L25) (List.Perm.refl _))))
   refine ⟨⟨0, false, ⟨none, 0, 0, []⟩, ⟨none, 0, 0, []⟩⟩, _, ⟨0, 0, false, ⟨none, 0, 0, []⟩⟩, _, rfl, (St.drop (St.perm (St.perm hs27 (L' := ([] : Hp) ++ _) (perm_front (A := [_, _, _]) (List.Perm.refl _))) (L' := L25 ++ _) (perm_front (A := ([] : Hp)) (perm_front (A := [_, _, _]) (List.Perm.refl _)))) (List.Sublist.append_left (List.sublist_append_left ([] : Hp) _) L25)), ?_, ?_, ?_, ?_⟩
   · exact (by exact ho26)
   · exact (OwnF.nil _ _)
   · rw [hv]; first | exact rfl | rfl
   · rw [hv]; first | exact rfl | rfl
  ·have qh19 := h19
   try simp only [bf, within_iff, within_not] at qh19
   have k2 : ¬ (b = 24 ∨ b = 26) := by first | exact qh19 | omega | (simp at qh19; omega)
   refine WC.skip ?_
   refine hK8 _ _ ?_
   refine WC.seq (fun K29 hK29 => ?_)
   refine WC.rr tbk hs7 [2] rfl ⟨rfl, trivial⟩ ?_
   refine WC.block ?_
   refine WC.rr tbk hs7 [] rfl trivial ?_
   refine WC.cD rfl (fun qh30 => ?_) (fun qh30 => ?_)
   ·have k3 : p.dat.State = 0 := by show p.State = 0; first | exact qh30 | omega | (simp at qh30; omega)
    refine WC.sr ?_
    refine WL.run tbk 2 hs7 [2] rfl ⟨rfl, trivial⟩ ?_
    refine WL.call rfl rfl rfl (Run.call Try.call138 rfl rfl rfl) (c_impl_Vp_plain p _ _ (okVpR.st0 f_p hs7) ?_) ?_
    · first | (first | assumption | rfl | omega) | (simp; omega)
    rintro _ whs31 ⟨r032, L033, r134, L135, rfl, hs31, ho36, ho37, hd038, hd139⟩
    replace hs31 := hs7.callF hs31
    refine ⟨_, rfl, ?_⟩
    replace hs31 := St.assoc hs31
    replace hs31 := St.back2 [_, _, _] hs31
    refine WL.run tbk 2 hs31 [] rfl trivial ?_
    refine WL.st tbk hs31 1 rfl rfl (fun _ hs40 => ?_)
    refine WL.st tbk hs40 0 rfl rfl (fun _ hs41 => ?_)
    refine WL.nil ?_
    refine WC.ret ?_
    refine ibR (tkR ?_)
    clear hK29
    refine retV2 rfl (resV.cellA tbk hs41 1 rfl rfl rfl rfl) (resV.cellA tbk hs41 0 rfl rfl rfl rfl) ?_
    have hv : vpStep p.dat b = vpPlain p.dat.Part b := by unfold vpStep; rw [if_neg k1, if_neg k2, if_pos k3]
    refine ⟨r032, _, r134, _, rfl, (St.drop (St.perm (St.perm hs41 (L' := L135 ++ _) (perm_front (A := [_, _, _]) (perm_front (A := L033) (List.Perm.refl _)))) (L' := L033 ++ _) (perm_front (A := L135) (perm_front (A := [_, _, _]) (List.Perm.refl _)))) (List.Sublist.append_left (List.sublist_append_left L135 _) L033)), ?_, ?_, ?_, ?_⟩
    · exact ho36
    · exact ho37
    · rw [hv]; first | exact hd038 | rfl
    · rw [hv]; first | exact hd139 | rfl
   ·have k3 : ¬ (p.dat.State = 0) := by show ¬ (p.State = 0); first | exact qh30 | omega | (simp at qh30; omega)
    refine WC.rr tbk hs7 [] rfl trivial ?_
    refine WC.cD rfl (fun qh42 => ?_) (fun qh42 => ?_)
    ·have k4 : p.dat.State = 1 := by show p.State = 1; first | exact qh42 | omega | (simp at qh42; omega)
     refine WC.seq (fun K43 hK43 => ?_)
     refine WC.block ?_
     refine WC.rr tbk hs7 [] rfl trivial ?_
     refine WC.cD rfl (fun qh44 => ?_) (fun qh44 => ?_)
     ·have k5 : b = 91 := by first | exact qh44 | omega | (simp at qh44; omega)
      refine WC.sr ?_
      refine WL.val rfl rfl rfl (Run.build rfl rfl rfl rfl (built_25_0 _)) ?_
      refine WL.val rfl rfl rfl (Run.build rfl rfl rfl rfl (built_44)) ?_
      refine WL.st tbk hs7 1 rfl rfl (fun _ hs45 => ?_)
      refine WL.st tbk hs45 0 rfl rfl (fun _ hs46 => ?_)
      refine WL.nil ?_
      refine WC.ret ?_
      refine ibR (tkR (ibR (tkR ?_)))
      clear hK43 hK29
      refine retV2 rfl (resV.cellA tbk hs46 1 rfl rfl rfl rfl) (resV.cellA tbk hs46 0 rfl rfl rfl rfl) ?_
      have hv : vpStep p.dat b = (⟨2, false, [], []⟩, act0) := by unfold vpStep; rw [if_neg k1, if_neg k2, if_neg k3, if_pos k4, if_pos k5]
      obtain ⟨L50, hs49, ho51⟩ := ownVpR.fold ⟨0, false, ⟨_, _, _, _⟩, ⟨_, _, _, _⟩⟩ (St.perm (St.perm hs46 (L' := ([] : Hp) ++ _) (perm_front (A := [_, _, _]) (List.Perm.refl _))) (L' := ([] : Hp) ++ _) (perm_front (A := ([] : Hp)) (perm_front (A := [_, _, _]) (List.Perm.refl _)))) (OwnF.nil _ _) (OwnF.nil _ _)
      have hs52 := (St.perm (St.perm (St.perm hs49 (L' := [_] ++ _) (perm_front (A := L50) (perm_front (A := [_, _]) (List.Perm.refl _)))) (L' := [_] ++ _) (perm_front (A := [_]) (perm_front (A := L50) (perm_front (A := [_]) (List.Perm.refl _))))) (L' := [_] ++ _) (perm_front (A := [_, _]) (perm_front (A := L50) (List.Perm.refl _))))
      refine ⟨⟨(2), false, ⟨none, 0, 0, []⟩, ⟨none, 0, 0, []⟩⟩, _, ⟨0, 0, false, ⟨none, 0, 0, []⟩⟩, _, rfl, (St.drop (St.perm (St.perm hs52 (L' := ([] : Hp) ++ _) (perm_front (A := [_, _, _]) (List.Perm.refl _))) (L' := L50 ++ _) (perm_front (A := ([] : Hp)) (perm_front (A := [_, _, _]) (List.Perm.refl _)))) (List.Sublist.append_left (List.sublist_append_left ([] : Hp) _) L50)), ?_, ?_, ?_, ?_⟩
      · exact (by exact ho51)
      · exact (OwnF.nil _ _)
      · rw [hv]; first | exact rfl | rfl
      · rw [hv]; first | exact rfl | rfl
     ·have k5 : ¬ (b = 91) := by first | exact qh44 | omega | (simp at qh44; omega)
      refine WC.sr ?_
      refine WL.run tbk 1 hs7 [] rfl trivial ?_
      refine WL.call rfl rfl rfl (Run.call Try.call72 rfl rfl rfl) (c_impl_within _ _ _ _) ?_
      rintro _ whs54 ⟨rfl, hs54⟩
      replace hs54 := hs7.call0 hs54
      refine ⟨_, rfl, ?_⟩
      refine WL.run tbk 1 hs54 [] rfl trivial ?_
      refine WL.nil ?_
      refine WC.cond rfl (fun h55 => ?_) (fun h55 => ?_)
      ·have qh55 := h55
       try simp only [bf, within_iff, within_not] at qh55
       have k6 : 48 ≤ b ∧ b ≤ 126 := by first | exact qh55 | omega | (simp at qh55; omega)
       refine WC.sr ?_
       refine WL.val rfl rfl rfl (Run.build rfl rfl rfl rfl (built_25)) ?_
       refine WL.run tbk 1 hs54 [] rfl trivial ?_
       refine WL.val rfl rfl rfl (Run.build rfl rfl rfl rfl (built_44_0_1 _ _)) ?_
       refine WL.st tbk hs54 1 rfl rfl (fun _ hs56 => ?_)
       refine WL.st tbk hs56 0 rfl rfl (fun _ hs57 => ?_)
       refine WL.nil ?_
       refine WC.ret ?_
       refine ibR (tkR (ibR (tkR ?_)))
       clear hK43 hK29
       refine retV2 rfl (resV.cellA tbk hs57 1 rfl rfl rfl rfl) (resV.cellA tbk hs57 0 rfl rfl rfl rfl) ?_
       have hv : vpStep p.dat b = (vp0, ⟨3, b, false, []⟩) := by unfold vpStep; rw [if_neg k1, if_neg k2, if_neg k3, if_pos k4, if_neg k5, if_pos k6]
       obtain ⟨L61, hs60, ho62⟩ := ownVpR.fold ⟨0, false, ⟨_, _, _, _⟩, ⟨_, _, _, _⟩⟩ (St.perm (St.perm hs57 (L' := ([] : Hp) ++ _) (perm_front (A := [_, _, _]) (List.Perm.refl _))) (L' := ([] : Hp) ++ _) (perm_front (A := ([] : Hp)) (perm_front (A := [_, _, _]) (List.Perm.refl _)))) (OwnF.nil _ _) (OwnF.nil _ _)
       have hs63 := (St.perm (St.perm (St.perm hs60 (L' := [_] ++ _) (perm_front (A := L61) (perm_front (A := [_, _]) (List.Perm.refl _)))) (L' := [_] ++ _) (perm_front (A := [_]) (perm_front (A := L61) (perm_front (A := [_]) (List.Perm.refl _))))) (L' := [_] ++ _) (perm_front (A := [_, _]) (perm_front (A := L61) (List.Perm.refl _))))
       refine ⟨⟨0, false, ⟨none, 0, 0, []⟩, ⟨none, 0, 0, []⟩⟩, _, ⟨(3), b, false, ⟨none, 0, 0, []⟩⟩, _, rfl, (St.drop (St.perm (St.perm hs63 (L' := ([] : Hp) ++ _) (perm_front (A := [_, _, _]) (List.Perm.refl _))) (L' := L61 ++ _) (perm_front (A := ([] : Hp)) (perm_front (A := [_, _, _]) (List.Perm.refl _)))) (List.Sublist.append_left (List.sublist_append_left ([] : Hp) _) L61)), ?_, ?_, ?_, ?_⟩
       · exact (by exact ho62)
       · exact (OwnF.nil _ _)
       · rw [hv]; first | exact rfl | rfl
       · rw [hv]; first | exact rfl | rfl
      ·have qh55 := h55
       try simp only [bf, within_iff, within_not] at qh55
       have k6 : ¬ (48 ≤ b ∧ b ≤ 126) := by first | exact qh55 | omega | (simp at qh55; omega)
       refine WC.skip ?_
       refine hK43 _ _ ?_
       refine WC.sr ?_
       refine WL.val rfl rfl rfl (Run.build rfl rfl rfl rfl (built_25)) ?_
       refine WL.val rfl rfl rfl (Run.build rfl rfl rfl rfl (built_44)) ?_
       refine WL.st tbk hs54 1 rfl rfl (fun _ hs65 => ?_)
       refine WL.st tbk hs65 0 rfl rfl (fun _ hs66 => ?_)
       refine WL.nil ?_
       refine WC.ret ?_
       refine ibR (tkR ?_)
       clear hK29
       refine retV2 rfl (resV.cellA tbk hs66 1 rfl rfl rfl rfl) (resV.cellA tbk hs66 0 rfl rfl rfl rfl) ?_
       have hv : vpStep p.dat b = (vp0, act0) := by unfold vpStep; rw [if_neg k1, if_neg k2, if_neg k3, if_pos k4, if_neg k5, if_neg k6]
       obtain ⟨L70, hs69, ho71⟩ := ownVpR.fold ⟨0, false, ⟨_, _, _, _⟩, ⟨_, _, _, _⟩⟩ (St.perm (St.perm hs66 (L' := ([] : Hp) ++ _) (perm_front (A := [_, _, _]) (List.Perm.refl _))) (L' := ([] : Hp) ++ _) (perm_front (A := ([] : Hp)) (perm_front (A := [_, _, _]) (List.Perm.refl _)))) (OwnF.nil _ _) (OwnF.nil _ _)
       have hs72 := (St.perm (St.perm (St.perm hs69 (L' := [_] ++ _) (perm_front (A := L70) (perm_front (A := [_, _]) (List.Perm.refl _)))) (L' := [_] ++ _) (perm_front (A := [_]) (perm_front (A := L70) (perm_front (A := [_]) (List.Perm.refl _))))) (L' := [_] ++ _) (perm_front (A := [_, _]) (perm_front (A := L70) (List.Perm.refl _))))
       refine ⟨⟨0, false, ⟨none, 0, 0, []⟩, ⟨none, 0, 0, []⟩⟩, _, ⟨0, 0, false, ⟨none, 0, 0, []⟩⟩, _, rfl, (St.drop (St.perm (St.perm hs72 (L' := ([] : Hp) ++ _) (perm_front (A := [_, _, _]) (List.Perm.refl _))) (L' := L70 ++ _) (perm_front (A := ([] : Hp)) (perm_front (A := [_, _, _]) (List.Perm.refl _)))) (List.Sublist.append_left (List.sublist_append_left ([] : Hp) _) L70)), ?_, ?_, ?_, ?_⟩
       · exact (by exact ho71)
       · exact (OwnF.nil _ _)
       · rw [hv]; first | exact rfl | rfl
       · rw [hv]; first | exact rfl | rfl
    ·have k4 : ¬ (p.dat.State = 1) := by show ¬ (p.State = 1); first | exact qh42 | omega | (simp at qh42; omega)
     refine WC.rr tbk hs7 [] rfl trivial ?_
     refine WC.cD rfl (fun qh74 => ?_) (fun qh74 => ?_)
     ·have k7 : p.dat.State = 2 := by show p.State = 2; first | exact qh74 | omega | (simp at qh74; omega)
      have hoa : areArgs p.dat.Args = true := by have h_ := hok; rw [vpOk_csi (.inl k7), Bool.and_eq_true] at h_; exact h_.1
      refine WC.sr ?_
      refine WL.run tbk 2 hs7 [2] rfl ⟨rfl, trivial⟩ ?_
      refine WL.call rfl rfl rfl (Run.call Try.call139 rfl rfl rfl) (c_impl_Vp_csi p _ _ (okVpR.st0 f_p hs7) ?_ ?_ ?_) ?_
      · first | (first | assumption | rfl | omega) | (simp; omega)
      · first | (first | assumption | rfl | omega) | (simp; omega)
      · first | (first | assumption | rfl | omega) | (simp; omega)
      rintro _ whs75 ⟨r076, L077, r178, L179, rfl, hs75, ho80, ho81, hd082, hd183⟩
      replace hs75 := hs7.callF hs75
      refine ⟨_, rfl, ?_⟩
      replace hs75 := St.assoc hs75
      replace hs75 := St.back2 [_, _, _] hs75
      refine WL.run tbk 2 hs75 [] rfl trivial ?_
      refine WL.st tbk hs75 1 rfl rfl (fun _ hs84 => ?_)
      refine WL.st tbk hs84 0 rfl rfl (fun _ hs85 => ?_)
      refine WL.nil ?_
      refine WC.ret ?_
      refine ibR (tkR ?_)
      clear hK29
      refine retV2 rfl (resV.cellA tbk hs85 1 rfl rfl rfl rfl) (resV.cellA tbk hs85 0 rfl rfl rfl rfl) ?_
      have hv : vpStep p.dat b = vpCsi p.dat b := by unfold vpStep; rw [if_neg k1, if_neg k2, if_neg k3, if_neg k4, if_pos k7]
      refine ⟨r076, _, r178, _, rfl, (St.drop (St.perm (St.perm hs85 (L' := L179 ++ _) (perm_front (A := [_, _, _]) (perm_front (A := L077) (List.Perm.refl _)))) (L' := L077 ++ _) (perm_front (A := L179) (perm_front (A := [_, _, _]) (List.Perm.refl _)))) (List.Sublist.append_left (List.sublist_append_left L179 _) L077)), ?_, ?_, ?_, ?_⟩
      · exact ho80
      · exact ho81
      · rw [hv]; first | exact hd082 | rfl
      · rw [hv]; first | exact hd183 | rfl
     ·have k7 : ¬ (p.dat.State = 2) := by show ¬ (p.State = 2); first | exact qh74 | omega | (simp at qh74; omega)
      refine WC.skip ?_
      refine hK29 _ _ ?_
      refine WC.seq (fun K86 hK86 => ?_)
      refine WC.sr ?_
      refine WL.run tbk 1 hs7 [] rfl trivial ?_
      refine WL.call rfl rfl rfl (Run.call Try.call72 rfl rfl rfl) (c_impl_within _ _ _ _) ?_
      rintro _ whs87 ⟨rfl, hs87⟩
      replace hs87 := hs7.call0 hs87
      refine ⟨_, rfl, ?_⟩
      refine WL.nil ?_
      refine WC.cond rfl (fun h88 => ?_) (fun h88 => ?_)
      ·have qh88 := h88
       try simp only [bf, within_iff, within_not] at qh88
       have k8 : 64 ≤ b ∧ b ≤ 126 := by first | exact qh88 | omega | (simp at qh88; omega)
       refine WC.sr ?_
       refine WL.val rfl rfl rfl (Run.build rfl rfl rfl rfl (built_25)) ?_
       refine WL.val rfl rfl rfl (Run.build rfl rfl rfl rfl (built_44)) ?_
       refine WL.st tbk hs87 1 rfl rfl (fun _ hs89 => ?_)
       refine WL.st tbk hs89 0 rfl rfl (fun _ hs90 => ?_)
       refine WL.nil ?_
       refine WC.ret ?_
       refine tkR ?_
       clear hK86
       refine retV2 rfl (resV.cellA tbk hs90 1 rfl rfl rfl rfl) (resV.cellA tbk hs90 0 rfl rfl rfl rfl) ?_
       have hv : vpStep p.dat b = (vp0, act0) := by unfold vpStep; rw [if_neg k1, if_neg k2, if_neg k3, if_neg k4, if_neg k7, if_pos k8]
       obtain ⟨L94, hs93, ho95⟩ := ownVpR.fold ⟨0, false, ⟨_, _, _, _⟩, ⟨_, _, _, _⟩⟩ (St.perm (St.perm hs90 (L' := ([] : Hp) ++ _) (perm_front (A := [_, _, _]) (List.Perm.refl _))) (L' := ([] : Hp) ++ _) (perm_front (A := ([] : Hp)) (perm_front (A := [_, _, _]) (List.Perm.refl _)))) (OwnF.nil _ _) (OwnF.nil _ _)
       have hs96 := (St.perm (St.perm (St.perm hs93 (L' := [_] ++ _) (perm_front (A := L94) (perm_front (A := [_, _]) (List.Perm.refl _)))) (L' := [_] ++ _) (perm_front (A := [_]) (perm_front (A := L94) (perm_front (A := [_]) (List.Perm.refl _))))) (L' := [_] ++ _) (perm_front (A := [_, _]) (perm_front (A := L94) (List.Perm.refl _))))
       refine ⟨⟨0, false, ⟨none, 0, 0, []⟩, ⟨none, 0, 0, []⟩⟩, _, ⟨0, 0, false, ⟨none, 0, 0, []⟩⟩, _, rfl, (St.drop (St.perm (St.perm hs96 (L' := ([] : Hp) ++ _) (perm_front (A := [_, _, _]) (List.Perm.refl _))) (L' := L94 ++ _) (perm_front (A := ([] : Hp)) (perm_front (A := [_, _, _]) (List.Perm.refl _)))) (List.Sublist.append_left (List.sublist_append_left ([] : Hp) _) L94)), ?_, ?_, ?_, ?_⟩
       · exact (by exact ho95)
       · exact (OwnF.nil _ _)
       · rw [hv]; first | exact rfl | rfl
       · rw [hv]; first | exact rfl | rfl
      ·have qh88 := h88
       try simp only [bf, within_iff, within_not] at qh88
       have k8 : ¬ (64 ≤ b ∧ b ≤ 126) := by first | exact qh88 | omega | (simp at qh88; omega)
       refine WC.skip ?_
       refine hK86 _ _ ?_
       refine WC.sr ?_
       refine WL.run tbk 1 hs87 [2] rfl ⟨rfl, trivial⟩ ?_
       refine WL.call rfl rfl rfl (Run.call Try.call140 rfl rfl rfl) (c_impl_copyVp p _ (okVpR.st0 f_p hs87) ?_) ?_
       · first | (first | assumption | rfl | omega) | (simp; omega)
       rintro _ whs98 ⟨r99, L1100, rfl, hs98, ho101, hd102⟩
       replace hs98 := hs87.callF hs98
       refine ⟨_, rfl, ?_⟩
       replace hs98 := St.back [_, _, _] hs98
       refine WL.val rfl rfl rfl (Run.build rfl rfl rfl rfl (built_44)) ?_
       refine WL.st tbk hs98 1 rfl rfl (fun _ hs103 => ?_)
       refine WL.st tbk hs103 0 rfl rfl (fun _ hs104 => ?_)
       refine WL.nil ?_
       refine WC.ret ?_
       refine retV2 rfl (resV.cellA tbk hs104 1 rfl rfl rfl rfl) (resV.cellA tbk hs104 0 rfl rfl rfl rfl) ?_
       have hv : vpStep p.dat b = (p.dat, act0) := by unfold vpStep; rw [if_neg k1, if_neg k2, if_neg k3, if_neg k4, if_neg k7, if_neg k8]
       refine ⟨r99, _, ⟨0, 0, false, ⟨none, 0, 0, []⟩⟩, _, rfl, (St.drop (St.perm (St.perm hs104 (L' := ([] : Hp) ++ _) (perm_front (A := [_, _, _]) (List.Perm.refl _))) (L' := L1100 ++ _) (perm_front (A := ([] : Hp)) (perm_front (A := [_, _, _]) (List.Perm.refl _)))) (List.Sublist.append_left (List.sublist_append_left ([] : Hp) _) L1100)), ?_, ?_, ?_, ?_⟩
       · exact ho101
       · exact (OwnF.nil _ _)
       · rw [hv]; first | exact hd102 | rfl
       · rw [hv]; first | exact rfl | rfl
theorem c_impl_VpByte (p : VpR) (b : Int) (w : World) (f_p : okVpR 1099511627776 w p) (hsm : smVp 1048576 p.dat) :
    Calls Try.prog 20 #[.agg #[i64 p.State, .bool p.Mark, .slice p.Args.A p.Args.n p.Args.c, .slice p.Part.A p.Part.n p.Part.c], i64 b] w fun e w' => ∃ r0 L0 r1 L1, e = .returned (.tuple #[.agg #[i64 r0.State, .bool r0.Mark, .slice r0.Args.A r0.Args.n r0.Args.c, .slice r0.Part.A r0.Part.n r0.Part.c], .agg #[i64 r1.Kind, i64 r1.R, .bool r1.Mark, .slice r1.Args.A r1.Args.n r1.Args.c]]) ∧ St w [] (L0 ++ L1) w' ∧ ownVpR r0 L0 ∧ ownActR r1 L1 ∧ r0.dat = (vpByte p.dat b).1 ∧ r1.dat = (vpByte p.dat b).2 := by
 have nb_p_Args := f_p.Args_n
 have nl_p_Args := f_p.Args.len
 have nb_p_Part := f_p.Part_n
 have nl_p_Part := f_p.Part.len
 have hsB : smVp 1099511627776 p.dat := ⟨Nat.le_trans hsm.1 (by decide), Nat.le_trans hsm.2 (by decide)⟩
 have hsa : p.Args.xs.length ≤ 1048576 := hsm.1
 have hsp : p.Part.xs.length ≤ 1048576 := hsm.2
 refine enter (vs := [.agg #[i64 p.State, .bool p.Mark, .slice p.Args.A p.Args.n p.Args.c, .slice p.Part.A p.Part.n p.Part.c], i64 b]) 21 Try.func20 rfl Try.ntmps20 rfl rfl ?_
 have hs1 := St.init w
 refine WC.sr ?_
 refine WL.bx hs1 rfl (fun b2 _ hs3 => ?_)
 refine WL.al hs3 Try.zeroValue25 rfl rfl (fun b4 _ hs5 => ?_)
 refine WL.al hs5 Try.zeroValue44 rfl rfl (fun b6 _ hs7 => ?_)
 refine WL.nil ?_
 refine WC.seq (fun K8 hK8 => ?_)
 refine WC.sr ?_
 refine WL.run tbk 1 hs7 [2] rfl ⟨rfl, trivial⟩ ?_
 refine WL.call rfl rfl rfl (Run.call Try.call71 rfl rfl rfl) (c_impl_VpOk p _ (okVpR.st0 f_p hs7)) ?_
 rintro _ whs9 ⟨rfl, hs9⟩
 replace hs9 := hs7.call0 hs9
 refine ⟨_, rfl, ?_⟩
 refine WL.run tbk 2 hs9 [] rfl trivial ?_
 apply WL.gO 3 Acts.nil hs9 rfl
 ·intro g10 J11
  have qg10 := g10
  try simp only [bf, within_iff, within_not] at qg10
  refine WL.runA tbk 1 (Acts.nil.cons (j := 3) rfl g10) hs9 [] rfl trivial ?_
  refine WL.call (wantF rfl g10) rfl rfl (Run.call Try.call72 rfl rfl rfl) (c_impl_within _ _ _ _) ?_
  rintro _ whs12 ⟨rfl, hs12⟩
  replace hs12 := hs9.call0 hs12
  refine ⟨_, rfl, ?_⟩
  refine WL.runA tbk 1 (Acts.nil.cons (j := 3) rfl g10) hs12 [] rfl trivial ?_
  exact WL.eO 3 Acts.nil J11 hs12 g10 rfl rfl
 ·intro _ hs13
  refine WL.nil ?_
  refine WC.cond rfl (fun h14 => ?_) (fun h14 => ?_)
  ·have qh14 := h14
   try simp only [bf, within_iff, within_not] at qh14
   have k0 : ¬ (vpOk p.dat = true ∧ 0 ≤ b ∧ b ≤ 255) := by rintro ⟨h1, h2⟩; rw [h1] at qh14; simp [within] at qh14; omega
   refine WC.sr ?_
   refine WL.val rfl rfl rfl (Run.build rfl rfl rfl rfl (built_25)) ?_
   refine WL.val rfl rfl rfl (Run.build rfl rfl rfl rfl (built_44)) ?_
   refine WL.st tbk hs13 1 rfl rfl (fun _ hs15 => ?_)
   refine WL.st tbk hs15 0 rfl rfl (fun _ hs16 => ?_)
   refine WL.nil ?_
   refine WC.ret ?_
   refine tkR ?_
   clear hK8
   refine retV2 rfl (resV.cellA tbk hs16 1 rfl rfl rfl rfl) (resV.cellA tbk hs16 0 rfl rfl rfl rfl) ?_
   have hv : vpByte p.dat b = (vp0, act0) := by unfold vpByte; rw [if_neg k0]
   obtain ⟨L20, hs19, ho21⟩ := ownVpR.fold ⟨0, false, ⟨_, _, _, _⟩, ⟨_, _, _, _⟩⟩ (St.perm (St.perm hs16 (L' := ([] : Hp) ++ _) (perm_front (A := [_, _, _]) (List.Perm.refl _))) (L' := ([] : Hp) ++ _) (perm_front (A := ([] : Hp)) (perm_front (A := [_, _, _]) (List.Perm.refl _)))) (OwnF.nil _ _) (OwnF.nil _ _)
   have hs22 := (St.perm (St.perm (St.perm hs19 (L' := [_] ++ _) (perm_front (A := L20) (perm_front (A := [_, _]) (List.Perm.refl _)))) (L' := [_] ++ _) (perm_front (A := [_]) (perm_front (A := L20) (perm_front (A := [_]) (List.Perm.refl _))))) (L' := [_] ++ _) (perm_front (A := [_, _]) (perm_front (A := L20) (List.Perm.refl _))))
   refine ⟨⟨0, false, ⟨none, 0, 0, []⟩, ⟨none, 0, 0, []⟩⟩, _, ⟨0, 0, false, ⟨none, 0, 0, []⟩⟩, _, rfl, (St.drop (St.perm (St.perm hs22 (L' := ([] : Hp) ++ _) (perm_front (A := [_, _, _]) (List.Perm.refl _))) (L' := L20 ++ _) (perm_front (A := ([] : Hp)) (perm_front (A := [_, _, _]) (List.Perm.refl _)))) (List.Sublist.append_left (List.sublist_append_left ([] : Hp) _) L20)), ?_, ?_, ?_, ?_⟩
   · exact (by exact ho21)
   · exact (OwnF.nil _ _)
   · rw [hv]; first | exact rfl | rfl
   · rw [hv]; first | exact rfl | rfl
  ·have qh14 := h14
   try simp only [bf, within_iff, within_not] at qh14
   have k0 : vpOk p.dat = true ∧ 0 ≤ b ∧ b ≤ 255 := by first | exact qh14 | (simp [within] at qh14; exact ⟨qh14.1, by omega⟩)
   have hok := k0.1
   refine WC.skip ?_
   refine hK8 _ _ ?_
   refine WC.sr ?_
   refine WL.run tbk 2 hs13 [2] rfl ⟨rfl, trivial⟩ ?_
   refine WL.call rfl rfl rfl (Run.call Try.call73 rfl rfl rfl) (c_impl_Vp_step p _ _ (okVpR.st0 f_p hs13) ?_ ?_ ?_) ?_
   · first | (first | assumption | rfl | omega) | (simp; omega)
   · first | (first | assumption | rfl | omega) | (simp; omega)
   · first | (first | assumption | rfl | omega) | (simp; omega)
   rintro _ whs24 ⟨r025, L026, r127, L128, rfl, hs24, ho29, ho30, hd031, hd132⟩
   replace hs24 := hs13.callF hs24
   refine ⟨_, rfl, ?_⟩
   replace hs24 := St.assoc hs24
   replace hs24 := St.back2 [_, _, _] hs24
   refine WL.run tbk 2 hs24 [] rfl trivial ?_
   refine WL.st tbk hs24 1 rfl rfl (fun _ hs33 => ?_)
   refine WL.st tbk hs33 0 rfl rfl (fun _ hs34 => ?_)
   refine WL.nil ?_
   refine WC.ret ?_
   refine retV2 rfl (resV.cellA tbk hs34 1 rfl rfl rfl rfl) (resV.cellA tbk hs34 0 rfl rfl rfl rfl) ?_
   have hv : vpByte p.dat b = vpStep p.dat b := by unfold vpByte; rw [if_pos k0]
   refine ⟨r025, _, r127, _, rfl, (St.drop (St.perm (St.perm hs34 (L' := L128 ++ _) (perm_front (A := [_, _, _]) (perm_front (A := L026) (List.Perm.refl _)))) (L' := L026 ++ _) (perm_front (A := L128) (perm_front (A := [_, _, _]) (List.Perm.refl _)))) (List.Sublist.append_left (List.sublist_append_left L128 _) L026)), ?_, ?_, ?_, ?_⟩
   · exact ho29
   · exact ho30
   · rw [hv]; first | exact hd031 | rfl
   · rw [hv]; first | exact hd132 | rfl
end Go.Proofs.Ytlmcekfdlgkffaa
