/- Walks of Go functions, printed by a program (wip/gen). -/
import Derived.Test.YtlmcekfdlgkffaaP4
namespace Go.Proofs.Ytlmcekfdlgkffaa
open Go Go.RowKit
set_option linter.unusedVariables false
set_option linter.unusedSimpArgs false
theorem built_25_0_1_2_3 (x0 : Int) (x1 : Bool) (x2 : Option Addr) (x3 : Nat) (x4 : Nat) (x5 : Option Addr) (x6 : Nat) (x7 : Nat) : Try.prog.built 25 [(0, .int .i64 x0), (1, .bool x1), (2, .slice x2 x3 x4), (3, .slice x5 x6 x7)] = some (List.toArray [.int .i64 x0, .bool x1, .slice x2 x3 x4, .slice x5 x6 x7]) := by kernel_rfl
theorem built_25 : Try.prog.built 25 [] = some (List.toArray [.int .i64 0, .bool false, .slice none 0 0, .slice none 0 0]) := by kernel_rfl
theorem built_44_0_1 (x0 : Int) (x1 : Int) : Try.prog.built 44 [(0, .int .i64 x0), (1, .int .i64 x1)] = some (List.toArray [.int .i64 x0, .int .i64 x1, .bool false, .slice none 0 0]) := by kernel_rfl
theorem built_25_3 (x0 : Option Addr) (x1 : Nat) (x2 : Nat) : Try.prog.built 25 [(3, .slice x0 x1 x2)] = some (List.toArray [.int .i64 0, .bool false, .slice none 0 0, .slice x0 x1 x2]) := by kernel_rfl
theorem built_44 : Try.prog.built 44 [] = some (List.toArray [.int .i64 0, .int .i64 0, .bool false, .slice none 0 0]) := by kernel_rfl
theorem c_impl_copyVp (p : VpR) (w : World) (f_p : okVpR 1099511627776 w p) (hsm : smVp 1048576 p.dat) :
    Calls Try.prog 140 #[.agg #[i64 p.State, .bool p.Mark, .slice p.Args.A p.Args.n p.Args.c, .slice p.Part.A p.Part.n p.Part.c]] w fun e w' => ∃ r L1, e = .returned (.agg #[i64 r.State, .bool r.Mark, .slice r.Args.A r.Args.n r.Args.c, .slice r.Part.A r.Part.n r.Part.c]) ∧ St w [] L1 w' ∧ ownVpR r L1 ∧ r.dat = p.dat := by
 have nb_p_Args := f_p.Args_n
 have nl_p_Args := f_p.Args.len
 have nb_p_Part := f_p.Part_n
 have nl_p_Part := f_p.Part.len
 have hsB : smVp 1099511627776 p.dat := ⟨Nat.le_trans hsm.1 (by decide), Nat.le_trans hsm.2 (by decide)⟩
 have hsa : p.Args.xs.length ≤ 1048576 := hsm.1
 have hsp : p.Part.xs.length ≤ 1048576 := hsm.2
 refine enter (vs := [.agg #[i64 p.State, .bool p.Mark, .slice p.Args.A p.Args.n p.Args.c, .slice p.Part.A p.Part.n p.Part.c]]) 14 Try.func140 rfl Try.ntmps140 rfl rfl ?_
 have hs1 := St.init w
 refine WC.sr ?_
 refine WL.bx hs1 rfl (fun b2 _ hs3 => ?_)
 refine WL.al hs3 Try.zeroValue25 rfl rfl (fun b4 _ hs5 => ?_)
 refine WL.nil ?_
 refine WC.seq (fun K6 hK6 => ?_)
 refine WC.regionH2 (fun w' => St _ _ _ w') (fun w' => St _ _ _ w') mixed (St.drew (St.drop hs5 (List.sublist_append_right [_] _))) (St.drew hs5) (fun whs7 hs7 => ?_)
 replace hs7 : St _ _ _ _ := hs7
 refine WH.take 0 rfl (by kernel_rfl) rfl rfl rfl (St.drop hs7 (List.sublist_append_right [_] _)) (fun w_ hs_ => (Run.field Try.runUnderlying25 rfl rfl rfl Try.sizeOf3 rfl)) ?_
 refine WH.take 1 rfl (by kernel_rfl) rfl rfl rfl (St.drop hs7 (List.sublist_append_right [_] _)) (fun w_ hs_ => (Run.loadL (hs_ : St _ _ _ _) 0 Try.isAgg3 rfl rfl rfl rfl)) ?_
 refine WH.take 2 rfl (by kernel_rfl) rfl rfl rfl (St.drop hs7 (List.sublist_append_right [_] _)) (fun w_ hs_ => (Run.field Try.runUnderlying25 rfl rfl rfl Try.sizeOf4 rfl)) ?_
 refine WH.take 3 rfl (by kernel_rfl) rfl rfl rfl (St.drop hs7 (List.sublist_append_right [_] _)) (fun w_ hs_ => (Run.loadL (hs_ : St _ _ _ _) 0 Try.isAgg4 rfl rfl rfl rfl)) ?_
 refine WH.take 4 rfl (by kernel_rfl) rfl rfl rfl (St.drop hs7 (List.sublist_append_right [_] _)) (fun w_ hs_ => (Run.field Try.runUnderlying25 rfl rfl rfl Try.sizeOf22 rfl)) ?_
 refine WH.take 5 rfl (by kernel_rfl) rfl rfl rfl (St.drop hs7 (List.sublist_append_right [_] _)) (fun w_ hs_ => (Run.loadL (hs_ : St _ _ _ _) 0 Try.isAgg22 rfl rfl rfl rfl)) ?_
 refine WH.take 7 rfl (by kernel_rfl) rfl rfl rfl (St.drop hs7 (List.sublist_append_right [_] _)) (fun w_ hs_ => (Run.field Try.runUnderlying25 rfl rfl rfl Try.sizeOf23 rfl)) ?_
 refine WH.take 8 rfl (by kernel_rfl) rfl rfl rfl (St.drop hs7 (List.sublist_append_right [_] _)) (fun w_ hs_ => (Run.loadL (hs_ : St _ _ _ _) 0 Try.isAgg23 rfl rfl rfl rfl)) ?_
 refine WH.all [6] (by kernel_rfl) rfl (WHs.cons (i := 6) rfl ?_ WHs.nil)
 refine WL.call rfl rfl rfl (Run.call Try.call188 rfl rfl rfl) (c_slices_Clone_int_int _ _ _ _ _ (SlF.st0 f_p.Args hs7) ?_) ?_
 · first | assumption | rfl | omega
 rintro _ whs8 ⟨A9, c10, L111, rfl, hs8, ho12⟩
 replace hs8 := hs7.callF hs8
 refine ⟨_, rfl, ?_⟩
 replace hs8 := St.back [_, _] hs8
 refine WL.nil ⟨(St.drop (St.perm (St.drop hs8 (List.sublist_append_right [_] _)) (L' := L111 ++ _) (perm_front (A := [_]) (List.Perm.refl _))) (List.sublist_append_right L111 _)), ?_⟩
 refine WH.all [9] (by kernel_rfl) rfl (WHs.cons (i := 9) rfl ?_ WHs.nil)
 refine WL.call rfl rfl rfl (Run.call Try.call184 rfl rfl rfl) (c_slices_Clone_byte_byte _ _ _ _ _ (SlF.st0 f_p.Part hs8) ?_) ?_
 · first | assumption | rfl | omega
 rintro _ whs13 ⟨A14, c15, L116, rfl, hs13, ho17⟩
 replace hs13 := hs8.callF hs13
 refine ⟨_, rfl, ?_⟩
 replace hs13 := St.back [_, _] hs13
 refine WL.nil ⟨(St.drop (St.perm (St.drop (St.perm (St.drop hs13 (List.sublist_append_right [_] _)) (L' := L116 ++ _) (perm_front (A := [_]) (List.Perm.refl _))) (List.sublist_append_right L116 _)) (L' := L111 ++ _) (perm_front (A := [_]) (List.Perm.refl _))) (List.sublist_append_right L111 _)), ?_⟩
 refine WH.take 10 rfl (by kernel_rfl) rfl rfl rfl (St.drop (St.perm (St.drop (St.perm (St.drop hs13 (List.sublist_append_right [_] _)) (L' := L116 ++ _) (perm_front (A := [_]) (List.Perm.refl _))) (List.sublist_append_right L116 _)) (L' := L111 ++ _) (perm_front (A := [_]) (List.Perm.refl _))) (List.sublist_append_right L111 _)) (fun w_ hs_ => (Run.build rfl rfl rfl rfl (built_25_0_1_2_3 _ _ _ _ _ _ _ _))) ?_
 refine WH.all [11] (by kernel_rfl) rfl (WHs.cons (i := 11) rfl ?_ WHs.nil)
 refine WL.st tbk hs13 0 rfl rfl (fun _ hs18 => ?_)
 refine WL.nil ⟨(St.drop (St.perm (St.drop (St.perm (St.drop hs18 (List.sublist_append_right [_] _)) (L' := L116 ++ _) (perm_front (A := [_]) (List.Perm.refl _))) (List.sublist_append_right L116 _)) (L' := L111 ++ _) (perm_front (A := [_]) (List.Perm.refl _))) (List.sublist_append_right L111 _)), ?_⟩
 refine WH.done (by kernel_rfl) ?_
 refine hK6 _ _ ?_
 refine WC.ret ?_
 refine retV1 rfl (resV.cellA tbk hs18 0 rfl rfl rfl rfl) ?_
 obtain ⟨L20, hs19, ho21⟩ := ownVpR.fold ⟨0, false, ⟨_, _, _, _⟩, ⟨_, _, _, _⟩⟩ (St.perm (St.perm hs18 (L' := L116 ++ _) (perm_front (A := [_, _]) (List.Perm.refl _))) (L' := L111 ++ _) (perm_front (A := L116) (perm_front (A := [_, _]) (List.Perm.refl _)))) ho12 ho17
 have hs22 := (St.perm (St.perm hs19 (L' := [_] ++ _) (perm_front (A := L20) (perm_front (A := [_]) (List.Perm.refl _)))) (L' := [_] ++ _) (perm_front (A := [_]) (perm_front (A := L20) (List.Perm.refl _))))
 refine ⟨⟨p.State, p.Mark, SlD.of ho12, SlD.of ho17⟩, _, rfl, (St.keep1 (St.perm hs22 (L' := L20 ++ _) (perm_front (A := [_, _]) (List.Perm.refl _)))), ?_, ?_⟩
 · exact (by exact ho21)
 · exact VpD.ext' rfl rfl rfl rfl
theorem c_spec_l08Copy (p : VpR) (w : World) (f_p : okVpR 1099511627776 w p) (hsm : smVp 1048576 p.dat) :
    Calls Try.prog 67 #[.agg #[i64 p.State, .bool p.Mark, .slice p.Args.A p.Args.n p.Args.c, .slice p.Part.A p.Part.n p.Part.c]] w fun e w' => ∃ r L1, e = .returned (.agg #[i64 r.State, .bool r.Mark, .slice r.Args.A r.Args.n r.Args.c, .slice r.Part.A r.Part.n r.Part.c]) ∧ St w [] L1 w' ∧ ownVpR r L1 ∧ r.dat = p.dat := by
 have nb_p_Args := f_p.Args_n
 have nl_p_Args := f_p.Args.len
 have nb_p_Part := f_p.Part_n
 have nl_p_Part := f_p.Part.len
 have hsB : smVp 1099511627776 p.dat := ⟨Nat.le_trans hsm.1 (by decide), Nat.le_trans hsm.2 (by decide)⟩
 have hsa : p.Args.xs.length ≤ 1048576 := hsm.1
 have hsp : p.Part.xs.length ≤ 1048576 := hsm.2
 refine enter (vs := [.agg #[i64 p.State, .bool p.Mark, .slice p.Args.A p.Args.n p.Args.c, .slice p.Part.A p.Part.n p.Part.c]]) 14 Try.func67 rfl Try.ntmps67 rfl rfl ?_
 have hs1 := St.init w
 refine WC.sr ?_
 refine WL.bx hs1 rfl (fun b2 _ hs3 => ?_)
 refine WL.al hs3 Try.zeroValue25 rfl rfl (fun b4 _ hs5 => ?_)
 refine WL.nil ?_
 refine WC.sr ?_
 refine WL.buildF (F := encI) hs5 ([]) Try.runUnderlying22 Try.sizeOf3 Try.zeroValue3 rfl rfl rfl rfl rfl rfl rfl rfl rfl rfl rfl rfl (fun A9 c10 L6 whs7 hs7 ho8 => ?_)
 replace hs7 := St.back [_, _] hs7
 refine WL.run tbk 2 hs7 [1] rfl ⟨rfl, trivial⟩ ?_
 refine WL.appendG (St.perm hs7 (L' := L6 ++ _) (perm_front (A := [_, _]) (List.Perm.refl _))) ho8 (SlF.src (SlF.st0 f_p.Args hs7) Try.underlying22) Try.underlying22 info_3 rfl rfl rfl rfl rfl rfl rfl rfl rfl rfl ?_ (fun A14 c15 L11 whs12 hs12 ho13 => ?_)
 · first | omega | (simp; omega)
 replace hs12 := St.back [_, _] hs12
 refine WL.run tbk 1 hs12 [] rfl trivial ?_
 refine WL.st tbk hs12 1 rfl rfl (fun _ hs16 => ?_)
 refine WL.nil ?_
 refine WC.sr ?_
 refine WL.buildF (F := encB) hs16 ([]) Try.runUnderlying23 Try.sizeOf5 Try.zeroValue5 rfl rfl rfl rfl rfl rfl rfl rfl rfl rfl rfl rfl (fun A20 c21 L17 whs18 hs18 ho19 => ?_)
 replace hs18 := St.back [_, _] hs18
 refine WL.run tbk 2 hs18 [1] rfl ⟨rfl, trivial⟩ ?_
 refine WL.appendG (St.perm hs18 (L' := L17 ++ _) (perm_front (A := [_, _]) (List.Perm.refl _))) ho19 (SlF.src (SlF.st0 f_p.Part hs18) Try.underlying23) Try.underlying23 info_5 rfl rfl rfl rfl rfl rfl rfl rfl rfl rfl ?_ (fun A25 c26 L22 whs23 hs23 ho24 => ?_)
 · first | omega | (simp; omega)
 replace hs23 := St.back [_, _] hs23
 refine WL.run tbk 1 hs23 [] rfl trivial ?_
 refine WL.st tbk hs23 1 rfl rfl (fun _ hs27 => ?_)
 refine WL.nil ?_
 refine WC.sr ?_
 refine WL.run tbk 1 hs27 [1] rfl ⟨rfl, trivial⟩ ?_
 refine WL.st tbk hs27 0 rfl rfl (fun _ hs28 => ?_)
 refine WL.nil ?_
 refine WC.ret ?_
 refine retV1 rfl (resV.cellA tbk hs28 0 rfl rfl rfl rfl) ?_
 obtain ⟨L30, hs29, ho31⟩ := ownVpR.fold ⟨0, false, ⟨_, _, _, _⟩, ⟨_, _, _, _⟩⟩ (St.perm (St.perm hs28 (L' := L22 ++ _) (perm_front (A := [_, _]) (List.Perm.refl _))) (L' := L11 ++ _) (perm_front (A := L22) (perm_front (A := [_, _]) (List.Perm.refl _)))) ho13 ho24
 have hs32 := (St.perm (St.perm hs29 (L' := [_] ++ _) (perm_front (A := L30) (perm_front (A := [_]) (List.Perm.refl _)))) (L' := [_] ++ _) (perm_front (A := [_]) (perm_front (A := L30) (List.Perm.refl _))))
 refine ⟨⟨p.State, p.Mark, SlD.of ho13, SlD.of ho24⟩, _, rfl, (St.keep1 (St.perm hs32 (L' := L30 ++ _) (perm_front (A := [_, _]) (List.Perm.refl _)))), ?_, ?_⟩
 · exact (by exact ho31)
 · exact VpD.ext' rfl rfl rfl rfl
theorem c_spec_l08Plain (A_p : Option Addr) (n_p c_p : Nat) (p : List UInt8) (b : Int) (w : World) (f_p : SlF encB w A_p n_p p) (hn : n_p ≤ 1048576) :
    Calls Try.prog 68 #[.slice A_p n_p c_p, i64 b] w fun e w' => ∃ r0 L0 r1 L1, e = .returned (.tuple #[.agg #[i64 r0.State, .bool r0.Mark, .slice r0.Args.A r0.Args.n r0.Args.c, .slice r0.Part.A r0.Part.n r0.Part.c], .agg #[i64 r1.Kind, i64 r1.R, .bool r1.Mark, .slice r1.Args.A r1.Args.n r1.Args.c]]) ∧ St w [] (L0 ++ L1) w' ∧ ownVpR r0 L0 ∧ ownActR r1 L1 ∧ r0.dat = (vpPlain p b).1 ∧ r1.dat = (vpPlain p b).2 := by
 have hpl := f_p.len
 refine enter (vs := [.slice A_p n_p c_p, i64 b]) 49 Try.func68 rfl Try.ntmps68 rfl rfl ?_
 have hs1 := St.init w
 refine WC.sr ?_
 refine WL.al hs1 Try.zeroValue25 rfl rfl (fun b2 _ hs3 => ?_)
 refine WL.al hs3 Try.zeroValue44 rfl rfl (fun b4 _ hs5 => ?_)
 refine WL.nil ?_
 refine WC.seq (fun K6 hK6 => ?_)
 refine WC.sr ?_
 refine WL.run tbk 3 hs5 [] rfl trivial ?_
 refine WL.pO tbk 2 Acts.nil hs5 [] rfl rfl rfl rfl (fun g_ => trivial) ?_
 refine WL.nil ?_
 refine WC.cond rfl (fun h7 => ?_) (fun h7 => ?_)
 ·have qh7 := h7
  try simp only [bf, within_iff, within_not] at qh7
  refine WC.sr ?_
  refine WL.val rfl rfl rfl (Run.build rfl rfl rfl rfl (built_25)) ?_
  refine WL.run tbk 1 hs5 [] rfl trivial ?_
  refine WL.val rfl rfl rfl (Run.build rfl rfl rfl rfl (built_44_0_1 _ _)) ?_
  refine WL.st tbk hs5 1 rfl rfl (fun _ hs8 => ?_)
  refine WL.st tbk hs8 0 rfl rfl (fun _ hs9 => ?_)
  refine WL.nil ?_
  refine WC.ret ?_
  refine tkR ?_
  clear hK6
  refine retV2 rfl (resV.cellA tbk hs9 1 rfl rfl rfl rfl) (resV.cellA tbk hs9 0 rfl rfl rfl rfl) ?_
  have hv : vpPlain p b = (vp0, ⟨2, b, false, []⟩) := by unfold vpPlain; rw [if_pos (by simp at qh7; omega)]
  try simp only [List.nil_append] at *
  obtain ⟨L13, hs12, ho14⟩ := ownVpR.fold ⟨0, false, ⟨_, _, _, _⟩, ⟨_, _, _, _⟩⟩ (St.perm (St.perm hs9 (L' := ([] : Hp) ++ _) (perm_front (A := [_, _]) (List.Perm.refl _))) (L' := ([] : Hp) ++ _) (perm_front (A := ([] : Hp)) (perm_front (A := [_, _]) (List.Perm.refl _)))) (OwnF.nil _ _) (OwnF.nil _ _)
  have hs15 := (St.perm (St.perm hs12 (L' := [_] ++ _) (perm_front (A := L13) (perm_front (A := [_]) (List.Perm.refl _)))) (L' := [_] ++ _) (perm_front (A := [_]) (perm_front (A := L13) (List.Perm.refl _))))
  refine ⟨⟨0, false, ⟨none, 0, 0, []⟩, ⟨none, 0, 0, []⟩⟩, _, ⟨(2), b, false, ⟨none, 0, 0, []⟩⟩, _, rfl, (St.drop (St.perm (St.perm hs15 (L' := ([] : Hp) ++ _) (perm_front (A := [_, _]) (List.Perm.refl _))) (L' := L13 ++ _) (perm_front (A := ([] : Hp)) (perm_front (A := [_, _]) (List.Perm.refl _)))) (List.Sublist.append_left (List.sublist_append_left ([] : Hp) _) L13)), ?_, ?_, ?_, ?_⟩
  · exact (by exact ho14)
  · exact (OwnF.nil _ _)
  · rw [hv]; rfl
  · rw [hv]; rfl
 ·have qh7 := h7
  try simp only [bf, within_iff, within_not] at qh7
  have hn1 : ¬ (b < 32 ∨ b = 127) := by simp at qh7; omega
  refine WC.skip ?_
  refine hK6 _ _ ?_
  refine WC.seq (fun K17 hK17 => ?_)
  refine WC.rr tbk hs5 [] rfl trivial ?_
  refine WC.cD rfl (fun qh18 => ?_) (fun qh18 => ?_)
  ·refine WC.sr ?_
   refine WL.val rfl rfl rfl (Run.build rfl rfl rfl rfl (built_25)) ?_
   refine WL.run tbk 1 hs5 [] rfl trivial ?_
   refine WL.val rfl rfl rfl (Run.build rfl rfl rfl rfl (built_44_0_1 _ _)) ?_
   refine WL.st tbk hs5 1 rfl rfl (fun _ hs19 => ?_)
   refine WL.st tbk hs19 0 rfl rfl (fun _ hs20 => ?_)
   refine WL.nil ?_
   refine WC.ret ?_
   refine tkR ?_
   clear hK17
   refine retV2 rfl (resV.cellA tbk hs20 1 rfl rfl rfl rfl) (resV.cellA tbk hs20 0 rfl rfl rfl rfl) ?_
   have hv : vpPlain p b = (vp0, ⟨1, b, false, []⟩) := by unfold vpPlain; rw [if_neg (by simp at *; omega), if_pos (by omega)]
   try simp only [List.nil_append] at *
   obtain ⟨L24, hs23, ho25⟩ := ownVpR.fold ⟨0, false, ⟨_, _, _, _⟩, ⟨_, _, _, _⟩⟩ (St.perm (St.perm hs20 (L' := ([] : Hp) ++ _) (perm_front (A := [_, _]) (List.Perm.refl _))) (L' := ([] : Hp) ++ _) (perm_front (A := ([] : Hp)) (perm_front (A := [_, _]) (List.Perm.refl _)))) (OwnF.nil _ _) (OwnF.nil _ _)
   have hs26 := (St.perm (St.perm hs23 (L' := [_] ++ _) (perm_front (A := L24) (perm_front (A := [_]) (List.Perm.refl _)))) (L' := [_] ++ _) (perm_front (A := [_]) (perm_front (A := L24) (List.Perm.refl _))))
   refine ⟨⟨0, false, ⟨none, 0, 0, []⟩, ⟨none, 0, 0, []⟩⟩, _, ⟨(1), b, false, ⟨none, 0, 0, []⟩⟩, _, rfl, (St.drop (St.perm (St.perm hs26 (L' := ([] : Hp) ++ _) (perm_front (A := [_, _]) (List.Perm.refl _))) (L' := L24 ++ _) (perm_front (A := ([] : Hp)) (perm_front (A := [_, _]) (List.Perm.refl _)))) (List.Sublist.append_left (List.sublist_append_left ([] : Hp) _) L24)), ?_, ?_, ?_, ?_⟩
   · exact (by exact ho25)
   · exact (OwnF.nil _ _)
   · rw [hv]; rfl
   · rw [hv]; rfl
  ·refine WC.skip ?_
   refine hK17 _ _ ?_
   refine WC.sr ?_
   refine WL.buildF (F := encB) hs5 ([]) Try.runUnderlying23 Try.sizeOf5 Try.zeroValue5 rfl rfl rfl rfl rfl rfl rfl rfl rfl rfl rfl rfl (fun A31 c32 L28 whs29 hs29 ho30 => ?_)
   replace hs29 := St.back [_, _] hs29
   refine WL.run tbk 1 hs29 [] rfl trivial ?_
   refine WL.appendG (St.perm hs29 (L' := L28 ++ _) (perm_front (A := [_, _]) (List.Perm.refl _))) ho30 (SlF.src (SlF.st0 f_p hs29) Try.underlying23) Try.underlying23 info_5 rfl rfl rfl rfl rfl rfl rfl rfl rfl rfl ?_ (fun A36 c37 L33 whs34 hs34 ho35 => ?_)
   · first | omega | (simp; omega)
   replace hs34 := St.back [_, _] hs34
   refine WL.run tbk 2 hs34 [] rfl trivial ?_
   refine WL.buildSlice hs34 Try.runUnderlying23 Try.sizeOf5 Try.zeroValue5 rfl rfl rfl rfl rfl rfl rfl rfl rfl rfl (fun b38 whs39 hs39 => ?_)
   refine WL.appendG (St.perm hs39 (L' := L33 ++ _) (perm_front (A := [_, _, _]) (List.Perm.refl _))) ho35 (srcB1 Try.underlying23 (hs39.own _ (nthL_mem (i := 0) rfl)).1) Try.underlying23 info_5 rfl rfl rfl rfl rfl rfl rfl rfl rfl rfl ?_ (fun A43 c44 L40 whs41 hs41 ho42 => ?_)
   · first | omega | (simp; omega)
   replace hs41 := St.back [_, _, _] hs41
   refine WL.run tbk 1 hs41 [] rfl trivial ?_
   refine WL.nil ?_
   refine WC.sr ?_
   refine WL.run tbk 1 hs41 [] rfl trivial ?_
   refine WL.call rfl rfl rfl (Run.call Try.call136 rfl rfl rfl) (c_spec_RuneRead _ _ _ _ _ (SlF.ofOwn ho42 (fun p_ hp_ => (hs41.own p_ (List.mem_append_right [_, _, _] (List.mem_append_left _ hp_))).1)) (OwnF.cap ho42) ?_) ?_
   · first | (first | assumption | rfl | omega) | (simp; omega)
   rintro _ whs45 ⟨rfl, hs45⟩
   replace hs45 := hs41.call0 hs45
   refine ⟨_, rfl, ?_⟩
   refine WL.run tbk 5 hs45 [] rfl trivial ?_
   refine WL.nil ?_
   refine WC.seq (fun K46 hK46 => ?_)
   refine WC.rr tbk hs45 [] rfl trivial ?_
   refine WC.cD rfl (fun qh47 => ?_) (fun qh47 => ?_)
   ·refine WC.sr ?_
    refine WL.val rfl rfl rfl (Run.build rfl rfl rfl rfl (built_25)) ?_
    refine WL.run tbk 1 hs45 [] rfl trivial ?_
    refine WL.val rfl rfl rfl (Run.build rfl rfl rfl rfl (built_44_0_1 _ _)) ?_
    refine WL.st tbk hs45 2 rfl rfl (fun _ hs48 => ?_)
    refine WL.st tbk hs48 1 rfl rfl (fun _ hs49 => ?_)
    refine WL.nil ?_
    refine WC.ret ?_
    refine tkR ?_
    clear hK46
    refine retV2 rfl (resV.cellA tbk hs49 2 rfl rfl rfl rfl) (resV.cellA tbk hs49 1 rfl rfl rfl rfl) ?_
    have hv : vpPlain p b = (vp0, ⟨1, rvN (runeL (p ++ [ub b])), false, []⟩) := by unfold vpPlain; rw [if_neg hn1, if_neg (by omega), if_pos (by simpa [← Int.ofNat_inj] using qh47)]
    try simp only [List.nil_append] at *
    obtain ⟨L53, hs52, ho54⟩ := ownVpR.fold ⟨0, false, ⟨_, _, _, _⟩, ⟨_, _, _, _⟩⟩ (St.perm (St.perm hs49 (L' := ([] : Hp) ++ _) (perm_front (A := [_, _, _]) (List.Perm.refl _))) (L' := ([] : Hp) ++ _) (perm_front (A := ([] : Hp)) (perm_front (A := [_, _, _]) (List.Perm.refl _)))) (OwnF.nil _ _) (OwnF.nil _ _)
    have hs55 := (St.perm (St.perm (St.perm hs52 (L' := [_] ++ _) (perm_front (A := L53) (perm_front (A := [_, _]) (List.Perm.refl _)))) (L' := [_] ++ _) (perm_front (A := [_]) (perm_front (A := L53) (perm_front (A := [_]) (List.Perm.refl _))))) (L' := [_] ++ _) (perm_front (A := [_, _]) (perm_front (A := L53) (List.Perm.refl _))))
    refine ⟨⟨0, false, ⟨none, 0, 0, []⟩, ⟨none, 0, 0, []⟩⟩, _, ⟨(1), _, false, ⟨none, 0, 0, []⟩⟩, _, rfl, (St.drop (St.perm (St.perm hs55 (L' := ([] : Hp) ++ _) (perm_front (A := [_, _, _]) (List.Perm.refl _))) (L' := L53 ++ _) (perm_front (A := ([] : Hp)) (perm_front (A := [_, _, _]) (List.Perm.refl _)))) (List.Sublist.append_left (List.sublist_append_left ([] : Hp) _) L53)), ?_, ?_, ?_, ?_⟩
    · exact (by exact ho54)
    · exact (OwnF.nil _ _)
    · rw [hv]; rfl
    · rw [hv]; rfl
   ·have hn3 : ¬ rvS (runeL (p ++ [ub b])) = (p ++ [ub b]).length := by simpa [← Int.ofNat_inj] using qh47
    refine WC.skip ?_
    refine hK46 _ _ ?_
    refine WC.seq (fun K57 hK57 => ?_)
    refine WC.sr ?_
    refine WL.run tbk 1 hs45 [] rfl trivial ?_
    refine WL.call rfl rfl rfl (Run.call Try.call135 rfl rfl rfl) (c_spec_RuneBegin _ _ _ _ _ (SlF.ofOwn ho42 (fun p_ hp_ => (hs45.own p_ (List.mem_append_right [_, _, _] (List.mem_append_left _ hp_))).1)) (OwnF.cap ho42) ?_) ?_
    · first | (first | assumption | rfl | omega) | (simp; omega)
    rintro _ whs58 ⟨rfl, hs58⟩
    replace hs58 := hs45.call0 hs58
    refine ⟨_, rfl, ?_⟩
    refine WL.nil ?_
    refine WC.cond rfl (fun h59 => ?_) (fun h59 => ?_)
    ·have qh59 := h59
     try simp only [bf, within_iff, within_not] at qh59
     refine WC.sr ?_
     refine WL.run tbk 1 hs58 [] rfl trivial ?_
     refine WL.val rfl rfl rfl (Run.build rfl rfl rfl rfl (built_25_3 _ _ _)) ?_
     refine WL.val rfl rfl rfl (Run.build rfl rfl rfl rfl (built_44)) ?_
     refine WL.st tbk hs58 2 rfl rfl (fun _ hs60 => ?_)
     refine WL.st tbk hs60 1 rfl rfl (fun _ hs61 => ?_)
     refine WL.nil ?_
     refine WC.ret ?_
     refine tkR ?_
     clear hK57
     refine retV2 rfl (resV.cellA tbk hs61 2 rfl rfl rfl rfl) (resV.cellA tbk hs61 1 rfl rfl rfl rfl) ?_
     have hv : vpPlain p b = (⟨0, false, [], p ++ [ub b]⟩, act0) := by unfold vpPlain; rw [if_neg hn1, if_neg (by omega), if_neg hn3, if_pos (by simpa using h59)]
     try simp only [List.nil_append] at *
     obtain ⟨L64, hs63, ho65⟩ := ownVpR.fold ⟨0, false, ⟨_, _, _, _⟩, ⟨_, _, _, _⟩⟩ (St.perm (St.perm hs61 (L' := L40 ++ _) (perm_front (A := [_, _, _]) (perm_front (A := ([] : Hp)) (List.Perm.refl _)))) (L' := ([] : Hp) ++ _) (perm_front (A := L40) (perm_front (A := [_, _, _]) (List.Perm.refl _)))) (OwnF.nil _ _) ho42
     have hs66 := (St.perm (St.perm (St.perm hs63 (L' := [_] ++ _) (perm_front (A := L64) (perm_front (A := [_, _]) (List.Perm.refl _)))) (L' := [_] ++ _) (perm_front (A := [_]) (perm_front (A := L64) (perm_front (A := [_]) (List.Perm.refl _))))) (L' := [_] ++ _) (perm_front (A := [_, _]) (perm_front (A := L64) (List.Perm.refl _))))
     refine ⟨⟨0, false, ⟨none, 0, 0, []⟩, SlD.of ho42⟩, _, ⟨0, 0, false, ⟨none, 0, 0, []⟩⟩, _, rfl, (St.drop (St.perm (St.perm hs66 (L' := ([] : Hp) ++ _) (perm_front (A := [_, _, _]) (List.Perm.refl _))) (L' := L64 ++ _) (perm_front (A := ([] : Hp)) (perm_front (A := [_, _, _]) (List.Perm.refl _)))) (List.Sublist.append_left (List.sublist_append_left ([] : Hp) _) L64)), ?_, ?_, ?_, ?_⟩
     · exact (by exact ho65)
     · exact (OwnF.nil _ _)
     · rw [hv]; rfl
     · rw [hv]; rfl
    ·have qh59 := h59
     try simp only [bf, within_iff, within_not] at qh59
     refine WC.skip ?_
     refine hK57 _ _ ?_
     refine WC.sr ?_
     refine WL.val rfl rfl rfl (Run.build rfl rfl rfl rfl (built_25)) ?_
     refine WL.val rfl rfl rfl (Run.build rfl rfl rfl rfl (built_44_0_1 _ _)) ?_
     refine WL.st tbk hs58 2 rfl rfl (fun _ hs68 => ?_)
     refine WL.st tbk hs68 1 rfl rfl (fun _ hs69 => ?_)
     refine WL.nil ?_
     refine WC.ret ?_
     refine retV2 rfl (resV.cellA tbk hs69 2 rfl rfl rfl rfl) (resV.cellA tbk hs69 1 rfl rfl rfl rfl) ?_
     have hv : vpPlain p b = (vp0, ⟨1, 65533, false, []⟩) := by unfold vpPlain; rw [if_neg hn1, if_neg (by omega), if_neg hn3, if_neg (by simpa using h59)]
     try simp only [List.nil_append] at *
     obtain ⟨L73, hs72, ho74⟩ := ownVpR.fold ⟨0, false, ⟨_, _, _, _⟩, ⟨_, _, _, _⟩⟩ (St.perm (St.perm hs69 (L' := ([] : Hp) ++ _) (perm_front (A := [_, _, _]) (List.Perm.refl _))) (L' := ([] : Hp) ++ _) (perm_front (A := ([] : Hp)) (perm_front (A := [_, _, _]) (List.Perm.refl _)))) (OwnF.nil _ _) (OwnF.nil _ _)
     have hs75 := (St.perm (St.perm (St.perm hs72 (L' := [_] ++ _) (perm_front (A := L73) (perm_front (A := [_, _]) (List.Perm.refl _)))) (L' := [_] ++ _) (perm_front (A := [_]) (perm_front (A := L73) (perm_front (A := [_]) (List.Perm.refl _))))) (L' := [_] ++ _) (perm_front (A := [_, _]) (perm_front (A := L73) (List.Perm.refl _))))
     refine ⟨⟨0, false, ⟨none, 0, 0, []⟩, ⟨none, 0, 0, []⟩⟩, _, ⟨(1), (65533), false, ⟨none, 0, 0, []⟩⟩, _, rfl, (St.drop (St.perm (St.perm hs75 (L' := ([] : Hp) ++ _) (perm_front (A := [_, _, _]) (List.Perm.refl _))) (L' := L73 ++ _) (perm_front (A := ([] : Hp)) (perm_front (A := [_, _, _]) (List.Perm.refl _)))) (List.Sublist.append_left (List.sublist_append_left ([] : Hp) _) L73)), ?_, ?_, ?_, ?_⟩
     · exact (by exact ho74)
     · exact (OwnF.nil _ _)
     · rw [hv]; rfl
     · rw [hv]; rfl
theorem c_impl_Vp_plain (p : VpR) (b : Int) (w : World) (f_p : okVpR 1099511627776 w p) (hn : p.Part.n ≤ 1048576) :
    Calls Try.prog 138 #[.agg #[i64 p.State, .bool p.Mark, .slice p.Args.A p.Args.n p.Args.c, .slice p.Part.A p.Part.n p.Part.c], i64 b] w fun e w' => ∃ r0 L0 r1 L1, e = .returned (.tuple #[.agg #[i64 r0.State, .bool r0.Mark, .slice r0.Args.A r0.Args.n r0.Args.c, .slice r0.Part.A r0.Part.n r0.Part.c], .agg #[i64 r1.Kind, i64 r1.R, .bool r1.Mark, .slice r1.Args.A r1.Args.n r1.Args.c]]) ∧ St w [] (L0 ++ L1) w' ∧ ownVpR r0 L0 ∧ ownActR r1 L1 ∧ r0.dat = (vpPlain p.Part.xs b).1 ∧ r1.dat = (vpPlain p.Part.xs b).2 := by
 have nb_p_Args := f_p.Args_n
 have nl_p_Args := f_p.Args.len
 have nb_p_Part := f_p.Part_n
 have nl_p_Part := f_p.Part.len
 have hpl := f_p.Part.len
 refine enter (vs := [.agg #[i64 p.State, .bool p.Mark, .slice p.Args.A p.Args.n p.Args.c, .slice p.Part.A p.Part.n p.Part.c], i64 b]) 51 Try.func138 rfl Try.ntmps138 rfl rfl ?_
 have hs1 := St.init w
 refine WC.sr ?_
 refine WL.bx hs1 rfl (fun b2 _ hs3 => ?_)
 refine WL.al hs3 Try.zeroValue25 rfl rfl (fun b4 _ hs5 => ?_)
 refine WL.al hs5 Try.zeroValue44 rfl rfl (fun b6 _ hs7 => ?_)
 refine WL.nil ?_
 refine WC.seq (fun K8 hK8 => ?_)
 refine WC.block ?_
 refine WC.sr ?_
 refine WL.run tbk 3 hs7 [] rfl trivial ?_
 refine WL.pO tbk 2 Acts.nil hs7 [] rfl rfl rfl rfl (fun g_ => trivial) ?_
 refine WL.run tbk 1 hs7 [] rfl trivial ?_
 refine WL.nil ?_
 refine WC.cond rfl (fun h9 => ?_) (fun h9 => ?_)
 ·have qh9 := h9
  try simp only [bf, within_iff, within_not] at qh9
  refine WC.sr ?_
  refine WL.val rfl rfl rfl (Run.build rfl rfl rfl rfl (built_25)) ?_
  refine WL.run tbk 1 hs7 [] rfl trivial ?_
  refine WL.val rfl rfl rfl (Run.build rfl rfl rfl rfl (built_44_0_1 _ _)) ?_
  refine WL.st tbk hs7 1 rfl rfl (fun _ hs10 => ?_)
  refine WL.st tbk hs10 0 rfl rfl (fun _ hs11 => ?_)
  refine WL.nil ?_
  refine WC.ret ?_
  refine ibR (tkR ?_)
  clear hK8
  refine retV2 rfl (resV.cellA tbk hs11 1 rfl rfl rfl rfl) (resV.cellA tbk hs11 0 rfl rfl rfl rfl) ?_
  have hv : vpPlain p.Part.xs b = (vp0, ⟨2, b, false, []⟩) := by unfold vpPlain; rw [if_pos (by simp at qh9; omega)]
  try simp only [List.nil_append] at *
  obtain ⟨L15, hs14, ho16⟩ := ownVpR.fold ⟨0, false, ⟨_, _, _, _⟩, ⟨_, _, _, _⟩⟩ (St.perm (St.perm hs11 (L' := ([] : Hp) ++ _) (perm_front (A := [_, _, _]) (List.Perm.refl _))) (L' := ([] : Hp) ++ _) (perm_front (A := ([] : Hp)) (perm_front (A := [_, _, _]) (List.Perm.refl _)))) (OwnF.nil _ _) (OwnF.nil _ _)
  have hs17 := (St.perm (St.perm (St.perm hs14 (L' := [_] ++ _) (perm_front (A := L15) (perm_front (A := [_, _]) (List.Perm.refl _)))) (L' := [_] ++ _) (perm_front (A := [_]) (perm_front (A := L15) (perm_front (A := [_]) (List.Perm.refl _))))) (L' := [_] ++ _) (perm_front (A := [_, _]) (perm_front (A := L15) (List.Perm.refl _))))
  refine ⟨⟨0, false, ⟨none, 0, 0, []⟩, ⟨none, 0, 0, []⟩⟩, _, ⟨(2), b, false, ⟨none, 0, 0, []⟩⟩, _, rfl, (St.drop (St.perm (St.perm hs17 (L' := ([] : Hp) ++ _) (perm_front (A := [_, _, _]) (List.Perm.refl _))) (L' := L15 ++ _) (perm_front (A := ([] : Hp)) (perm_front (A := [_, _, _]) (List.Perm.refl _)))) (List.Sublist.append_left (List.sublist_append_left ([] : Hp) _) L15)), ?_, ?_, ?_, ?_⟩
  · exact (by exact ho16)
  · exact (OwnF.nil _ _)
  · rw [hv]; rfl
  · rw [hv]; rfl
 ·have qh9 := h9
  try simp only [bf, within_iff, within_not] at qh9
  have hn1 : ¬ (b < 32 ∨ b = 127) := by simp at qh9; omega
  refine WC.rr tbk hs7 [] rfl trivial ?_
  refine WC.cD rfl (fun qh19 => ?_) (fun qh19 => ?_)
  ·refine WC.sr ?_
   refine WL.val rfl rfl rfl (Run.build rfl rfl rfl rfl (built_25)) ?_
   refine WL.run tbk 1 hs7 [] rfl trivial ?_
   refine WL.val rfl rfl rfl (Run.build rfl rfl rfl rfl (built_44_0_1 _ _)) ?_
   refine WL.st tbk hs7 1 rfl rfl (fun _ hs20 => ?_)
   refine WL.st tbk hs20 0 rfl rfl (fun _ hs21 => ?_)
   refine WL.nil ?_
   refine WC.ret ?_
   refine ibR (tkR ?_)
   clear hK8
   refine retV2 rfl (resV.cellA tbk hs21 1 rfl rfl rfl rfl) (resV.cellA tbk hs21 0 rfl rfl rfl rfl) ?_
   have hv : vpPlain p.Part.xs b = (vp0, ⟨1, b, false, []⟩) := by unfold vpPlain; rw [if_neg (by simp at *; omega), if_pos (by omega)]
   try simp only [List.nil_append] at *
   obtain ⟨L25, hs24, ho26⟩ := ownVpR.fold ⟨0, false, ⟨_, _, _, _⟩, ⟨_, _, _, _⟩⟩ (St.perm (St.perm hs21 (L' := ([] : Hp) ++ _) (perm_front (A := [_, _, _]) (List.Perm.refl _))) (L' := ([] : Hp) ++ _) (perm_front (A := ([] : Hp)) (perm_front (A := [_, _, _]) (List.Perm.refl _)))) (OwnF.nil _ _) (OwnF.nil _ _)
   have hs27 := (St.perm (St.perm (St.perm hs24 (L' := [_] ++ _) (perm_front (A := L25) (perm_front (A := [_, _]) (List.Perm.refl _)))) (L' := [_] ++ _) (perm_front (A := [_]) (perm_front (A := L25) (perm_front (A := [_]) (List.Perm.refl _))))) (L' := [_] ++ _) (perm_front (A := [_, _]) (perm_front (A := L25) (List.Perm.refl _))))
   refine ⟨⟨0, false, ⟨none, 0, 0, []⟩, ⟨none, 0, 0, []⟩⟩, _, ⟨(1), b, false, ⟨none, 0, 0, []⟩⟩, _, rfl, (St.drop (St.perm (St.perm hs27 (L' := ([] : Hp) ++ _) (perm_front (A := [_, _, _]) (List.Perm.refl _))) (L' := L25 ++ _) (perm_front (A := ([] : Hp)) (perm_front (A := [_, _, _]) (List.Perm.refl _)))) (List.Sublist.append_left (List.sublist_append_left ([] : Hp) _) L25)), ?_, ?_, ?_, ?_⟩
   · exact (by exact ho26)
   · exact (OwnF.nil _ _)
   · rw [hv]; rfl
   · rw [hv]; rfl
  ·refine WC.skip ?_
   refine hK8 _ _ ?_
   refine WC.sr ?_
   refine WL.run tbk 2 hs7 [2] rfl ⟨rfl, trivial⟩ ?_
   refine WL.call rfl rfl rfl (Run.call Try.call184 rfl rfl rfl) (c_slices_Clone_byte_byte _ _ _ _ _ (SlF.st0 f_p.Part hs7) ?_) ?_
   · first | (first | assumption | rfl | omega) | (simp; omega)
   rintro _ whs29 ⟨A30, c31, L132, rfl, hs29, ho33⟩
   replace hs29 := hs7.callF hs29
   refine ⟨_, rfl, ?_⟩
   replace hs29 := St.back [_, _, _] hs29
   refine WL.run tbk 2 hs29 [] rfl trivial ?_
   refine WL.buildSlice hs29 Try.runUnderlying23 Try.sizeOf5 Try.zeroValue5 rfl rfl rfl rfl rfl rfl rfl rfl rfl rfl (fun b34 whs35 hs35 => ?_)
   refine WL.appendG (St.perm hs35 (L' := L132 ++ _) (perm_front (A := [_, _, _, _]) (List.Perm.refl _))) ho33 (srcB1 Try.underlying23 (hs35.own _ (nthL_mem (i := 0) rfl)).1) Try.underlying23 info_5 rfl rfl rfl rfl rfl rfl rfl rfl rfl rfl ?_ (fun A39 c40 L36 whs37 hs37 ho38 => ?_)
   · first | omega | (simp; omega)
   replace hs37 := St.back [_, _, _, _] hs37
   refine WL.run tbk 1 hs37 [] rfl trivial ?_
   refine WL.nil ?_
   refine WC.seq (fun K41 hK41 => ?_)
   refine WC.sr ?_
   refine WL.run tbk 1 hs37 [] rfl trivial ?_
   refine WL.call rfl rfl rfl (Run.call Try.call185 rfl rfl rfl) (c_impl_RuneRead _ _ _ _ _ (SlF.ofOwn ho38 (fun p_ hp_ => (hs37.own p_ (List.mem_append_right [_, _, _, _] (List.mem_append_left _ hp_))).1)) (OwnF.cap ho38) ?_) ?_
   · first | (first | assumption | rfl | omega) | (simp; omega)
   rintro _ whs42 ⟨rfl, hs42⟩
   replace hs42 := hs37.call0 hs42
   refine ⟨_, rfl, ?_⟩
   refine WL.run tbk 5 hs42 [] rfl trivial ?_
   refine WL.nil ?_
   refine WC.rr tbk hs42 [] rfl trivial ?_
   refine WC.cD rfl (fun qh43 => ?_) (fun qh43 => ?_)
   ·refine WC.sr ?_
    refine WL.val rfl rfl rfl (Run.build rfl rfl rfl rfl (built_25)) ?_
    refine WL.run tbk 1 hs42 [] rfl trivial ?_
    refine WL.val rfl rfl rfl (Run.build rfl rfl rfl rfl (built_44_0_1 _ _)) ?_
    refine WL.st tbk hs42 2 rfl rfl (fun _ hs44 => ?_)
    refine WL.st tbk hs44 1 rfl rfl (fun _ hs45 => ?_)
    refine WL.nil ?_
    refine WC.ret ?_
    refine tkR ?_
    clear hK41
    refine retV2 rfl (resV.cellA tbk hs45 2 rfl rfl rfl rfl) (resV.cellA tbk hs45 1 rfl rfl rfl rfl) ?_
    have hv : vpPlain p.Part.xs b = (vp0, ⟨1, rvN (runeL (p.Part.xs ++ [ub b])), false, []⟩) := by unfold vpPlain; rw [if_neg hn1, if_neg (by omega), if_pos (by simpa [← Int.ofNat_inj] using qh43)]
    try simp only [List.nil_append] at *
    obtain ⟨L49, hs48, ho50⟩ := ownVpR.fold ⟨0, false, ⟨_, _, _, _⟩, ⟨_, _, _, _⟩⟩ (St.perm (St.perm hs45 (L' := ([] : Hp) ++ _) (perm_front (A := [_, _, _, _]) (List.Perm.refl _))) (L' := ([] : Hp) ++ _) (perm_front (A := ([] : Hp)) (perm_front (A := [_, _, _, _]) (List.Perm.refl _)))) (OwnF.nil _ _) (OwnF.nil _ _)
    have hs51 := (St.perm (St.perm (St.perm (St.perm hs48 (L' := [_] ++ _) (perm_front (A := L49) (perm_front (A := [_, _, _]) (List.Perm.refl _)))) (L' := [_] ++ _) (perm_front (A := [_]) (perm_front (A := L49) (perm_front (A := [_, _]) (List.Perm.refl _))))) (L' := [_] ++ _) (perm_front (A := [_, _]) (perm_front (A := L49) (perm_front (A := [_]) (List.Perm.refl _))))) (L' := [_] ++ _) (perm_front (A := [_, _, _]) (perm_front (A := L49) (List.Perm.refl _))))
    refine ⟨⟨0, false, ⟨none, 0, 0, []⟩, ⟨none, 0, 0, []⟩⟩, _, ⟨(1), _, false, ⟨none, 0, 0, []⟩⟩, _, rfl, (St.drop (St.perm (St.perm hs51 (L' := ([] : Hp) ++ _) (perm_front (A := [_, _, _, _]) (List.Perm.refl _))) (L' := L49 ++ _) (perm_front (A := ([] : Hp)) (perm_front (A := [_, _, _, _]) (List.Perm.refl _)))) (List.Sublist.append_left (List.sublist_append_left ([] : Hp) _) L49)), ?_, ?_, ?_, ?_⟩
    · exact (by exact ho50)
    · exact (OwnF.nil _ _)
    · rw [hv]; rfl
    · rw [hv]; rfl
   ·have hn3 : ¬ rvS (runeL (p.Part.xs ++ [ub b])) = (p.Part.xs ++ [ub b]).length := by simpa [← Int.ofNat_inj] using qh43
    refine WC.skip ?_
    refine hK41 _ _ ?_
    refine WC.seq (fun K53 hK53 => ?_)
    refine WC.sr ?_
    refine WL.run tbk 1 hs42 [] rfl trivial ?_
    refine WL.call rfl rfl rfl (Run.call Try.call137 rfl rfl rfl) (c_impl_RuneBegin _ _ _ _ _ (SlF.ofOwn ho38 (fun p_ hp_ => (hs42.own p_ (List.mem_append_right [_, _, _, _] (List.mem_append_left _ hp_))).1)) (OwnF.cap ho38) ?_) ?_
    · first | (first | assumption | rfl | omega) | (simp; omega)
    rintro _ whs54 ⟨rfl, hs54⟩
    replace hs54 := hs42.call0 hs54
    refine ⟨_, rfl, ?_⟩
    refine WL.nil ?_
    refine WC.cond rfl (fun h55 => ?_) (fun h55 => ?_)
    ·have qh55 := h55
     try simp only [bf, within_iff, within_not] at qh55
     refine WC.sr ?_
     refine WL.run tbk 1 hs54 [] rfl trivial ?_
     refine WL.val rfl rfl rfl (Run.build rfl rfl rfl rfl (built_25_3 _ _ _)) ?_
     refine WL.val rfl rfl rfl (Run.build rfl rfl rfl rfl (built_44)) ?_
     refine WL.st tbk hs54 2 rfl rfl (fun _ hs56 => ?_)
     refine WL.st tbk hs56 1 rfl rfl (fun _ hs57 => ?_)
     refine WL.nil ?_
     refine WC.ret ?_
     refine tkR ?_
     clear hK53
     refine retV2 rfl (resV.cellA tbk hs57 2 rfl rfl rfl rfl) (resV.cellA tbk hs57 1 rfl rfl rfl rfl) ?_
     have hv : vpPlain p.Part.xs b = (⟨0, false, [], p.Part.xs ++ [ub b]⟩, act0) := by unfold vpPlain; rw [if_neg hn1, if_neg (by omega), if_neg hn3, if_pos (by simpa using h55)]
     try simp only [List.nil_append] at *
     obtain ⟨L60, hs59, ho61⟩ := ownVpR.fold ⟨0, false, ⟨_, _, _, _⟩, ⟨_, _, _, _⟩⟩ (St.perm (St.perm hs57 (L' := L36 ++ _) (perm_front (A := [_, _, _, _]) (perm_front (A := ([] : Hp)) (List.Perm.refl _)))) (L' := ([] : Hp) ++ _) (perm_front (A := L36) (perm_front (A := [_, _, _, _]) (List.Perm.refl _)))) (OwnF.nil _ _) ho38
     have hs62 := (St.perm (St.perm (St.perm (St.perm hs59 (L' := [_] ++ _) (perm_front (A := L60) (perm_front (A := [_, _, _]) (List.Perm.refl _)))) (L' := [_] ++ _) (perm_front (A := [_]) (perm_front (A := L60) (perm_front (A := [_, _]) (List.Perm.refl _))))) (L' := [_] ++ _) (perm_front (A := [_, _]) (perm_front (A := L60) (perm_front (A := [_]) (List.Perm.refl _))))) (L' := [_] ++ _) (perm_front (A := [_, _, _]) (perm_front (A := L60) (List.Perm.refl _))))
     refine ⟨⟨0, false, ⟨none, 0, 0, []⟩, SlD.of ho38⟩, _, ⟨0, 0, false, ⟨none, 0, 0, []⟩⟩, _, rfl, (St.drop (St.perm (St.perm hs62 (L' := ([] : Hp) ++ _) (perm_front (A := [_, _, _, _]) (List.Perm.refl _))) (L' := L60 ++ _) (perm_front (A := ([] : Hp)) (perm_front (A := [_, _, _, _]) (List.Perm.refl _)))) (List.Sublist.append_left (List.sublist_append_left ([] : Hp) _) L60)), ?_, ?_, ?_, ?_⟩
     · exact (by exact ho61)
     · exact (OwnF.nil _ _)
     · rw [hv]; rfl
     · rw [hv]; rfl
    ·have qh55 := h55
     try simp only [bf, within_iff, within_not] at qh55
     refine WC.skip ?_
     refine hK53 _ _ ?_
     refine WC.sr ?_
     refine WL.val rfl rfl rfl (Run.build rfl rfl rfl rfl (built_25)) ?_
     refine WL.val rfl rfl rfl (Run.build rfl rfl rfl rfl (built_44_0_1 _ _)) ?_
     refine WL.st tbk hs54 2 rfl rfl (fun _ hs64 => ?_)
     refine WL.st tbk hs64 1 rfl rfl (fun _ hs65 => ?_)
     refine WL.nil ?_
     refine WC.ret ?_
     refine retV2 rfl (resV.cellA tbk hs65 2 rfl rfl rfl rfl) (resV.cellA tbk hs65 1 rfl rfl rfl rfl) ?_
     have hv : vpPlain p.Part.xs b = (vp0, ⟨1, 65533, false, []⟩) := by unfold vpPlain; rw [if_neg hn1, if_neg (by omega), if_neg hn3, if_neg (by simpa using h55)]
     try simp only [List.nil_append] at *
     obtain ⟨L69, hs68, ho70⟩ := ownVpR.fold ⟨0, false, ⟨_, _, _, _⟩, ⟨_, _, _, _⟩⟩ (St.perm (St.perm hs65 (L' := ([] : Hp) ++ _) (perm_front (A := [_, _, _, _]) (List.Perm.refl _))) (L' := ([] : Hp) ++ _) (perm_front (A := ([] : Hp)) (perm_front (A := [_, _, _, _]) (List.Perm.refl _)))) (OwnF.nil _ _) (OwnF.nil _ _)
     have hs71 := (St.perm (St.perm (St.perm (St.perm hs68 (L' := [_] ++ _) (perm_front (A := L69) (perm_front (A := [_, _, _]) (List.Perm.refl _)))) (L' := [_] ++ _) (perm_front (A := [_]) (perm_front (A := L69) (perm_front (A := [_, _]) (List.Perm.refl _))))) (L' := [_] ++ _) (perm_front (A := [_, _]) (perm_front (A := L69) (perm_front (A := [_]) (List.Perm.refl _))))) (L' := [_] ++ _) (perm_front (A := [_, _, _]) (perm_front (A := L69) (List.Perm.refl _))))
     refine ⟨⟨0, false, ⟨none, 0, 0, []⟩, ⟨none, 0, 0, []⟩⟩, _, ⟨(1), (65533), false, ⟨none, 0, 0, []⟩⟩, _, rfl, (St.drop (St.perm (St.perm hs71 (L' := ([] : Hp) ++ _) (perm_front (A := [_, _, _, _]) (List.Perm.refl _))) (L' := L69 ++ _) (perm_front (A := ([] : Hp)) (perm_front (A := [_, _, _, _]) (List.Perm.refl _)))) (List.Sublist.append_left (List.sublist_append_left ([] : Hp) _) L69)), ?_, ?_, ?_, ?_⟩
     · exact (by exact ho70)
     · exact (OwnF.nil _ _)
     · rw [hv]; rfl
     · rw [hv]; rfl
end Go.Proofs.Ytlmcekfdlgkffaa
