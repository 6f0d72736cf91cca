/- Walks of Go functions, printed by a program (wip/gen). -/
import Derived.Test.YtlmcekfdlgkffaaGreatP4
namespace Go.Proofs.YtlmcekfdlgkffaaGreat
open Go Go.RowKit
set_option linter.unusedVariables false
set_option linter.unusedSimpArgs false
theorem built_37_0_1_2_3 (x0 : Int) (x1 : Bool) (x2 : Option Addr) (x3 : Nat) (x4 : Nat) (x5 : Option Addr) (x6 : Nat) (x7 : Nat) : Tryz.prog.built 37 [(0, .int .i64 x0), (1, .bool x1), (2, .slice x2 x3 x4), (3, .slice x5 x6 x7)] = some (List.toArray [.int .i64 x0, .bool x1, .slice x2 x3 x4, .slice x5 x6 x7]) := by kernel_rfl
theorem c_impl_copyVp (p : VpR) (w : World) (f_p : okVpR 549755813888 w p) (hsm : smVp 1048576 p.dat) :
    Calls Tryz.prog 136 #[.agg #[i64 p.State, .bool p.Mark, .slice p.Args.A p.Args.n p.Args.c, .slice p.Part.A p.Part.n p.Part.c]] w fun e w' => ∃ r L1, e = .returned (.agg #[i64 r.State, .bool r.Mark, .slice r.Args.A r.Args.n r.Args.c, .slice r.Part.A r.Part.n r.Part.c]) ∧ St w [] L1 w' ∧ ownVpR r L1 ∧ r.dat = p.dat := by
 have nb_p_Args := f_p.Args_n
 have nl_p_Args := f_p.Args.len
 have nb_p_Part := f_p.Part_n
 have nl_p_Part := f_p.Part.len
 have hsB : smVp 549755813888 p.dat := ⟨Nat.le_trans hsm.1 (by decide), Nat.le_trans hsm.2 (by decide)⟩
 have hsa : p.Args.xs.length ≤ 1048576 := hsm.1
 have hsp : p.Part.xs.length ≤ 1048576 := hsm.2
 refine enter (vs := [.agg #[i64 p.State, .bool p.Mark, .slice p.Args.A p.Args.n p.Args.c, .slice p.Part.A p.Part.n p.Part.c]]) 14 Tryz.func136 rfl Tryz.ntmps136 rfl rfl ?_
 have hs1 := St.init w
 refine WC.sr ?_
 refine WL.bx hs1 rfl (fun b2 _ hs3 => ?_)
 refine WL.al hs3 Tryz.zeroValue37 rfl rfl (fun b4 _ hs5 => ?_)
 refine WL.nil ?_
 refine WC.seq (fun K6 hK6 => ?_)
 refine WC.regionH2 (fun w' => St _ _ _ w') (fun w' => St _ _ _ w') mixed (St.drew (St.drop hs5 (List.sublist_append_right [_] _))) (St.drew hs5) (fun whs7 hs7 => ?_)
 replace hs7 : St _ _ _ _ := hs7
 refine WH.take 0 rfl (by kernel_rfl) rfl rfl rfl (St.drop hs7 (List.sublist_append_right [_] _)) (fun w_ hs_ => (Run.field Tryz.runUnderlying37 rfl rfl rfl Tryz.sizeOf3 rfl)) ?_
 refine WH.take 1 rfl (by kernel_rfl) rfl rfl rfl (St.drop hs7 (List.sublist_append_right [_] _)) (fun w_ hs_ => (Run.loadL (hs_ : St _ _ _ _) 0 Tryz.isAgg3 rfl rfl rfl rfl)) ?_
 refine WH.take 2 rfl (by kernel_rfl) rfl rfl rfl (St.drop hs7 (List.sublist_append_right [_] _)) (fun w_ hs_ => (Run.field Tryz.runUnderlying37 rfl rfl rfl Tryz.sizeOf4 rfl)) ?_
 refine WH.take 3 rfl (by kernel_rfl) rfl rfl rfl (St.drop hs7 (List.sublist_append_right [_] _)) (fun w_ hs_ => (Run.loadL (hs_ : St _ _ _ _) 0 Tryz.isAgg4 rfl rfl rfl rfl)) ?_
 refine WH.take 4 rfl (by kernel_rfl) rfl rfl rfl (St.drop hs7 (List.sublist_append_right [_] _)) (fun w_ hs_ => (Run.field Tryz.runUnderlying37 rfl rfl rfl Tryz.sizeOf22 rfl)) ?_
 refine WH.take 5 rfl (by kernel_rfl) rfl rfl rfl (St.drop hs7 (List.sublist_append_right [_] _)) (fun w_ hs_ => (Run.loadL (hs_ : St _ _ _ _) 0 Tryz.isAgg22 rfl rfl rfl rfl)) ?_
 refine WH.take 7 rfl (by kernel_rfl) rfl rfl rfl (St.drop hs7 (List.sublist_append_right [_] _)) (fun w_ hs_ => (Run.field Tryz.runUnderlying37 rfl rfl rfl Tryz.sizeOf23 rfl)) ?_
 refine WH.take 8 rfl (by kernel_rfl) rfl rfl rfl (St.drop hs7 (List.sublist_append_right [_] _)) (fun w_ hs_ => (Run.loadL (hs_ : St _ _ _ _) 0 Tryz.isAgg23 rfl rfl rfl rfl)) ?_
 refine WH.all [6] (by kernel_rfl) rfl (WHs.cons (i := 6) rfl ?_ WHs.nil)
 refine WL.call rfl rfl rfl (Run.call Tryz.call219 rfl rfl rfl) (c_slices_Clone_int_int _ _ _ _ _ (SlF.st0 f_p.Args hs7) ?_) ?_
 · first | assumption | rfl | omega
 rintro _ whs8 ⟨A9, c10, L1_11, rfl, hs8, ho12⟩
 replace hs8 := hs7.callF hs8
 refine ⟨_, rfl, ?_⟩
 replace hs8 := St.back [_, _] hs8
 refine WL.nil ⟨(St.drop (St.perm (St.drop hs8 (List.sublist_append_right [_] _)) (L' := L1_11 ++ _) (perm_front (A := [_]) (List.Perm.refl _))) (List.sublist_append_right L1_11 _)), ?_⟩
 refine WH.all [9] (by kernel_rfl) rfl (WHs.cons (i := 9) rfl ?_ WHs.nil)
 refine WL.call rfl rfl rfl (Run.call Tryz.call220 rfl rfl rfl) (c_slices_Clone_byte_byte _ _ _ _ _ (SlF.st0 f_p.Part hs8) ?_) ?_
 · first | assumption | rfl | omega
 rintro _ whs13 ⟨A14, c15, L1_16, rfl, hs13, ho17⟩
 replace hs13 := hs8.callF hs13
 refine ⟨_, rfl, ?_⟩
 replace hs13 := St.back [_, _] hs13
 refine WL.nil ⟨(St.drop (St.perm (St.drop (St.perm (St.drop hs13 (List.sublist_append_right [_] _)) (L' := L1_16 ++ _) (perm_front (A := [_]) (List.Perm.refl _))) (List.sublist_append_right L1_16 _)) (L' := L1_11 ++ _) (perm_front (A := [_]) (List.Perm.refl _))) (List.sublist_append_right L1_11 _)), ?_⟩
 refine WH.take 10 rfl (by kernel_rfl) rfl rfl rfl (St.drop (St.perm (St.drop (St.perm (St.drop hs13 (List.sublist_append_right [_] _)) (L' := L1_16 ++ _) (perm_front (A := [_]) (List.Perm.refl _))) (List.sublist_append_right L1_16 _)) (L' := L1_11 ++ _) (perm_front (A := [_]) (List.Perm.refl _))) (List.sublist_append_right L1_11 _)) (fun w_ hs_ => (Run.build rfl rfl rfl rfl (built_37_0_1_2_3 _ _ _ _ _ _ _ _))) ?_
 refine WH.all [11] (by kernel_rfl) rfl (WHs.cons (i := 11) rfl ?_ WHs.nil)
 refine WL.st tbk hs13 0 rfl rfl (fun _ hs18 => ?_)
 refine WL.nil ⟨(St.drop (St.perm (St.drop (St.perm (St.drop hs18 (List.sublist_append_right [_] _)) (L' := L1_16 ++ _) (perm_front (A := [_]) (List.Perm.refl _))) (List.sublist_append_right L1_16 _)) (L' := L1_11 ++ _) (perm_front (A := [_]) (List.Perm.refl _))) (List.sublist_append_right L1_11 _)), ?_⟩
 refine WH.done (by kernel_rfl) ?_
 refine hK6 _ _ ?_
 refine WC.ret ?_
 refine retV1 rfl (resV.cellA tbk hs18 0 rfl rfl rfl rfl) ?_
 obtain ⟨L20, hs19, ho21⟩ := ownVpR.fold ⟨0, false, ⟨_, _, _, _⟩, ⟨_, _, _, _⟩⟩ (St.perm (St.perm hs18 (L' := L1_16 ++ _) (perm_front (A := [_, _]) (List.Perm.refl _))) (L' := L1_11 ++ _) (perm_front (A := L1_16) (perm_front (A := [_, _]) (List.Perm.refl _)))) ho12 ho17
 have hs22 := (St.perm (St.perm hs19 (L' := [_] ++ _) (perm_front (A := L20) (perm_front (A := [_]) (List.Perm.refl _)))) (L' := [_] ++ _) (perm_front (A := [_]) (perm_front (A := L20) (List.Perm.refl _))))
 refine ⟨⟨p.State, p.Mark, SlD.of ho12, SlD.of ho17⟩, _, rfl, (St.keep1 (St.perm hs22 (L' := L20 ++ _) (perm_front (A := [_, _]) (List.Perm.refl _)))), ?_, ?_⟩
 · exact (by exact ho21)
 · exact VpD.ext' rfl rfl rfl rfl
theorem c_spec_l08Copy (p : VpR) (w : World) (f_p : okVpR 549755813888 w p) (hsm : smVp 1048576 p.dat) :
    Calls Tryz.prog 56 #[.agg #[i64 p.State, .bool p.Mark, .slice p.Args.A p.Args.n p.Args.c, .slice p.Part.A p.Part.n p.Part.c]] w fun e w' => ∃ r L1, e = .returned (.agg #[i64 r.State, .bool r.Mark, .slice r.Args.A r.Args.n r.Args.c, .slice r.Part.A r.Part.n r.Part.c]) ∧ St w [] L1 w' ∧ ownVpR r L1 ∧ r.dat = p.dat := by
 have nb_p_Args := f_p.Args_n
 have nl_p_Args := f_p.Args.len
 have nb_p_Part := f_p.Part_n
 have nl_p_Part := f_p.Part.len
 have hsB : smVp 549755813888 p.dat := ⟨Nat.le_trans hsm.1 (by decide), Nat.le_trans hsm.2 (by decide)⟩
 have hsa : p.Args.xs.length ≤ 1048576 := hsm.1
 have hsp : p.Part.xs.length ≤ 1048576 := hsm.2
 refine enter (vs := [.agg #[i64 p.State, .bool p.Mark, .slice p.Args.A p.Args.n p.Args.c, .slice p.Part.A p.Part.n p.Part.c]]) 14 Tryz.func56 rfl Tryz.ntmps56 rfl rfl ?_
 have hs1 := St.init w
 refine WC.sr ?_
 refine WL.bx hs1 rfl (fun b2 _ hs3 => ?_)
 refine WL.al hs3 Tryz.zeroValue37 rfl rfl (fun b4 _ hs5 => ?_)
 refine WL.nil ?_
 refine WC.sr ?_
 refine WL.buildF (F := encI) hs5 ([]) Tryz.runUnderlying22 Tryz.sizeOf3 Tryz.zeroValue3 rfl rfl rfl rfl rfl rfl rfl rfl rfl rfl rfl rfl (fun A9 c10 L6 whs7 hs7 ho8 => ?_)
 replace hs7 := St.back [_, _] hs7
 refine WL.run tbk 2 hs7 [1] rfl ⟨rfl, trivial⟩ ?_
 refine WL.appendG (St.perm hs7 (L' := L6 ++ _) (perm_front (A := [_, _]) (List.Perm.refl _))) ho8 (SlF.src (SlF.st0 f_p.Args hs7) Tryz.underlying22) Tryz.underlying22 info_3 rfl rfl rfl rfl rfl rfl rfl rfl rfl rfl ?_ (fun A14 c15 L11 whs12 hs12 ho13 => ?_)
 · first | omega | (simp; omega)
 replace hs12 := St.back [_, _] hs12
 refine WL.run tbk 1 hs12 [] rfl trivial ?_
 refine WL.st tbk hs12 1 rfl rfl (fun _ hs16 => ?_)
 refine WL.nil ?_
 refine WC.sr ?_
 refine WL.buildF (F := encB) hs16 ([]) Tryz.runUnderlying23 Tryz.sizeOf5 Tryz.zeroValue5 rfl rfl rfl rfl rfl rfl rfl rfl rfl rfl rfl rfl (fun A20 c21 L17 whs18 hs18 ho19 => ?_)
 replace hs18 := St.back [_, _] hs18
 refine WL.run tbk 2 hs18 [1] rfl ⟨rfl, trivial⟩ ?_
 refine WL.appendG (St.perm hs18 (L' := L17 ++ _) (perm_front (A := [_, _]) (List.Perm.refl _))) ho19 (SlF.src (SlF.st0 f_p.Part hs18) Tryz.underlying23) Tryz.underlying23 info_5 rfl rfl rfl rfl rfl rfl rfl rfl rfl rfl ?_ (fun A25 c26 L22 whs23 hs23 ho24 => ?_)
 · first | omega | (simp; omega)
 replace hs23 := St.back [_, _] hs23
 refine WL.run tbk 1 hs23 [] rfl trivial ?_
 refine WL.st tbk hs23 1 rfl rfl (fun _ hs27 => ?_)
 refine WL.nil ?_
 refine WC.sr ?_
 refine WL.run tbk 1 hs27 [1] rfl ⟨rfl, trivial⟩ ?_
 refine WL.st tbk hs27 0 rfl rfl (fun _ hs28 => ?_)
 refine WL.nil ?_
 refine WC.ret ?_
 refine retV1 rfl (resV.cellA tbk hs28 0 rfl rfl rfl rfl) ?_
 obtain ⟨L30, hs29, ho31⟩ := ownVpR.fold ⟨0, false, ⟨_, _, _, _⟩, ⟨_, _, _, _⟩⟩ (St.perm (St.perm hs28 (L' := L22 ++ _) (perm_front (A := [_, _]) (List.Perm.refl _))) (L' := L11 ++ _) (perm_front (A := L22) (perm_front (A := [_, _]) (List.Perm.refl _)))) ho13 ho24
 have hs32 := (St.perm (St.perm hs29 (L' := [_] ++ _) (perm_front (A := L30) (perm_front (A := [_]) (List.Perm.refl _)))) (L' := [_] ++ _) (perm_front (A := [_]) (perm_front (A := L30) (List.Perm.refl _))))
 refine ⟨⟨p.State, p.Mark, SlD.of ho13, SlD.of ho24⟩, _, rfl, (St.keep1 (St.perm hs32 (L' := L30 ++ _) (perm_front (A := [_, _]) (List.Perm.refl _)))), ?_, ?_⟩
 · exact (by exact ho31)
 · exact VpD.ext' rfl rfl rfl rfl
end Go.Proofs.YtlmcekfdlgkffaaGreat
