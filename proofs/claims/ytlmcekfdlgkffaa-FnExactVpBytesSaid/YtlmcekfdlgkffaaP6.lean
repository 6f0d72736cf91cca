/- Walks of Go functions, printed by a program (wip/gen). -/
import Derived.Test.YtlmcekfdlgkffaaP5
namespace Go.Proofs.Ytlmcekfdlgkffaa
open Go Go.RowKit
set_option linter.unusedVariables false
set_option linter.unusedSimpArgs false
theorem c_impl_Vp_digit (p : VpR) (d : Int) (w : World) (f_p : okVpR 1099511627776 w p) (hsm : smVp 1048576 p.dat) (hok : areArgs p.dat.Args = true) (hd : 0 ≤ d ∧ d ≤ 9) :
    Calls Try.prog 186 #[.agg #[i64 p.State, .bool p.Mark, .slice p.Args.A p.Args.n p.Args.c, .slice p.Part.A p.Part.n p.Part.c], i64 d] w fun e w' => ∃ r L1, e = .returned (.agg #[i64 r.State, .bool r.Mark, .slice r.Args.A r.Args.n r.Args.c, .slice r.Part.A r.Part.n r.Part.c]) ∧ St w [] L1 w' ∧ ownVpR r L1 ∧ r.dat = vpDigit p.dat d := by
 have nb_p_Args := f_p.Args_n
 have nl_p_Args := f_p.Args.len
 have nb_p_Part := f_p.Part_n
 have nl_p_Part := f_p.Part.len
 have hsB : smVp 1099511627776 p.dat := ⟨Nat.le_trans hsm.1 (by decide), Nat.le_trans hsm.2 (by decide)⟩
 have hsa : p.Args.xs.length ≤ 1048576 := hsm.1
 have hsp : p.Part.xs.length ≤ 1048576 := hsm.2
 refine enter (vs := [.agg #[i64 p.State, .bool p.Mark, .slice p.Args.A p.Args.n p.Args.c, .slice p.Part.A p.Part.n p.Part.c], i64 d]) 32 Try.func186 rfl Try.ntmps186 rfl rfl ?_
 have hs1 := St.init w
 refine WC.sr ?_
 refine WL.bx hs1 rfl (fun b2 _ hs3 => ?_)
 refine WL.al hs3 Try.zeroValue25 rfl rfl (fun b4 _ hs5 => ?_)
 refine WL.nil ?_
 refine WC.sr ?_
 refine WL.run tbk 1 hs5 [1] rfl ⟨rfl, trivial⟩ ?_
 refine WL.call rfl rfl rfl (Run.call Try.call140 rfl rfl rfl) (c_impl_copyVp p _ (okVpR.st0 f_p hs5) ?_) ?_
 · first | assumption | rfl | omega
 rintro _ whs6 ⟨r7, L18, rfl, hs6, ho9, hd10⟩
 replace hs6 := hs5.callF hs6
 refine ⟨_, rfl, ?_⟩
 replace hs6 := St.back [_, _] hs6
 have hlr := ownVpR.len ho9
 have hxr : r7.Args.xs = p.Args.xs := congrArg VpD.Args hd10
 have hpr : r7.Part.xs = p.Part.xs := congrArg VpD.Part hd10
 have hxp : p.dat.Args = p.Args.xs := rfl
 have hlx : r7.Args.xs.length = p.Args.xs.length := by rw [hxr]
 have hly : r7.Part.xs.length = p.Part.xs.length := by rw [hpr]
 refine WL.al hs6 Try.zeroValue25 rfl rfl (fun b11 _ hs12 => ?_)
 refine WL.st tbk hs12 0 rfl rfl (fun _ hs13 => ?_)
 refine WL.nil ?_
 refine WC.seq (fun K14 hK14 => ?_)
 refine WC.rr tbk hs13 [0] rfl ⟨rfl, trivial⟩ ?_
 refine WC.cD rfl (fun qh15 => ?_) (fun qh15 => ?_)
 ·have gb : gat encI [0] ((([0] : List Int).length : Int) - 1).toNat = 0 := rfl
  refine WC.region ?_
  refine WL.buildF (F := encI) hs13 ([0]) Try.runUnderlying22 Try.sizeOf3 Try.zeroValue3 rfl rfl rfl rfl rfl rfl rfl rfl rfl rfl rfl rfl (fun A19 c20 L16 whs17 hs17 ho18 => ?_)
  replace hs17 := St.back [_, _, _] hs17
  refine WL.run tbk 1 hs17 [] rfl trivial ?_
  refine WL.st tbk hs17 0 rfl rfl (fun _ hs21 => ?_)
  refine WL.nil ?_
  refine hK14 _ _ ?_
  refine WC.sr ?_
  refine WL.run tbk 6 hs21 [0, 0] rfl ⟨by first | omega | (simp; done) | (simp; omega) | omega, rfl, rfl, trivial⟩ ?_
  refine WL.val rfl rfl rfl (Run.idx Try.runUnderlying22 Try.sizeOf3 rfl rfl rfl ?_ ?_ ?_) ?_
  · exact SlF.some_ (SlF.ofOwn ho18 (fun p_ hp_ => (hs21.own p_ (List.mem_append_right [_, _, _] (List.mem_append_left _ hp_))).1))
  · first | omega | (simp; done) | (simp; omega) | omega
  · first | omega | (simp; done) | (simp; omega) | omega
  refine WL.run tbk 1 hs21 [] rfl trivial ?_
  refine WL.nil ?_
  refine WC.sr ?_
  refine WL.run tbk 2 hs21 [] rfl trivial ?_
  refine WL.val rfl rfl rfl (Run.nilCheck rfl rfl) ?_
  refine WL.val rfl rfl rfl (Run.load Try.isAgg3 rfl rfl (SlF.one1 (SlF.ofOwn ho18 (fun p_ hp_ => (hs21.own p_ (List.mem_append_right [_, _, _] (List.mem_append_left _ hp_))).1)) ?_ rfl)) ?_
  · first | omega | (simp; done) | (simp; omega) | omega
  refine WL.run tbk 4 hs21 [] rfl ⟨by first | omega | (simp; done) | (simp; omega) | omega, by first | omega | (simp; done) | (simp; omega) | omega, trivial⟩ ?_
  refine WL.val rfl rfl rfl (Run.nilCheck rfl rfl) ?_
  refine WL.storeF1 (x' := _) (St.perm hs21 (L' := L16 ++ _) (perm_front (A := [_, _, _]) (List.Perm.refl _))) ho18 Try.sizeOf3 rfl rfl rfl rfl rfl rfl rfl rfl rfl ?_ rfl (fun L22 whs23 hs23 ho24 _ => ?_)
  · first | omega | (simp; done) | (simp; omega) | omega
  replace hs23 := St.back [_, _, _] hs23
  refine WL.nil ?_
  refine WC.sr ?_
  refine WL.run tbk 1 hs23 [0] rfl ⟨rfl, trivial⟩ ?_
  refine WL.st tbk hs23 1 rfl rfl (fun _ hs25 => ?_)
  refine WL.nil ?_
  refine WC.ret ?_
  refine retV1 rfl (resV.cellA tbk hs25 1 rfl rfl rfl rfl) ?_
  obtain ⟨L26, L27, hs30, ho28, ho29⟩ := ownVpR.open_ (St.perm hs25 (L' := L18 ++ _) (perm_front (A := [_, _, _]) (perm_front (A := L22) (List.Perm.refl _)))) ho9
  have hs31 := (St.perm (St.perm (St.perm hs30 (L' := [_] ++ _) (perm_front (A := L26) (perm_front (A := L27) (perm_front (A := [_, _]) (List.Perm.refl _))))) (L' := [_] ++ _) (perm_front (A := [_]) (perm_front (A := L26) (perm_front (A := L27) (perm_front (A := [_]) (List.Perm.refl _)))))) (L' := [_] ++ _) (perm_front (A := [_, _]) (perm_front (A := L26) (perm_front (A := L27) (List.Perm.refl _)))))
  obtain ⟨L33, hs32, ho34⟩ := ownVpR.fold ⟨0, false, ⟨_, _, _, _⟩, ⟨_, _, _, _⟩⟩ (St.perm (St.perm hs31 (L' := L27 ++ _) (perm_front (A := [_, _, _]) (perm_front (A := L26) (List.Perm.refl _)))) (L' := L22 ++ _) (perm_front (A := L27) (perm_front (A := [_, _, _]) (perm_front (A := L26) (List.Perm.refl _))))) ho24 ho29
  have hs35 := (St.perm (St.perm (St.perm hs32 (L' := [_] ++ _) (perm_front (A := L33) (perm_front (A := [_, _]) (List.Perm.refl _)))) (L' := [_] ++ _) (perm_front (A := [_]) (perm_front (A := L33) (perm_front (A := [_]) (List.Perm.refl _))))) (L' := [_] ++ _) (perm_front (A := [_, _]) (perm_front (A := L33) (List.Perm.refl _))))
  refine ⟨⟨r7.State, r7.Mark, SlD.of ho24, SlD.of ho29⟩, _, rfl, (St.keep1 (St.perm hs35 (L' := L33 ++ _) (perm_front (A := [_, _, _]) (List.Perm.refl _)))), ?_, ?_⟩
  · exact (by exact ho34)
  · show VpD.mk r7.State r7.Mark _ r7.Part.xs = _
    rw [← hd10, vpDigit_A (show r7.dat.Args.length = 0 from (by omega : r7.Args.xs.length = 0))]; rfl
 ·have gb := areArgs_gat (k := ((r7.Args.n : Int) - 1).toNat) hok (by rw [hxp, ← hxr]; omega)
  rw [hxp, ← hxr] at gb
  refine WC.skip ?_
  refine hK14 _ _ ?_
  refine WC.sr ?_
  refine WL.run tbk 6 hs13 [0, 0] rfl ⟨by first | omega | (simp; done) | (simp; omega) | omega, rfl, rfl, trivial⟩ ?_
  refine WL.val rfl rfl rfl (Run.idx Try.runUnderlying22 Try.sizeOf3 rfl rfl rfl ?_ ?_ ?_) ?_
  · exact SlF.some_ (ownVpR.ok (B := 1099511627776) ho9 (fun p_ hp_ => (hs13.own p_ (List.mem_append_right [_, _, _] (List.mem_append_left _ hp_))).1) (by rw [hd10]; assumption)).Args
  · first | omega | (simp; done) | (simp; omega) | omega
  · first | omega | (simp; done) | (simp; omega) | omega
  refine WL.run tbk 1 hs13 [] rfl trivial ?_
  refine WL.nil ?_
  refine WC.sr ?_
  refine WL.run tbk 2 hs13 [] rfl trivial ?_
  refine WL.val rfl rfl rfl (Run.nilCheck rfl rfl) ?_
  refine WL.val rfl rfl rfl (Run.load Try.isAgg3 rfl rfl (SlF.one1 (ownVpR.ok (B := 1099511627776) ho9 (fun p_ hp_ => (hs13.own p_ (List.mem_append_right [_, _, _] (List.mem_append_left _ hp_))).1) (by rw [hd10]; assumption)).Args ?_ rfl)) ?_
  · first | omega | (simp; done) | (simp; omega) | omega
  refine WL.run tbk 4 hs13 [] rfl ⟨by first | omega | (simp; done) | (simp; omega) | omega, by first | omega | (simp; done) | (simp; omega) | omega, trivial⟩ ?_
  refine WL.val rfl rfl rfl (Run.nilCheck rfl rfl) ?_
  obtain ⟨L36, L37, hs40, ho38, ho39⟩ := ownVpR.open_ (St.perm hs13 (L' := L18 ++ _) (perm_front (A := [_, _, _]) (List.Perm.refl _))) ho9
  have hs41 := (St.perm (St.perm (St.perm hs40 (L' := [_] ++ _) (perm_front (A := L36) (perm_front (A := L37) (perm_front (A := [_, _]) (List.Perm.refl _))))) (L' := [_] ++ _) (perm_front (A := [_]) (perm_front (A := L36) (perm_front (A := L37) (perm_front (A := [_]) (List.Perm.refl _)))))) (L' := [_] ++ _) (perm_front (A := [_, _]) (perm_front (A := L36) (perm_front (A := L37) (List.Perm.refl _)))))
  refine WL.storeF1 (x' := _) (St.perm hs41 (L' := L36 ++ _) (perm_front (A := [_, _, _]) (List.Perm.refl _))) ho38 Try.sizeOf3 rfl rfl rfl rfl rfl rfl rfl rfl rfl ?_ rfl (fun L42 whs43 hs43 ho44 _ => ?_)
  · first | omega | (simp; done) | (simp; omega) | omega
  replace hs43 := St.back [_, _, _] hs43
  refine WL.nil ?_
  refine WC.sr ?_
  refine WL.run tbk 1 hs43 [0] rfl ⟨rfl, trivial⟩ ?_
  refine WL.st tbk hs43 1 rfl rfl (fun _ hs45 => ?_)
  refine WL.nil ?_
  refine WC.ret ?_
  refine retV1 rfl (resV.cellA tbk hs45 1 rfl rfl rfl rfl) ?_
  obtain ⟨L47, hs46, ho48⟩ := ownVpR.fold ⟨0, false, ⟨_, _, _, _⟩, ⟨_, _, _, _⟩⟩ (St.perm (St.perm hs45 (L' := L37 ++ _) (perm_front (A := [_, _, _]) (perm_front (A := L42) (List.Perm.refl _)))) (L' := L42 ++ _) (perm_front (A := L37) (perm_front (A := [_, _, _]) (List.Perm.refl _)))) ho44 ho39
  have hs49 := (St.perm (St.perm (St.perm hs46 (L' := [_] ++ _) (perm_front (A := L47) (perm_front (A := [_, _]) (List.Perm.refl _)))) (L' := [_] ++ _) (perm_front (A := [_]) (perm_front (A := L47) (perm_front (A := [_]) (List.Perm.refl _))))) (L' := [_] ++ _) (perm_front (A := [_, _]) (perm_front (A := L47) (List.Perm.refl _))))
  refine ⟨⟨r7.State, r7.Mark, SlD.of ho44, SlD.of ho39⟩, _, rfl, (St.keep1 (St.perm hs49 (L' := L47 ++ _) (perm_front (A := [_, _, _]) (List.Perm.refl _)))), ?_, ?_⟩
  · exact (by exact ho48)
  · show VpD.mk r7.State r7.Mark (r7.Args.xs.set ((r7.Args.n : Int) - 1).toNat (min 9999 (10 * gat encI r7.Args.xs ((r7.Args.n : Int) - 1).toNat + d))) r7.Part.xs = _
    rw [← hd10, vpDigit_B (show ¬ r7.dat.Args.length = 0 from (by omega : ¬ r7.Args.xs.length = 0)), show ((r7.Args.n : Int) - 1).toNat = r7.Args.xs.length - 1 by omega]; rfl
theorem c_impl_Vp_next (p : VpR) (w : World) (f_p : okVpR 1099511627776 w p) (hsm : smVp 1048576 p.dat) (hok : areArgs p.dat.Args = true) :
    Calls Try.prog 187 #[.agg #[i64 p.State, .bool p.Mark, .slice p.Args.A p.Args.n p.Args.c, .slice p.Part.A p.Part.n p.Part.c]] w fun e w' => ∃ r L1, e = .returned (.agg #[i64 r.State, .bool r.Mark, .slice r.Args.A r.Args.n r.Args.c, .slice r.Part.A r.Part.n r.Part.c]) ∧ St w [] L1 w' ∧ ownVpR r L1 ∧ r.dat = vpNext p.dat := by
 have nb_p_Args := f_p.Args_n
 have nl_p_Args := f_p.Args.len
 have nb_p_Part := f_p.Part_n
 have nl_p_Part := f_p.Part.len
 have hsB : smVp 1099511627776 p.dat := ⟨Nat.le_trans hsm.1 (by decide), Nat.le_trans hsm.2 (by decide)⟩
 have hsa : p.Args.xs.length ≤ 1048576 := hsm.1
 have hsp : p.Part.xs.length ≤ 1048576 := hsm.2
 refine enter (vs := [.agg #[i64 p.State, .bool p.Mark, .slice p.Args.A p.Args.n p.Args.c, .slice p.Part.A p.Part.n p.Part.c]]) 27 Try.func187 rfl Try.ntmps187 rfl rfl ?_
 have hs1 := St.init w
 refine WC.sr ?_
 refine WL.bx hs1 rfl (fun b2 _ hs3 => ?_)
 refine WL.al hs3 Try.zeroValue25 rfl rfl (fun b4 _ hs5 => ?_)
 refine WL.nil ?_
 refine WC.sr ?_
 refine WL.run tbk 1 hs5 [1] rfl ⟨rfl, trivial⟩ ?_
 refine WL.call rfl rfl rfl (Run.call Try.call140 rfl rfl rfl) (c_impl_copyVp p _ (okVpR.st0 f_p hs5) ?_) ?_
 · first | assumption | rfl | omega
 rintro _ whs6 ⟨r7, L18, rfl, hs6, ho9, hd10⟩
 replace hs6 := hs5.callF hs6
 refine ⟨_, rfl, ?_⟩
 replace hs6 := St.back [_, _] hs6
 have hlr := ownVpR.len ho9
 have hxr : r7.Args.xs = p.Args.xs := congrArg VpD.Args hd10
 have hpr : r7.Part.xs = p.Part.xs := congrArg VpD.Part hd10
 have hxp : p.dat.Args = p.Args.xs := rfl
 have hlx : r7.Args.xs.length = p.Args.xs.length := by rw [hxr]
 have hly : r7.Part.xs.length = p.Part.xs.length := by rw [hpr]
 refine WL.al hs6 Try.zeroValue25 rfl rfl (fun b11 _ hs12 => ?_)
 refine WL.st tbk hs12 0 rfl rfl (fun _ hs13 => ?_)
 refine WL.nil ?_
 refine WC.seq (fun K14 hK14 => ?_)
 refine WC.rr tbk hs13 [0] rfl ⟨rfl, trivial⟩ ?_
 refine WC.cD rfl (fun qh15 => ?_) (fun qh15 => ?_)
 ·refine WC.region ?_
  refine WL.buildF (F := encI) hs13 ([0]) Try.runUnderlying22 Try.sizeOf3 Try.zeroValue3 rfl rfl rfl rfl rfl rfl rfl rfl rfl rfl rfl rfl (fun A19 c20 L16 whs17 hs17 ho18 => ?_)
  replace hs17 := St.back [_, _, _] hs17
  refine WL.run tbk 1 hs17 [] rfl trivial ?_
  refine WL.st tbk hs17 0 rfl rfl (fun _ hs21 => ?_)
  refine WL.nil ?_
  refine hK14 _ _ ?_
  refine WC.seq (fun K22 hK22 => ?_)
  refine WC.sr ?_
  refine WL.run tbk 2 hs21 [0] rfl ⟨rfl, trivial⟩ ?_
  refine WL.buildSlice hs21 Try.runUnderlying22 Try.sizeOf3 Try.zeroValue3 rfl rfl rfl rfl rfl rfl rfl rfl rfl rfl (fun b23 whs24 hs24 => ?_)
  refine WL.appendG (St.perm hs24 (L' := L16 ++ _) (perm_front (A := [_, _, _, _]) (List.Perm.refl _))) ho18 (srcI1 Try.underlying22 (hs24.own _ (nthL_mem (i := 0) rfl)).1) Try.underlying22 info_3 rfl rfl rfl rfl rfl rfl rfl rfl rfl rfl ?_ (fun A28 c29 L25 whs26 hs26 ho27 => ?_)
  · first | omega | (simp; done) | (simp; omega) | omega
  replace hs26 := St.back [_, _, _, _] hs26
  refine WL.run tbk 1 hs26 [] rfl trivial ?_
  refine WL.st tbk hs26 1 rfl rfl (fun _ hs30 => ?_)
  refine WL.nil ?_
  refine WC.rr tbk hs30 [1] rfl ⟨rfl, trivial⟩ ?_
  refine WC.cD rfl (fun qh31 => ?_) (fun qh31 => ?_)
  ·refine WC.regionH2 (fun w' => St _ _ _ w') (fun w' => St _ _ _ w') mixed (St.drew (St.drop hs30 (List.Sublist.cons_cons _ (List.Sublist.cons _ (List.Sublist.cons_cons _ (List.Sublist.cons_cons _ (List.Sublist.refl _))))))) (St.drew hs30) (fun whs32 hs32 => ?_)
   replace hs32 : St _ _ _ _ := hs32
   refine WH.take 0 rfl (by kernel_rfl) rfl rfl rfl (St.drop hs32 (List.Sublist.cons_cons _ (List.Sublist.cons _ (List.Sublist.cons_cons _ (List.Sublist.cons_cons _ (List.Sublist.refl _)))))) (fun w_ hs_ => (Run.field Try.runUnderlying25 rfl rfl rfl Try.sizeOf22 rfl)) ?_
   refine WH.all [1] (by kernel_rfl) rfl (WHs.cons (i := 1) rfl ?_ WHs.nil)
   refine WL.run tbk 1 hs32 [1] rfl ⟨rfl, trivial⟩ ?_
   refine WL.nil ⟨(St.drop hs32 (List.Sublist.cons_cons _ (List.Sublist.cons _ (List.Sublist.cons_cons _ (List.Sublist.cons_cons _ (List.Sublist.refl _)))))), ?_⟩
   have ho33 := OwnF.take (k := 8) ho27 (by first | omega | (simp at *; done) | (simp at *; omega) | omega)
   have hcho33 := OwnF.cap ho33
   refine WH.take 2 rfl (by kernel_rfl) rfl rfl rfl (St.drop hs32 (List.Sublist.cons_cons _ (List.Sublist.cons _ (List.Sublist.cons_cons _ (List.Sublist.cons_cons _ (List.Sublist.refl _)))))) (fun w_ hs_ => (Run.sliceH0 (8) Try.runUnderlying22 Try.sizeOf3 rfl rfl rfl ?_ ?_)) ?_
   · first | rfl | (first | omega | (simp at *; done) | (simp at *; omega) | omega)
   · first | (exact Nat.zero_le _) | (first | omega | (simp at *; done) | (simp at *; omega) | omega)
   refine WH.take 3 rfl (by kernel_rfl) rfl rfl rfl (St.drop hs32 (List.Sublist.cons_cons _ (List.Sublist.cons _ (List.Sublist.cons_cons _ (List.Sublist.cons_cons _ (List.Sublist.refl _)))))) (fun w_ hs_ => (Run.field Try.runUnderlying25 rfl rfl rfl Try.sizeOf3 rfl)) ?_
   refine WH.all [4] (by kernel_rfl) rfl (WHs.cons (i := 4) rfl ?_ WHs.nil)
   refine WL.st tbk hs32 1 rfl rfl (fun _ hs34 => ?_)
   refine WL.nil ⟨(St.drop hs34 (List.Sublist.cons_cons _ (List.Sublist.cons _ (List.Sublist.cons_cons _ (List.Sublist.cons_cons _ (List.Sublist.refl _)))))), ?_⟩
   refine WH.take 5 rfl (by kernel_rfl) rfl rfl rfl (St.drop hs34 (List.Sublist.cons_cons _ (List.Sublist.cons _ (List.Sublist.cons_cons _ (List.Sublist.cons_cons _ (List.Sublist.refl _)))))) (fun w_ hs_ => (Run.field Try.runUnderlying25 rfl rfl rfl Try.sizeOf22 rfl)) ?_
   refine WH.all [6] (by kernel_rfl) rfl (WHs.cons (i := 6) rfl ?_ WHs.nil)
   refine WL.st tbk hs34 1 rfl rfl (fun _ hs35 => ?_)
   refine WL.nil ⟨(St.drop hs35 (List.Sublist.cons_cons _ (List.Sublist.cons _ (List.Sublist.cons_cons _ (List.Sublist.cons_cons _ (List.Sublist.refl _)))))), ?_⟩
   refine WH.done (by kernel_rfl) ?_
   refine hK22 _ _ ?_
   refine WC.sr ?_
   refine WL.run tbk 1 hs35 [1] rfl ⟨rfl, trivial⟩ ?_
   refine WL.st tbk hs35 2 rfl rfl (fun _ hs36 => ?_)
   refine WL.nil ?_
   refine WC.ret ?_
   refine retV1 rfl (resV.cellA tbk hs36 2 rfl rfl rfl rfl) ?_
   obtain ⟨L37, L38, hs41, ho39, ho40⟩ := ownVpR.open_ (St.perm hs36 (L' := L18 ++ _) (perm_front (A := [_, _, _, _]) (perm_front (A := L25) (List.Perm.refl _)))) ho9
   have hs42 := (St.perm (St.perm (St.perm (St.perm hs41 (L' := [_] ++ _) (perm_front (A := L37) (perm_front (A := L38) (perm_front (A := [_, _, _]) (List.Perm.refl _))))) (L' := [_] ++ _) (perm_front (A := [_]) (perm_front (A := L37) (perm_front (A := L38) (perm_front (A := [_, _]) (List.Perm.refl _)))))) (L' := [_] ++ _) (perm_front (A := [_, _]) (perm_front (A := L37) (perm_front (A := L38) (perm_front (A := [_]) (List.Perm.refl _)))))) (L' := [_] ++ _) (perm_front (A := [_, _, _]) (perm_front (A := L37) (perm_front (A := L38) (List.Perm.refl _)))))
   obtain ⟨L44, hs43, ho45⟩ := ownVpR.fold ⟨0, false, ⟨_, _, _, _⟩, ⟨_, _, _, _⟩⟩ (St.perm (St.perm hs42 (L' := L38 ++ _) (perm_front (A := [_, _, _, _]) (perm_front (A := L37) (List.Perm.refl _)))) (L' := L25 ++ _) (perm_front (A := L38) (perm_front (A := [_, _, _, _]) (perm_front (A := L37) (List.Perm.refl _))))) ho33 ho40
   have hs46 := (St.perm (St.perm (St.perm (St.perm hs43 (L' := [_] ++ _) (perm_front (A := L44) (perm_front (A := [_, _, _]) (List.Perm.refl _)))) (L' := [_] ++ _) (perm_front (A := [_]) (perm_front (A := L44) (perm_front (A := [_, _]) (List.Perm.refl _))))) (L' := [_] ++ _) (perm_front (A := [_, _]) (perm_front (A := L44) (perm_front (A := [_]) (List.Perm.refl _))))) (L' := [_] ++ _) (perm_front (A := [_, _, _]) (perm_front (A := L44) (List.Perm.refl _))))
   refine ⟨⟨(3), r7.Mark, SlD.of ho33, SlD.of ho40⟩, _, rfl, (St.keep1 (St.perm hs46 (L' := L44 ++ _) (perm_front (A := [_, _, _, _]) (List.Perm.refl _)))), ?_, ?_⟩
   · exact (by exact ho45)
   · exfalso; simp at qh31
  ·refine WC.skip ?_
   refine hK22 _ _ ?_
   refine WC.sr ?_
   refine WL.run tbk 1 hs30 [1] rfl ⟨rfl, trivial⟩ ?_
   refine WL.st tbk hs30 2 rfl rfl (fun _ hs47 => ?_)
   refine WL.nil ?_
   refine WC.ret ?_
   refine retV1 rfl (resV.cellA tbk hs47 2 rfl rfl rfl rfl) ?_
   obtain ⟨L48, L49, hs52, ho50, ho51⟩ := ownVpR.open_ (St.perm hs47 (L' := L18 ++ _) (perm_front (A := [_, _, _, _]) (perm_front (A := L25) (List.Perm.refl _)))) ho9
   have hs53 := (St.perm (St.perm (St.perm (St.perm hs52 (L' := [_] ++ _) (perm_front (A := L48) (perm_front (A := L49) (perm_front (A := [_, _, _]) (List.Perm.refl _))))) (L' := [_] ++ _) (perm_front (A := [_]) (perm_front (A := L48) (perm_front (A := L49) (perm_front (A := [_, _]) (List.Perm.refl _)))))) (L' := [_] ++ _) (perm_front (A := [_, _]) (perm_front (A := L48) (perm_front (A := L49) (perm_front (A := [_]) (List.Perm.refl _)))))) (L' := [_] ++ _) (perm_front (A := [_, _, _]) (perm_front (A := L48) (perm_front (A := L49) (List.Perm.refl _)))))
   obtain ⟨L55, hs54, ho56⟩ := ownVpR.fold ⟨0, false, ⟨_, _, _, _⟩, ⟨_, _, _, _⟩⟩ (St.perm (St.perm hs53 (L' := L49 ++ _) (perm_front (A := [_, _, _, _]) (perm_front (A := L48) (List.Perm.refl _)))) (L' := L25 ++ _) (perm_front (A := L49) (perm_front (A := [_, _, _, _]) (perm_front (A := L48) (List.Perm.refl _))))) ho27 ho51
   have hs57 := (St.perm (St.perm (St.perm (St.perm hs54 (L' := [_] ++ _) (perm_front (A := L55) (perm_front (A := [_, _, _]) (List.Perm.refl _)))) (L' := [_] ++ _) (perm_front (A := [_]) (perm_front (A := L55) (perm_front (A := [_, _]) (List.Perm.refl _))))) (L' := [_] ++ _) (perm_front (A := [_, _]) (perm_front (A := L55) (perm_front (A := [_]) (List.Perm.refl _))))) (L' := [_] ++ _) (perm_front (A := [_, _, _]) (perm_front (A := L55) (List.Perm.refl _))))
   refine ⟨⟨r7.State, r7.Mark, SlD.of ho27, SlD.of ho51⟩, _, rfl, (St.keep1 (St.perm hs57 (L' := L55 ++ _) (perm_front (A := [_, _, _, _]) (List.Perm.refl _)))), ?_, ?_⟩
   · exact (by exact ho56)
   · show VpD.mk r7.State r7.Mark _ r7.Part.xs = _
     rw [← hd10, vpNext_A (show r7.dat.Args.length = 0 from (by omega : r7.Args.xs.length = 0))]; rfl
 ·refine WC.skip ?_
  refine hK14 _ _ ?_
  refine WC.seq (fun K58 hK58 => ?_)
  refine WC.sr ?_
  refine WL.run tbk 2 hs13 [0] rfl ⟨rfl, trivial⟩ ?_
  refine WL.buildSlice hs13 Try.runUnderlying22 Try.sizeOf3 Try.zeroValue3 rfl rfl rfl rfl rfl rfl rfl rfl rfl rfl (fun b59 whs60 hs60 => ?_)
  obtain ⟨L61, L62, hs65, ho63, ho64⟩ := ownVpR.open_ (St.perm hs60 (L' := L18 ++ _) (perm_front (A := [_, _, _, _]) (List.Perm.refl _))) ho9
  have hs66 := (St.perm (St.perm (St.perm (St.perm hs65 (L' := [_] ++ _) (perm_front (A := L61) (perm_front (A := L62) (perm_front (A := [_, _, _]) (List.Perm.refl _))))) (L' := [_] ++ _) (perm_front (A := [_]) (perm_front (A := L61) (perm_front (A := L62) (perm_front (A := [_, _]) (List.Perm.refl _)))))) (L' := [_] ++ _) (perm_front (A := [_, _]) (perm_front (A := L61) (perm_front (A := L62) (perm_front (A := [_]) (List.Perm.refl _)))))) (L' := [_] ++ _) (perm_front (A := [_, _, _]) (perm_front (A := L61) (perm_front (A := L62) (List.Perm.refl _)))))
  refine WL.appendG (St.perm hs66 (L' := L61 ++ _) (perm_front (A := [_, _, _, _]) (List.Perm.refl _))) ho63 (srcI1 Try.underlying22 (hs66.own _ (nthL_mem (i := 0) rfl)).1) Try.underlying22 info_3 rfl rfl rfl rfl rfl rfl rfl rfl rfl rfl ?_ (fun A70 c71 L67 whs68 hs68 ho69 => ?_)
  · first | omega | (simp; done) | (simp; omega) | omega
  replace hs68 := St.back [_, _, _, _] hs68
  refine WL.run tbk 1 hs68 [] rfl trivial ?_
  refine WL.st tbk hs68 1 rfl rfl (fun _ hs72 => ?_)
  refine WL.nil ?_
  refine WC.rr tbk hs72 [1] rfl ⟨rfl, trivial⟩ ?_
  refine WC.cD rfl (fun qh73 => ?_) (fun qh73 => ?_)
  ·refine WC.regionH2 (fun w' => St _ _ _ w') (fun w' => St _ _ _ w') mixed (St.drew (St.drop hs72 (List.Sublist.cons_cons _ (List.Sublist.cons _ (List.Sublist.cons_cons _ (List.Sublist.cons_cons _ (List.Sublist.refl _))))))) (St.drew hs72) (fun whs74 hs74 => ?_)
   replace hs74 : St _ _ _ _ := hs74
   refine WH.take 0 rfl (by kernel_rfl) rfl rfl rfl (St.drop hs74 (List.Sublist.cons_cons _ (List.Sublist.cons _ (List.Sublist.cons_cons _ (List.Sublist.cons_cons _ (List.Sublist.refl _)))))) (fun w_ hs_ => (Run.field Try.runUnderlying25 rfl rfl rfl Try.sizeOf22 rfl)) ?_
   refine WH.all [1] (by kernel_rfl) rfl (WHs.cons (i := 1) rfl ?_ WHs.nil)
   refine WL.run tbk 1 hs74 [1] rfl ⟨rfl, trivial⟩ ?_
   refine WL.nil ⟨(St.drop hs74 (List.Sublist.cons_cons _ (List.Sublist.cons _ (List.Sublist.cons_cons _ (List.Sublist.cons_cons _ (List.Sublist.refl _)))))), ?_⟩
   have ho75 := OwnF.take (k := 8) ho69 (by first | omega | (simp at *; done) | (simp at *; omega) | omega)
   have hcho75 := OwnF.cap ho75
   refine WH.take 2 rfl (by kernel_rfl) rfl rfl rfl (St.drop hs74 (List.Sublist.cons_cons _ (List.Sublist.cons _ (List.Sublist.cons_cons _ (List.Sublist.cons_cons _ (List.Sublist.refl _)))))) (fun w_ hs_ => (Run.sliceH0 (8) Try.runUnderlying22 Try.sizeOf3 rfl rfl rfl ?_ ?_)) ?_
   · first | rfl | (first | omega | (simp at *; done) | (simp at *; omega) | omega)
   · first | (exact Nat.zero_le _) | (first | omega | (simp at *; done) | (simp at *; omega) | omega)
   refine WH.take 3 rfl (by kernel_rfl) rfl rfl rfl (St.drop hs74 (List.Sublist.cons_cons _ (List.Sublist.cons _ (List.Sublist.cons_cons _ (List.Sublist.cons_cons _ (List.Sublist.refl _)))))) (fun w_ hs_ => (Run.field Try.runUnderlying25 rfl rfl rfl Try.sizeOf3 rfl)) ?_
   refine WH.all [4] (by kernel_rfl) rfl (WHs.cons (i := 4) rfl ?_ WHs.nil)
   refine WL.st tbk hs74 1 rfl rfl (fun _ hs76 => ?_)
   refine WL.nil ⟨(St.drop hs76 (List.Sublist.cons_cons _ (List.Sublist.cons _ (List.Sublist.cons_cons _ (List.Sublist.cons_cons _ (List.Sublist.refl _)))))), ?_⟩
   refine WH.take 5 rfl (by kernel_rfl) rfl rfl rfl (St.drop hs76 (List.Sublist.cons_cons _ (List.Sublist.cons _ (List.Sublist.cons_cons _ (List.Sublist.cons_cons _ (List.Sublist.refl _)))))) (fun w_ hs_ => (Run.field Try.runUnderlying25 rfl rfl rfl Try.sizeOf22 rfl)) ?_
   refine WH.all [6] (by kernel_rfl) rfl (WHs.cons (i := 6) rfl ?_ WHs.nil)
   refine WL.st tbk hs76 1 rfl rfl (fun _ hs77 => ?_)
   refine WL.nil ⟨(St.drop hs77 (List.Sublist.cons_cons _ (List.Sublist.cons _ (List.Sublist.cons_cons _ (List.Sublist.cons_cons _ (List.Sublist.refl _)))))), ?_⟩
   refine WH.done (by kernel_rfl) ?_
   refine hK58 _ _ ?_
   refine WC.sr ?_
   refine WL.run tbk 1 hs77 [1] rfl ⟨rfl, trivial⟩ ?_
   refine WL.st tbk hs77 2 rfl rfl (fun _ hs78 => ?_)
   refine WL.nil ?_
   refine WC.ret ?_
   refine retV1 rfl (resV.cellA tbk hs78 2 rfl rfl rfl rfl) ?_
   obtain ⟨L80, hs79, ho81⟩ := ownVpR.fold ⟨0, false, ⟨_, _, _, _⟩, ⟨_, _, _, _⟩⟩ (St.perm (St.perm hs78 (L' := L62 ++ _) (perm_front (A := [_, _, _, _]) (perm_front (A := L67) (List.Perm.refl _)))) (L' := L67 ++ _) (perm_front (A := L62) (perm_front (A := [_, _, _, _]) (List.Perm.refl _)))) ho75 ho64
   have hs82 := (St.perm (St.perm (St.perm (St.perm hs79 (L' := [_] ++ _) (perm_front (A := L80) (perm_front (A := [_, _, _]) (List.Perm.refl _)))) (L' := [_] ++ _) (perm_front (A := [_]) (perm_front (A := L80) (perm_front (A := [_, _]) (List.Perm.refl _))))) (L' := [_] ++ _) (perm_front (A := [_, _]) (perm_front (A := L80) (perm_front (A := [_]) (List.Perm.refl _))))) (L' := [_] ++ _) (perm_front (A := [_, _, _]) (perm_front (A := L80) (List.Perm.refl _))))
   refine ⟨⟨(3), r7.Mark, SlD.of ho75, SlD.of ho64⟩, _, rfl, (St.keep1 (St.perm hs82 (L' := L80 ++ _) (perm_front (A := [_, _, _, _]) (List.Perm.refl _)))), ?_, ?_⟩
   · exact (by exact ho81)
   · show VpD.mk 3 r7.Mark _ r7.Part.xs = _
     rw [← hd10, vpNext_C (show 8 < r7.dat.Args.length + 1 from (by simp at qh73; omega : 8 < r7.Args.xs.length + 1))]; rfl
  ·refine WC.skip ?_
   refine hK58 _ _ ?_
   refine WC.sr ?_
   refine WL.run tbk 1 hs72 [1] rfl ⟨rfl, trivial⟩ ?_
   refine WL.st tbk hs72 2 rfl rfl (fun _ hs83 => ?_)
   refine WL.nil ?_
   refine WC.ret ?_
   refine retV1 rfl (resV.cellA tbk hs83 2 rfl rfl rfl rfl) ?_
   obtain ⟨L85, hs84, ho86⟩ := ownVpR.fold ⟨0, false, ⟨_, _, _, _⟩, ⟨_, _, _, _⟩⟩ (St.perm (St.perm hs83 (L' := L62 ++ _) (perm_front (A := [_, _, _, _]) (perm_front (A := L67) (List.Perm.refl _)))) (L' := L67 ++ _) (perm_front (A := L62) (perm_front (A := [_, _, _, _]) (List.Perm.refl _)))) ho69 ho64
   have hs87 := (St.perm (St.perm (St.perm (St.perm hs84 (L' := [_] ++ _) (perm_front (A := L85) (perm_front (A := [_, _, _]) (List.Perm.refl _)))) (L' := [_] ++ _) (perm_front (A := [_]) (perm_front (A := L85) (perm_front (A := [_, _]) (List.Perm.refl _))))) (L' := [_] ++ _) (perm_front (A := [_, _]) (perm_front (A := L85) (perm_front (A := [_]) (List.Perm.refl _))))) (L' := [_] ++ _) (perm_front (A := [_, _, _]) (perm_front (A := L85) (List.Perm.refl _))))
   refine ⟨⟨r7.State, r7.Mark, SlD.of ho69, SlD.of ho64⟩, _, rfl, (St.keep1 (St.perm hs87 (L' := L85 ++ _) (perm_front (A := [_, _, _, _]) (List.Perm.refl _)))), ?_, ?_⟩
   · exact (by exact ho86)
   · show VpD.mk r7.State r7.Mark _ r7.Part.xs = _
     rw [← hd10, vpNext_B (show ¬ r7.dat.Args.length = 0 from (by omega : ¬ r7.Args.xs.length = 0)) (show r7.dat.Args.length + 1 ≤ 8 from (by simp at qh73; omega : r7.Args.xs.length + 1 ≤ 8))]; rfl
end Go.Proofs.Ytlmcekfdlgkffaa
