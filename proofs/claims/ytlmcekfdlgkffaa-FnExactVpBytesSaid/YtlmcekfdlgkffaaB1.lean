/- Walks of Go functions, printed by a program (wip/gen). -/
import Derived.Test.YtlmcekfdlgkffaaQ1
namespace Go.Proofs.Ytlmcekfdlgkffaa
open Go Go.RowKit
set_option linter.unusedVariables false
set_option linter.unusedSimpArgs false
theorem info_44 : Try.prog.info? 44 = some Try.t44 := by kernel_rfl
theorem c_impl_Vp_parse (p : VpR) (A_b : Option Addr) (n_b c_b : Nat) (b : List UInt8) (w : World) (f_p : okVpR 1099511627776 w p) (f_b : SlF encB w A_b n_b b) (hsm : smVp 1048576 p.dat) (hok : vpOk p.dat = true) (hn : n_b ≤ 1048576) :
    Calls Try.prog 77 #[.agg #[i64 p.State, .bool p.Mark, .slice p.Args.A p.Args.n p.Args.c, .slice p.Part.A p.Part.n p.Part.c], .slice A_b n_b c_b] w fun e w' => ∃ r0 L0 A1 c1 x1 L1, e = .returned (.tuple #[.agg #[i64 r0.State, .bool r0.Mark, .slice r0.Args.A r0.Args.n r0.Args.c, .slice r0.Part.A r0.Part.n r0.Part.c], .slice A1 x1.length c1]) ∧ St w [] (L0 ++ L1) w' ∧ ownVpR r0 L0 ∧ OwnN encActR ownActR 44 (.slice A1 x1.length c1) x1 L1 ∧ r0.dat = (vpParse p.dat b).1 ∧ x1.map ActR.dat = (vpParse p.dat b).2 := by
 have nb_p_Args := f_p.Args_n
 have nl_p_Args := f_p.Args.len
 have nb_p_Part := f_p.Part_n
 have nl_p_Part := f_p.Part.len
 have hsB : smVp 1099511627776 p.dat := ⟨Nat.le_trans hsm.1 (by decide), Nat.le_trans hsm.2 (by decide)⟩
 have hsa : p.Args.xs.length ≤ 1048576 := hsm.1
 have hsp : p.Part.xs.length ≤ 1048576 := hsm.2
 have hbl := f_b.len
 refine enter (vs := [.agg #[i64 p.State, .bool p.Mark, .slice p.Args.A p.Args.n p.Args.c, .slice p.Part.A p.Part.n p.Part.c], .slice A_b n_b c_b]) 39 Try.func77 rfl Try.ntmps77 rfl rfl ?_
 have hs1 := St.init w
 refine WC.sr ?_
 refine WL.bx hs1 rfl (fun b2 _ hs3 => ?_)
 refine WL.al hs3 Try.zeroValue25 rfl rfl (fun b4 _ hs5 => ?_)
 refine WL.run tbk 1 hs5 [] rfl trivial ?_
 refine WL.nil ?_
 refine WC.sr ?_
 refine WL.run tbk 1 hs5 [1] rfl ⟨rfl, trivial⟩ ?_
 refine WL.call rfl rfl rfl (Run.call Try.call140 rfl rfl rfl) (c_impl_copyVp p _ (okVpR.st0 f_p hs5) ?_) ?_
 · first | (first | assumption | rfl | omega) | (first | exact ⟨by omega, by omega⟩ | omega | (simp; omega))
 rintro _ whs6 ⟨r7, L18, rfl, hs6, ho9, hd10⟩
 replace hs6 := hs5.callF hs6
 refine ⟨_, rfl, ?_⟩
 replace hs6 := St.back [_, _] hs6
 skip
 refine WL.buildF (F := encActR) hs6 ([]) Try.runUnderlying53 Try.sizeOf44 Try.zeroValue44 rfl rfl rfl rfl rfl rfl rfl rfl rfl rfl rfl rfl (fun A14 c15 L11 whs12 hs12 ho13 => ?_)
 replace hs12 := St.back [_, _] hs12
 obtain ⟨L16, hs17, ho18⟩ := OwnN.fresh (own := ownActR) (St.perm hs12 (L' := L11 ++ _) (perm_front (A := [_, _]) (List.Perm.refl _))) ho13 Bag.nil
 have hs19 := (St.perm (St.perm hs17 (L' := [_] ++ _) (perm_front (A := L16) (perm_front (A := [_]) (List.Perm.refl _)))) (L' := [_] ++ _) (perm_front (A := [_]) (perm_front (A := L16) (List.Perm.refl _))))
 refine WL.al hs19 Try.zeroValue25 rfl rfl (fun b20 _ hs21 => ?_)
 refine WL.st tbk hs21 0 rfl rfl (fun _ hs22 => ?_)
 refine WL.run tbk 1 hs22 [] rfl trivial ?_
 refine WL.nil ?_
 refine WC.seq (fun K23 hK23 => ?_)
 refine WC.rr tbk hs22 [] rfl trivial ?_
 refine WC.block ?_
 have hM32 := (St.grp2 (L1 := L18) (L2 := L16) [_] (St.perm (St.perm (St.perm (St.perm (St.perm hs22 (L' := [_] ++ _) (perm_front (A := [_, _]) (List.Perm.refl _))) (L' := [_] ++ _) (perm_front (A := [_, _]) (List.Perm.refl _))) (L' := L16 ++ _) (perm_front (A := [_, _, _]) (List.Perm.refl _))) (L' := L18 ++ _) (perm_front (A := L16) (perm_front (A := [_, _, _]) (List.Perm.refl _)))) (L' := [_] ++ _) (perm_front (A := L18) (perm_front (A := L16) (perm_front (A := [_, _]) (List.Perm.refl _))))))
 refine WC.loopV (α := Hp) [(0, _), (1, _), (2, _), (4, _), (5, _), (6, _), (12, _), (13, _), (14, _), (15, _), (16, _)] ⟨rfl, rfl, rfl, rfl, rfl, rfl, rfl, rfl, rfl, rfl, rfl, trivial⟩ (fun a_ => a_) _ hM32 (fun k_ (a_ : Hp) f => ∃ (i : Nat) (acts : List ActR) (r : VpR) (L26 : Hp) (A28 : Option Addr) (c29 : Nat) (L30 : Hp), k_ = n_b - i ∧ a_ = [(b20, .cells (List.toArray [i64 r.State, .bool r.Mark, .slice r.Args.A r.Args.n r.Args.c, .slice r.Part.A r.Part.n r.Part.c]) 25 (0, 0))] ++ (L26 ++ L30) ∧ (i ≤ n_b) ∧ (r.dat = (vpParse p.dat (b.take i)).1) ∧ (acts.map ActR.dat = (vpParse p.dat (b.take i)).2) ∧ (acts.length ≤ i) ∧ ownVpR r L26 ∧ OwnN encActR ownActR 44 (.slice A28 (acts).length c29) (acts) L30 ∧ Sub [(7, .slice A28 (acts).length c29), (17, .int .i64 i)] f) (((fun (i : Nat) (acts : List ActR) => n_b - i) (0) ([]))) ?_ ?_
 ·refine ⟨0, [], r7, L18, A14, c15, L16, rfl, rfl, ?_, ?_, ?_, ?_, ho9, ho18, ⟨rfl, rfl, trivial⟩⟩
  · exact Nat.zero_le _
  · exact hd10
  · rfl
  · exact Nat.le_refl _
 ·rintro _ _ f w ⟨i, acts, r, L26, A28, c29, L30, rfl, rfl, p0, p1, p2, p3, ho27, ho31, hG⟩ hF hs33
  refine WC.sub _ (hG.app hF) ?_
  clear hG hF
  replace hs33 := St.ungrp2 [_] hs33
  have hs34 := (St.perm (St.perm (St.perm hs33 (L' := [_] ++ _) (perm_front (A := [_]) (perm_front (A := L26) (perm_front (A := L30) (perm_front (A := [_]) (List.Perm.refl _)))))) (L' := [_] ++ _) (perm_front (A := [_, _]) (perm_front (A := L26) (perm_front (A := L30) (List.Perm.refl _))))) (L' := [_] ++ _) (perm_front (A := [_, _]) (List.Perm.refl _)))
  have hvr : vpOk r.dat = true := by rw [p1]; exact vpParse_ok hok
  have hlr := vpOk_len hvr
  have hsmr : smVp 1048576 r.dat := ⟨by omega, by omega⟩
  have hsmB : smVp 1099511627776 r.dat := ⟨by omega, by omega⟩
  have hxb := (gat encB b i).toNat_lt
  refine WC.rr tbk hs34 [] rfl trivial ?_
  refine WC.seq (fun K35 hK35 => ?_)
  refine WC.cD rfl (fun qh36 => ?_) (fun qh36 => ?_)
  ·refine WC.skip ?_
   refine hK35 _ _ ?_
   refine WC.seq (fun K37 hK37 => ?_)
   refine WC.block ?_
   refine WC.sr ?_
   refine WL.val rfl rfl rfl (Run.idxN Try.runUnderlying23 Try.sizeOf5 rfl rfl rfl ?_ ?_ ?_) ?_
   · exact SlF.some_ (SlF.st0 f_b hs34)
   · omega
   · omega
   refine WL.val rfl rfl rfl (Run.load Try.isAgg5 rfl rfl (SlF.one1 (SlF.st0 f_b hs34) ?_ rfl)) ?_
   · omega
   refine WL.run tbk 1 hs34 [] rfl trivial ?_
   refine WL.nil ?_
   refine WC.sr ?_
   refine WL.run tbk 3 hs34 [0] rfl ⟨(u8_in _), rfl, trivial⟩ ?_
   refine WL.call rfl rfl rfl (Run.call Try.call73 rfl rfl rfl) (c_impl_Vp_step r _ _ (ownVpR.ok (B := 1099511627776) ho27 (fun p_ hp_ => (hs34.own p_ (List.mem_append_right [_, _, _] (List.mem_append_left _ hp_))).1) (by assumption)) ?_ ?_ ?_) ?_
   · first | (first | assumption | rfl | omega) | (first | exact ⟨by omega, by omega⟩ | omega | (simp; omega))
   · first | (first | assumption | rfl | omega) | (first | exact ⟨by omega, by omega⟩ | omega | (simp; omega))
   · first | (first | assumption | rfl | omega) | (first | exact ⟨by omega, by omega⟩ | omega | (simp; omega))
   rintro _ whs38 ⟨r039, L040, r141, L142, rfl, hs38, ho43, ho44, hd045, hd146⟩
   replace hs38 := hs34.callF hs38
   refine ⟨_, rfl, ?_⟩
   replace hs38 := St.assoc hs38
   replace hs38 := St.back2 [_, _, _] hs38
   refine WL.run tbk 3 hs38 [] rfl trivial ?_
   refine WL.al hs38 Try.zeroValue25 rfl rfl (fun b47 _ hs48 => ?_)
   refine WL.al hs48 Try.zeroValue44 rfl rfl (fun b49 _ hs50 => ?_)
   refine WL.st tbk hs50 1 rfl rfl (fun _ hs51 => ?_)
   refine WL.st tbk hs51 0 rfl rfl (fun _ hs52 => ?_)
   refine WL.nil ?_
   refine WC.sr ?_
   refine WL.run tbk 1 hs52 [1] rfl ⟨rfl, trivial⟩ ?_
   refine WL.st tbk hs52 2 rfl rfl (fun _ hs53 => ?_)
   refine WL.nil ?_
   refine WC.rr tbk hs53 [0] rfl ⟨rfl, trivial⟩ ?_
   refine WC.cN rfl (fun qh54 => ?_) (fun qh54 => ?_)
   ·have hk0 := hd045
    have hk1 := hd146
    have hkk : r141.Kind = (vpStep r.dat (gat encB b i).toNat).2.Kind := congrArg ActD.Kind hd146
    have hk : ¬ (vpStep r.dat (gat encB b i).toNat).2.Kind = 0 := by omega
    refine WC.region ?_
    refine WL.run tbk 2 hs53 [0] rfl ⟨rfl, trivial⟩ ?_
    refine WL.buildSlice hs53 Try.runUnderlying53 Try.sizeOf44 Try.zeroValue44 rfl rfl rfl rfl rfl rfl rfl rfl rfl rfl (fun b55 whs56 hs56 => ?_)
    obtain ⟨L57, L58, hs61, ho59, ho60⟩ := OwnN.open_ (St.perm hs56 (L' := L30 ++ _) (perm_front (A := [_, _, _, _, _, _]) (perm_front (A := L040) (perm_front (A := L142) (perm_front (A := L26) (List.Perm.refl _)))))) ho31
    have hs62 := (St.perm (St.perm (St.perm (St.perm (St.perm (St.perm hs61 (L' := [_] ++ _) (perm_front (A := L57) (perm_front (A := L58) (perm_front (A := [_, _, _, _, _]) (List.Perm.refl _))))) (L' := [_] ++ _) (perm_front (A := [_]) (perm_front (A := L57) (perm_front (A := L58) (perm_front (A := [_, _, _, _]) (List.Perm.refl _)))))) (L' := [_] ++ _) (perm_front (A := [_, _]) (perm_front (A := L57) (perm_front (A := L58) (perm_front (A := [_, _, _]) (List.Perm.refl _)))))) (L' := [_] ++ _) (perm_front (A := [_, _, _]) (perm_front (A := L57) (perm_front (A := L58) (perm_front (A := [_, _]) (List.Perm.refl _)))))) (L' := [_] ++ _) (perm_front (A := [_, _, _, _]) (perm_front (A := L57) (perm_front (A := L58) (perm_front (A := [_]) (List.Perm.refl _)))))) (L' := [_] ++ _) (perm_front (A := [_, _, _, _, _]) (perm_front (A := L57) (perm_front (A := L58) (List.Perm.refl _)))))
    refine WL.appendG (St.perm hs62 (L' := L57 ++ _) (perm_front (A := [_, _, _, _, _, _]) (List.Perm.refl _))) ho59 (srcF (F := encActR) (ys := [r141]) Try.underlying53 rfl rfl (hs62.own _ (nthL_mem (i := 0) rfl)).1) Try.underlying53 info_44 rfl rfl rfl rfl rfl rfl rfl rfl rfl rfl ?_ (fun A66 c67 L63 whs64 hs64 ho65 => ?_)
    · (try simp only [List.length_append, List.length_singleton]); omega
    replace hs64 := St.back [_, _, _, _, _, _] hs64
    obtain ⟨L68, hs69, hb70⟩ := Bag.put (x := r141) (St.perm (St.perm hs64 (L' := L142 ++ _) (perm_front (A := [_, _, _, _, _, _]) (perm_front (A := L63) (perm_front (A := L58) (perm_front (A := L040) (List.Perm.refl _)))))) (L' := L58 ++ _) (perm_front (A := L142) (perm_front (A := [_, _, _, _, _, _]) (perm_front (A := L63) (List.Perm.refl _))))) ho60 ho44
    have hs71 := (St.perm (St.perm (St.perm (St.perm (St.perm (St.perm hs69 (L' := [_] ++ _) (perm_front (A := L68) (perm_front (A := [_, _, _, _, _]) (List.Perm.refl _)))) (L' := [_] ++ _) (perm_front (A := [_]) (perm_front (A := L68) (perm_front (A := [_, _, _, _]) (List.Perm.refl _))))) (L' := [_] ++ _) (perm_front (A := [_, _]) (perm_front (A := L68) (perm_front (A := [_, _, _]) (List.Perm.refl _))))) (L' := [_] ++ _) (perm_front (A := [_, _, _]) (perm_front (A := L68) (perm_front (A := [_, _]) (List.Perm.refl _))))) (L' := [_] ++ _) (perm_front (A := [_, _, _, _]) (perm_front (A := L68) (perm_front (A := [_]) (List.Perm.refl _))))) (L' := [_] ++ _) (perm_front (A := [_, _, _, _, _]) (perm_front (A := L68) (List.Perm.refl _))))
    obtain ⟨L73, hs72, ho74⟩ := OwnN.fold (St.perm (St.perm hs71 (L' := L68 ++ _) (perm_front (A := [_, _, _, _, _, _]) (List.Perm.refl _))) (L' := L63 ++ _) (perm_front (A := L68) (perm_front (A := [_, _, _, _, _, _]) (List.Perm.refl _)))) ho65 hb70
    have hs75 := (St.perm (St.perm (St.perm (St.perm (St.perm (St.perm hs72 (L' := [_] ++ _) (perm_front (A := L73) (perm_front (A := [_, _, _, _, _]) (List.Perm.refl _)))) (L' := [_] ++ _) (perm_front (A := [_]) (perm_front (A := L73) (perm_front (A := [_, _, _, _]) (List.Perm.refl _))))) (L' := [_] ++ _) (perm_front (A := [_, _]) (perm_front (A := L73) (perm_front (A := [_, _, _]) (List.Perm.refl _))))) (L' := [_] ++ _) (perm_front (A := [_, _, _]) (perm_front (A := L73) (perm_front (A := [_, _]) (List.Perm.refl _))))) (L' := [_] ++ _) (perm_front (A := [_, _, _, _]) (perm_front (A := L73) (perm_front (A := [_]) (List.Perm.refl _))))) (L' := [_] ++ _) (perm_front (A := [_, _, _, _, _]) (perm_front (A := L73) (List.Perm.refl _))))
    refine WL.run tbk 1 hs75 [] rfl trivial ?_
    refine WL.nil ?_
    refine hK37 _ _ ?_
    refine WC.region ?_
    refine WL.run tbk 2 hs75 [] rfl ⟨by omega, trivial⟩ ?_
    refine WL.nil ?_
    refine tkN ?_
    have hst := vpParse_take (v := p.dat) (l := b) (i := i) (by omega)
    replace hs75 := St.drop hs75 (List.sublist_append_right [_, _, _] _)
    replace hs75 := St.drop (St.perm hs75 (L' := L26 ++ _) (perm_front (A := [_, _, _]) (perm_front (A := L73) (perm_front (A := L040) (List.Perm.refl _))))) (List.sublist_append_right L26 _)
    have hF76 := (St.grp2 (L1 := L040) (L2 := L73) [_] (St.perm (St.perm (St.perm (St.perm (St.perm hs75 (L' := [_] ++ _) (perm_front (A := [_, _]) (List.Perm.refl _))) (L' := [_] ++ _) (perm_front (A := [_, _]) (List.Perm.refl _))) (L' := L73 ++ _) (perm_front (A := [_, _, _]) (List.Perm.refl _))) (L' := L040 ++ _) (perm_front (A := L73) (perm_front (A := [_, _, _]) (List.Perm.refl _)))) (L' := [_] ++ _) (perm_front (A := L040) (perm_front (A := L73) (perm_front (A := [_, _]) (List.Perm.refl _))))))
    refine ⟨⟨rfl, rfl, rfl, rfl, rfl, rfl, rfl, rfl, rfl, rfl, rfl, trivial⟩, _, hF76, _, ?_, i + 1, ((acts) ++ [r141]), r039, L040, A66, c67, L73, rfl, rfl, ?_, ?_, ?_, ?_, ho43, ho74, ⟨rfl, rfl, trivial⟩⟩
    · omega
    · omega
    · rw [hst, ← p1]; exact hk0
    · rw [hst, ← p2, ← p1, if_neg hk, List.map_append]; congr 1; show [_] = [_]; rw [← hk1]
    · (try simp only [List.length_append, List.length_singleton]); omega
   ·have hk0 := hd045
    have hk1 := hd146
    have hkk : r141.Kind = (vpStep r.dat (gat encB b i).toNat).2.Kind := congrArg ActD.Kind hd146
    have hk : (vpStep r.dat (gat encB b i).toNat).2.Kind = 0 := by omega
    refine WC.skip ?_
    refine hK37 _ _ ?_
    refine WC.region ?_
    refine WL.run tbk 2 hs53 [] rfl ⟨by omega, trivial⟩ ?_
    refine WL.nil ?_
    refine tkN ?_
    have hst := vpParse_take (v := p.dat) (l := b) (i := i) (by omega)
    replace hs53 := St.drop hs53 (List.sublist_append_right [_, _] _)
    replace hs53 := St.drop (St.perm hs53 (L' := L142 ++ _) (perm_front (A := [_, _, _]) (perm_front (A := L040) (List.Perm.refl _)))) (List.sublist_append_right L142 _)
    replace hs53 := St.drop (St.perm hs53 (L' := L26 ++ _) (perm_front (A := [_, _, _]) (perm_front (A := L040) (List.Perm.refl _)))) (List.sublist_append_right L26 _)
    have hF77 := (St.grp2 (L1 := L040) (L2 := L30) [_] (St.perm (St.perm (St.perm (St.perm (St.perm hs53 (L' := [_] ++ _) (perm_front (A := [_, _]) (List.Perm.refl _))) (L' := [_] ++ _) (perm_front (A := [_, _]) (List.Perm.refl _))) (L' := L30 ++ _) (perm_front (A := [_, _, _]) (perm_front (A := L040) (List.Perm.refl _)))) (L' := L040 ++ _) (perm_front (A := L30) (perm_front (A := [_, _, _]) (List.Perm.refl _)))) (L' := [_] ++ _) (perm_front (A := L040) (perm_front (A := L30) (perm_front (A := [_, _]) (List.Perm.refl _))))))
    refine ⟨⟨rfl, rfl, rfl, rfl, rfl, rfl, rfl, rfl, rfl, rfl, rfl, trivial⟩, _, hF77, _, ?_, i + 1, acts, r039, L040, A28, c29, L30, rfl, rfl, ?_, ?_, ?_, ?_, ho43, ho31, ⟨rfl, rfl, trivial⟩⟩
    · omega
    · omega
    · rw [hst, ← p1]; exact hk0
    · rw [hst, ← p2, ← p1, if_pos hk, List.append_nil]
    · (try simp only [List.length_append, List.length_singleton]); omega
  ·refine WC.exit ?_
   refine hK23 _ _ ?_
   refine WC.sr ?_
   refine WL.run tbk 2 hs34 [0] rfl ⟨rfl, trivial⟩ ?_
   refine WL.st tbk hs34 1 rfl rfl (fun _ hs78 => ?_)
   refine WL.run tbk 1 hs78 [] rfl trivial ?_
   refine WL.nil ?_
   refine WC.ret ?_
   refine retV2 rfl (resV.cellA tbk hs78 1 rfl rfl rfl rfl) (resV.tmp rfl) ?_
   have hi_ : i = n_b := by omega
   have ht : b.take i = b := List.take_of_length_le (by omega)
   rw [ht] at p1 p2
   refine ⟨r, _, _, _, _, _, rfl, (St.drop (St.perm (St.perm hs78 (L' := L30 ++ _) (perm_front (A := [_, _, _]) (perm_front (A := L26) (List.Perm.refl _)))) (L' := L26 ++ _) (perm_front (A := L30) (perm_front (A := [_, _, _]) (List.Perm.refl _)))) (List.Sublist.append_left (List.sublist_append_left L30 _) L26)), ?_, ?_, ?_, ?_⟩
   · exact ho27
   · exact ho31
   · rw [p1]
   · rw [p2]
theorem c_impl_VpBytes (p : VpR) (A_b : Option Addr) (n_b c_b : Nat) (b : List UInt8) (w : World) (f_p : okVpR 1099511627776 w p) (f_b : SlF encB w A_b n_b b) (hsm : smVp 1048576 p.dat) (hn : n_b ≤ 1048576) :
    Calls Try.prog 29 #[.agg #[i64 p.State, .bool p.Mark, .slice p.Args.A p.Args.n p.Args.c, .slice p.Part.A p.Part.n p.Part.c], .slice A_b n_b c_b] w fun e w' => ∃ r0 L0 A1 c1 x1 L1, e = .returned (.tuple #[.agg #[i64 r0.State, .bool r0.Mark, .slice r0.Args.A r0.Args.n r0.Args.c, .slice r0.Part.A r0.Part.n r0.Part.c], .slice A1 x1.length c1]) ∧ St w [] (L0 ++ L1) w' ∧ ownVpR r0 L0 ∧ OwnN encActR ownActR 44 (.slice A1 x1.length c1) x1 L1 ∧ r0.dat = (vpBytes p.dat b).1 ∧ x1.map ActR.dat = (vpBytes p.dat b).2 := by
 have nb_p_Args := f_p.Args_n
 have nl_p_Args := f_p.Args.len
 have nb_p_Part := f_p.Part_n
 have nl_p_Part := f_p.Part.len
 have hsB : smVp 1099511627776 p.dat := ⟨Nat.le_trans hsm.1 (by decide), Nat.le_trans hsm.2 (by decide)⟩
 have hsa : p.Args.xs.length ≤ 1048576 := hsm.1
 have hsp : p.Part.xs.length ≤ 1048576 := hsm.2
 refine enter (vs := [.agg #[i64 p.State, .bool p.Mark, .slice p.Args.A p.Args.n p.Args.c, .slice p.Part.A p.Part.n p.Part.c], .slice A_b n_b c_b]) 15 Try.func29 rfl Try.ntmps29 rfl rfl ?_
 have hs1 := St.init w
 refine WC.sr ?_
 refine WL.bx hs1 rfl (fun b2 _ hs3 => ?_)
 refine WL.al hs3 Try.zeroValue25 rfl rfl (fun b4 _ hs5 => ?_)
 refine WL.run tbk 1 hs5 [] rfl trivial ?_
 refine WL.nil ?_
 refine WC.seq (fun K6 hK6 => ?_)
 refine WC.sr ?_
 refine WL.run tbk 1 hs5 [1] rfl ⟨rfl, trivial⟩ ?_
 refine WL.call rfl rfl rfl (Run.call Try.call71 rfl rfl rfl) (c_impl_VpOk p _ (okVpR.st0 f_p hs5)) ?_
 rintro _ whs7 ⟨rfl, hs7⟩
 replace hs7 := hs5.call0 hs7
 refine ⟨_, rfl, ?_⟩
 refine WL.run tbk 1 hs7 [] rfl trivial ?_
 refine WL.nil ?_
 refine WC.cond rfl (fun h8 => ?_) (fun h8 => ?_)
 ·have qh8 := h8
  try simp only [bf, within_iff, within_not] at qh8
  refine WC.sr ?_
  refine WL.val rfl rfl rfl (Run.build rfl rfl rfl rfl (built_25)) ?_
  refine WL.st tbk hs7 0 rfl rfl (fun _ hs9 => ?_)
  refine WL.run tbk 1 hs9 [] rfl trivial ?_
  refine WL.nil ?_
  refine WC.ret ?_
  refine tkR ?_
  clear hK6
  refine retV2 rfl (resV.cellA tbk hs9 0 rfl rfl rfl rfl) (resV.tmp rfl) ?_
  have hvb : vpBytes p.dat b = (vp0, []) := by unfold vpBytes; rw [if_neg (by simpa using h8)]
  obtain ⟨L13, hs12, ho14⟩ := ownVpR.fold ⟨0, false, ⟨_, _, _, _⟩, ⟨_, _, _, _⟩⟩ (St.perm (St.perm hs9 (L' := ([] : Hp) ++ _) (perm_front (A := [_, _]) (List.Perm.refl _))) (L' := ([] : Hp) ++ _) (perm_front (A := ([] : Hp)) (perm_front (A := [_, _]) (List.Perm.refl _)))) (OwnF.nil _ _) (OwnF.nil _ _)
  have hs15 := (St.perm (St.perm hs12 (L' := [_] ++ _) (perm_front (A := L13) (perm_front (A := [_]) (List.Perm.refl _)))) (L' := [_] ++ _) (perm_front (A := [_]) (perm_front (A := L13) (List.Perm.refl _))))
  refine ⟨⟨0, false, ⟨none, 0, 0, []⟩, ⟨none, 0, 0, []⟩⟩, _, none, 0, [], _, rfl, (St.drop (St.perm (St.perm hs15 (L' := ([] : Hp) ++ _) (perm_front (A := [_, _]) (List.Perm.refl _))) (L' := L13 ++ _) (perm_front (A := ([] : Hp)) (perm_front (A := [_, _]) (List.Perm.refl _)))) (List.Sublist.append_left (List.sublist_append_left ([] : Hp) _) L13)), ?_, ?_, ?_, ?_⟩
  · exact (by exact ho14)
  · exact (OwnN.nil _ _ _)
  · rw [hvb]; rfl
  · rw [hvb]; rfl
 ·have qh8 := h8
  try simp only [bf, within_iff, within_not] at qh8
  have hok : vpOk p.dat = true := by simpa using h8
  refine WC.skip ?_
  refine hK6 _ _ ?_
  refine WC.sr ?_
  refine WL.run tbk 2 hs7 [1] rfl ⟨rfl, trivial⟩ ?_
  refine WL.call rfl rfl rfl (Run.call Try.call77 rfl rfl rfl) (c_impl_Vp_parse p _ _ _ _ _ (okVpR.st0 f_p hs7) (SlF.st0 f_b hs7) ?_ ?_ ?_) ?_
  · first | assumption | rfl | omega
  · first | assumption | rfl | omega
  · first | assumption | rfl | omega
  rintro _ whs17 ⟨r018, L019, A120, c121, x122, L123, rfl, hs17, ho24, ho25, hd026, hd127⟩
  replace hs17 := hs7.callF hs17
  refine ⟨_, rfl, ?_⟩
  replace hs17 := St.assoc hs17
  replace hs17 := St.back2 [_, _] hs17
  refine WL.run tbk 2 hs17 [] rfl trivial ?_
  refine WL.st tbk hs17 0 rfl rfl (fun _ hs28 => ?_)
  refine WL.run tbk 1 hs28 [] rfl trivial ?_
  refine WL.nil ?_
  refine WC.ret ?_
  refine retV2 rfl (resV.cellA tbk hs28 0 rfl rfl rfl rfl) (resV.tmp rfl) ?_
  have hvb : vpBytes p.dat b = vpParse p.dat b := by unfold vpBytes; rw [if_pos hok]
  refine ⟨r018, _, _, _, _, _, rfl, (St.drop (St.perm (St.perm hs28 (L' := L123 ++ _) (perm_front (A := [_, _]) (perm_front (A := L019) (List.Perm.refl _)))) (L' := L019 ++ _) (perm_front (A := L123) (perm_front (A := [_, _]) (List.Perm.refl _)))) (List.Sublist.append_left (List.sublist_append_left L123 _) L019)), ?_, ?_, ?_, ?_⟩
  · exact ho24
  · exact ho25
  · rw [hvb]; exact hd026
  · rw [hvb]; exact hd127
theorem c_spec_VpBytes (p : VpR) (A_b : Option Addr) (n_b c_b : Nat) (b : List UInt8) (w : World) (f_p : okVpR 1099511627776 w p) (f_b : SlF encB w A_b n_b b) (hsm : smVp 1048576 p.dat) (hn : n_b ≤ 1048576) :
    Calls Try.prog 27 #[.agg #[i64 p.State, .bool p.Mark, .slice p.Args.A p.Args.n p.Args.c, .slice p.Part.A p.Part.n p.Part.c], .slice A_b n_b c_b] w fun e w' => ∃ r0 L0 A1 c1 x1 L1, e = .returned (.tuple #[.agg #[i64 r0.State, .bool r0.Mark, .slice r0.Args.A r0.Args.n r0.Args.c, .slice r0.Part.A r0.Part.n r0.Part.c], .slice A1 x1.length c1]) ∧ St w [] (L0 ++ L1) w' ∧ ownVpR r0 L0 ∧ OwnN encActR ownActR 44 (.slice A1 x1.length c1) x1 L1 ∧ r0.dat = (vpBytes p.dat b).1 ∧ x1.map ActR.dat = (vpBytes p.dat b).2 := by
 have nb_p_Args := f_p.Args_n
 have nl_p_Args := f_p.Args.len
 have nb_p_Part := f_p.Part_n
 have nl_p_Part := f_p.Part.len
 have hsB : smVp 1099511627776 p.dat := ⟨Nat.le_trans hsm.1 (by decide), Nat.le_trans hsm.2 (by decide)⟩
 have hsa : p.Args.xs.length ≤ 1048576 := hsm.1
 have hsp : p.Part.xs.length ≤ 1048576 := hsm.2
 have hbl := f_b.len
 refine enter (vs := [.agg #[i64 p.State, .bool p.Mark, .slice p.Args.A p.Args.n p.Args.c, .slice p.Part.A p.Part.n p.Part.c], .slice A_b n_b c_b]) 43 Try.func27 rfl Try.ntmps27 rfl rfl ?_
 have hs1 := St.init w
 refine WC.sr ?_
 refine WL.bx hs1 rfl (fun b2 _ hs3 => ?_)
 refine WL.al hs3 Try.zeroValue25 rfl rfl (fun b4 _ hs5 => ?_)
 refine WL.run tbk 1 hs5 [] rfl trivial ?_
 refine WL.nil ?_
 refine WC.seq (fun K6 hK6 => ?_)
 refine WC.sr ?_
 refine WL.run tbk 1 hs5 [1] rfl ⟨rfl, trivial⟩ ?_
 refine WL.call rfl rfl rfl (Run.call Try.call66 rfl rfl rfl) (c_spec_VpOk p _ (okVpR.st0 f_p hs5)) ?_
 rintro _ whs7 ⟨rfl, hs7⟩
 replace hs7 := hs5.call0 hs7
 refine ⟨_, rfl, ?_⟩
 refine WL.run tbk 1 hs7 [] rfl trivial ?_
 refine WL.nil ?_
 refine WC.cond rfl (fun h8 => ?_) (fun h8 => ?_)
 ·have qh8 := h8
  try simp only [bf, within_iff, within_not] at qh8
  refine WC.sr ?_
  refine WL.val rfl rfl rfl (Run.build rfl rfl rfl rfl (built_25)) ?_
  refine WL.st tbk hs7 0 rfl rfl (fun _ hs9 => ?_)
  refine WL.run tbk 1 hs9 [] rfl trivial ?_
  refine WL.nil ?_
  refine WC.ret ?_
  refine tkR ?_
  clear hK6
  refine retV2 rfl (resV.cellA tbk hs9 0 rfl rfl rfl rfl) (resV.tmp rfl) ?_
  have hvb : vpBytes p.dat b = (vp0, []) := by unfold vpBytes; rw [if_neg (by simpa using h8)]
  obtain ⟨L13, hs12, ho14⟩ := ownVpR.fold ⟨0, false, ⟨_, _, _, _⟩, ⟨_, _, _, _⟩⟩ (St.perm (St.perm hs9 (L' := ([] : Hp) ++ _) (perm_front (A := [_, _]) (List.Perm.refl _))) (L' := ([] : Hp) ++ _) (perm_front (A := ([] : Hp)) (perm_front (A := [_, _]) (List.Perm.refl _)))) (OwnF.nil _ _) (OwnF.nil _ _)
  have hs15 := (St.perm (St.perm hs12 (L' := [_] ++ _) (perm_front (A := L13) (perm_front (A := [_]) (List.Perm.refl _)))) (L' := [_] ++ _) (perm_front (A := [_]) (perm_front (A := L13) (List.Perm.refl _))))
  refine ⟨⟨0, false, ⟨none, 0, 0, []⟩, ⟨none, 0, 0, []⟩⟩, _, none, 0, [], _, rfl, (St.drop (St.perm (St.perm hs15 (L' := ([] : Hp) ++ _) (perm_front (A := [_, _]) (List.Perm.refl _))) (L' := L13 ++ _) (perm_front (A := ([] : Hp)) (perm_front (A := [_, _]) (List.Perm.refl _)))) (List.Sublist.append_left (List.sublist_append_left ([] : Hp) _) L13)), ?_, ?_, ?_, ?_⟩
  · exact (by exact ho14)
  · exact (OwnN.nil _ _ _)
  · rw [hvb]; rfl
  · rw [hvb]; rfl
 ·have qh8 := h8
  try simp only [bf, within_iff, within_not] at qh8
  have hok : vpOk p.dat = true := by simpa using h8
  have hvb : vpBytes p.dat b = vpParse p.dat b := by unfold vpBytes; rw [if_pos hok]
  refine WC.skip ?_
  refine hK6 _ _ ?_
  refine WC.sr ?_
  refine WL.run tbk 1 hs7 [1] rfl ⟨rfl, trivial⟩ ?_
  refine WL.call rfl rfl rfl (Run.call Try.call67 rfl rfl rfl) (c_spec_l08Copy p _ (okVpR.st0 f_p hs7) ?_) ?_
  · first | (first | assumption | rfl | omega) | (first | exact ⟨by omega, by omega⟩ | omega | (simp; omega))
  rintro _ whs17 ⟨r18, L119, rfl, hs17, ho20, hd21⟩
  replace hs17 := hs7.callF hs17
  refine ⟨_, rfl, ?_⟩
  replace hs17 := St.back [_, _] hs17
  skip
  refine WL.al hs17 Try.zeroValue25 rfl rfl (fun b22 _ hs23 => ?_)
  refine WL.st tbk hs23 0 rfl rfl (fun _ hs24 => ?_)
  refine WL.nil ?_
  refine WC.sr ?_
  refine WL.buildF (F := encActR) hs24 ([]) Try.runUnderlying53 Try.sizeOf44 Try.zeroValue44 rfl rfl rfl rfl rfl rfl rfl rfl rfl rfl rfl rfl (fun A28 c29 L25 whs26 hs26 ho27 => ?_)
  replace hs26 := St.back [_, _, _] hs26
  obtain ⟨L30, hs31, ho32⟩ := OwnN.fresh (own := ownActR) (St.perm hs26 (L' := L25 ++ _) (perm_front (A := [_, _, _]) (List.Perm.refl _))) ho27 Bag.nil
  have hs33 := (St.perm (St.perm (St.perm hs31 (L' := [_] ++ _) (perm_front (A := L30) (perm_front (A := [_, _]) (List.Perm.refl _)))) (L' := [_] ++ _) (perm_front (A := [_]) (perm_front (A := L30) (perm_front (A := [_]) (List.Perm.refl _))))) (L' := [_] ++ _) (perm_front (A := [_, _]) (perm_front (A := L30) (List.Perm.refl _))))
  refine WL.run tbk 1 hs33 [] rfl trivial ?_
  refine WL.nil ?_
  refine WC.seq (fun K34 hK34 => ?_)
  refine WC.rr tbk hs33 [] rfl trivial ?_
  refine WC.block ?_
  have hM43 := (St.grp2 (L1 := L119) (L2 := L30) [_] (St.perm (St.perm (St.perm (St.perm (St.perm hs33 (L' := [_] ++ _) (perm_front (A := [_, _]) (List.Perm.refl _))) (L' := [_] ++ _) (perm_front (A := [_, _]) (List.Perm.refl _))) (L' := L30 ++ _) (perm_front (A := [_, _, _]) (List.Perm.refl _))) (L' := L119 ++ _) (perm_front (A := L30) (perm_front (A := [_, _, _]) (List.Perm.refl _)))) (L' := [_] ++ _) (perm_front (A := L119) (perm_front (A := L30) (perm_front (A := [_, _]) (List.Perm.refl _))))))
  refine WC.loopV (α := Hp) [(0, _), (1, _), (2, _), (4, _), (5, _), (6, _), (12, _), (13, _), (14, _), (16, _), (17, _), (18, _), (19, _), (20, _)] ⟨rfl, rfl, rfl, rfl, rfl, rfl, rfl, rfl, rfl, rfl, rfl, rfl, rfl, rfl, trivial⟩ (fun a_ => a_) _ hM43 (fun k_ (a_ : Hp) f => ∃ (i : Nat) (acts : List ActR) (r : VpR) (L37 : Hp) (A39 : Option Addr) (c40 : Nat) (L41 : Hp), k_ = n_b - i ∧ a_ = [(b22, .cells (List.toArray [i64 r.State, .bool r.Mark, .slice r.Args.A r.Args.n r.Args.c, .slice r.Part.A r.Part.n r.Part.c]) 25 (0, 0))] ++ (L37 ++ L41) ∧ (i ≤ n_b) ∧ (r.dat = (vpParse p.dat (b.take i)).1) ∧ (acts.map ActR.dat = (vpParse p.dat (b.take i)).2) ∧ (acts.length ≤ i) ∧ ownVpR r L37 ∧ OwnN encActR ownActR 44 (.slice A39 (acts).length c40) (acts) L41 ∧ Sub [(7, .slice A39 (acts).length c40), (21, .int .i64 i)] f) (((fun (i : Nat) (acts : List ActR) => n_b - i) (0) ([]))) ?_ ?_
  ·refine ⟨0, [], r18, L119, A28, c29, L30, rfl, rfl, ?_, ?_, ?_, ?_, ho20, ho32, ⟨rfl, rfl, trivial⟩⟩
   · exact Nat.zero_le _
   · exact hd21
   · rfl
   · exact Nat.le_refl _
  ·rintro _ _ f w ⟨i, acts, r, L37, A39, c40, L41, rfl, rfl, p0, p1, p2, p3, ho38, ho42, hG⟩ hF hs44
   refine WC.sub _ (hG.app hF) ?_
   clear hG hF
   replace hs44 := St.ungrp2 [_] hs44
   have hs45 := (St.perm (St.perm (St.perm hs44 (L' := [_] ++ _) (perm_front (A := [_]) (perm_front (A := L37) (perm_front (A := L41) (perm_front (A := [_]) (List.Perm.refl _)))))) (L' := [_] ++ _) (perm_front (A := [_, _]) (perm_front (A := L37) (perm_front (A := L41) (List.Perm.refl _))))) (L' := [_] ++ _) (perm_front (A := [_, _]) (List.Perm.refl _)))
   have hvr : vpOk r.dat = true := by rw [p1]; exact vpParse_ok hok
   have hlr := vpOk_len hvr
   have hsmr : smVp 1048576 r.dat := ⟨by omega, by omega⟩
   have hsmB : smVp 1099511627776 r.dat := ⟨by omega, by omega⟩
   have hxb := (gat encB b i).toNat_lt
   refine WC.rr tbk hs45 [] rfl trivial ?_
   refine WC.seq (fun K46 hK46 => ?_)
   refine WC.cond rfl (fun h47 => ?_) (fun h47 => ?_)
   ·have qh47 := h47
    try simp only [bf, within_iff, within_not] at qh47
    refine WC.skip ?_
    refine hK46 _ _ ?_
    refine WC.seq (fun K48 hK48 => ?_)
    refine WC.block ?_
    refine WC.sr ?_
    refine WL.val rfl rfl rfl (Run.idxN Try.runUnderlying23 Try.sizeOf5 rfl rfl rfl ?_ ?_ ?_) ?_
    · exact SlF.some_ (SlF.st0 f_b hs45)
    · omega
    · omega
    refine WL.val rfl rfl rfl (Run.load Try.isAgg5 rfl rfl (SlF.one1 (SlF.st0 f_b hs45) ?_ rfl)) ?_
    · omega
    refine WL.run tbk 1 hs45 [] rfl trivial ?_
    refine WL.nil ?_
    refine WC.sr ?_
    refine WL.run tbk 3 hs45 [0] rfl ⟨(u8_in _), rfl, trivial⟩ ?_
    refine WL.call rfl rfl rfl (Run.call Try.call18 rfl rfl rfl) (c_spec_VpByte r _ _ (ownVpR.ok (B := 1099511627776) ho38 (fun p_ hp_ => (hs45.own p_ (List.mem_append_right [_, _, _] (List.mem_append_left _ hp_))).1) (by assumption)) ?_) ?_
    · first | (first | assumption | rfl | omega) | (first | exact ⟨by omega, by omega⟩ | omega | (simp; omega))
    rintro _ whs49 ⟨r050, L051, r152, L153, rfl, hs49, ho54, ho55, hd056, hd157⟩
    replace hs49 := hs45.callF hs49
    refine ⟨_, rfl, ?_⟩
    replace hs49 := St.assoc hs49
    replace hs49 := St.back2 [_, _, _] hs49
    refine WL.run tbk 3 hs49 [] rfl trivial ?_
    refine WL.al hs49 Try.zeroValue25 rfl rfl (fun b58 _ hs59 => ?_)
    refine WL.al hs59 Try.zeroValue44 rfl rfl (fun b60 _ hs61 => ?_)
    refine WL.st tbk hs61 1 rfl rfl (fun _ hs62 => ?_)
    refine WL.st tbk hs62 0 rfl rfl (fun _ hs63 => ?_)
    refine WL.nil ?_
    refine WC.sr ?_
    refine WL.run tbk 1 hs63 [1] rfl ⟨rfl, trivial⟩ ?_
    refine WL.st tbk hs63 2 rfl rfl (fun _ hs64 => ?_)
    refine WL.nil ?_
    refine WC.rr tbk hs64 [0] rfl ⟨rfl, trivial⟩ ?_
    refine WC.cond rfl (fun h65 => ?_) (fun h65 => ?_)
    ·have qh65 := h65
     try simp only [bf, within_iff, within_not] at qh65
     have hb1 : vpByte r.dat (gat encB b i).toNat = vpStep r.dat (gat encB b i).toNat := by unfold vpByte; rw [if_pos ⟨hvr, by omega, by omega⟩]
     rw [hb1] at hd056 hd157
     have hk0 := hd056
     have hk1 := hd157
     have hkk : r152.Kind = (vpStep r.dat (gat encB b i).toNat).2.Kind := congrArg ActD.Kind hd157
     have hk : ¬ (vpStep r.dat (gat encB b i).toNat).2.Kind = 0 := by omega
     refine WC.region ?_
     refine WL.run tbk 2 hs64 [0] rfl ⟨rfl, trivial⟩ ?_
     refine WL.buildSlice hs64 Try.runUnderlying53 Try.sizeOf44 Try.zeroValue44 rfl rfl rfl rfl rfl rfl rfl rfl rfl rfl (fun b66 whs67 hs67 => ?_)
     obtain ⟨L68, L69, hs72, ho70, ho71⟩ := OwnN.open_ (St.perm hs67 (L' := L41 ++ _) (perm_front (A := [_, _, _, _, _, _]) (perm_front (A := L051) (perm_front (A := L153) (perm_front (A := L37) (List.Perm.refl _)))))) ho42
     have hs73 := (St.perm (St.perm (St.perm (St.perm (St.perm (St.perm hs72 (L' := [_] ++ _) (perm_front (A := L68) (perm_front (A := L69) (perm_front (A := [_, _, _, _, _]) (List.Perm.refl _))))) (L' := [_] ++ _) (perm_front (A := [_]) (perm_front (A := L68) (perm_front (A := L69) (perm_front (A := [_, _, _, _]) (List.Perm.refl _)))))) (L' := [_] ++ _) (perm_front (A := [_, _]) (perm_front (A := L68) (perm_front (A := L69) (perm_front (A := [_, _, _]) (List.Perm.refl _)))))) (L' := [_] ++ _) (perm_front (A := [_, _, _]) (perm_front (A := L68) (perm_front (A := L69) (perm_front (A := [_, _]) (List.Perm.refl _)))))) (L' := [_] ++ _) (perm_front (A := [_, _, _, _]) (perm_front (A := L68) (perm_front (A := L69) (perm_front (A := [_]) (List.Perm.refl _)))))) (L' := [_] ++ _) (perm_front (A := [_, _, _, _, _]) (perm_front (A := L68) (perm_front (A := L69) (List.Perm.refl _)))))
     refine WL.appendG (St.perm hs73 (L' := L68 ++ _) (perm_front (A := [_, _, _, _, _, _]) (List.Perm.refl _))) ho70 (srcF (F := encActR) (ys := [r152]) Try.underlying53 rfl rfl (hs73.own _ (nthL_mem (i := 0) rfl)).1) Try.underlying53 info_44 rfl rfl rfl rfl rfl rfl rfl rfl rfl rfl ?_ (fun A77 c78 L74 whs75 hs75 ho76 => ?_)
     · (try simp only [List.length_append, List.length_singleton]); omega
     replace hs75 := St.back [_, _, _, _, _, _] hs75
     obtain ⟨L79, hs80, hb81⟩ := Bag.put (x := r152) (St.perm (St.perm hs75 (L' := L153 ++ _) (perm_front (A := [_, _, _, _, _, _]) (perm_front (A := L74) (perm_front (A := L69) (perm_front (A := L051) (List.Perm.refl _)))))) (L' := L69 ++ _) (perm_front (A := L153) (perm_front (A := [_, _, _, _, _, _]) (perm_front (A := L74) (List.Perm.refl _))))) ho71 ho55
     have hs82 := (St.perm (St.perm (St.perm (St.perm (St.perm (St.perm hs80 (L' := [_] ++ _) (perm_front (A := L79) (perm_front (A := [_, _, _, _, _]) (List.Perm.refl _)))) (L' := [_] ++ _) (perm_front (A := [_]) (perm_front (A := L79) (perm_front (A := [_, _, _, _]) (List.Perm.refl _))))) (L' := [_] ++ _) (perm_front (A := [_, _]) (perm_front (A := L79) (perm_front (A := [_, _, _]) (List.Perm.refl _))))) (L' := [_] ++ _) (perm_front (A := [_, _, _]) (perm_front (A := L79) (perm_front (A := [_, _]) (List.Perm.refl _))))) (L' := [_] ++ _) (perm_front (A := [_, _, _, _]) (perm_front (A := L79) (perm_front (A := [_]) (List.Perm.refl _))))) (L' := [_] ++ _) (perm_front (A := [_, _, _, _, _]) (perm_front (A := L79) (List.Perm.refl _))))
     obtain ⟨L84, hs83, ho85⟩ := OwnN.fold (St.perm (St.perm hs82 (L' := L79 ++ _) (perm_front (A := [_, _, _, _, _, _]) (List.Perm.refl _))) (L' := L74 ++ _) (perm_front (A := L79) (perm_front (A := [_, _, _, _, _, _]) (List.Perm.refl _)))) ho76 hb81
     have hs86 := (St.perm (St.perm (St.perm (St.perm (St.perm (St.perm hs83 (L' := [_] ++ _) (perm_front (A := L84) (perm_front (A := [_, _, _, _, _]) (List.Perm.refl _)))) (L' := [_] ++ _) (perm_front (A := [_]) (perm_front (A := L84) (perm_front (A := [_, _, _, _]) (List.Perm.refl _))))) (L' := [_] ++ _) (perm_front (A := [_, _]) (perm_front (A := L84) (perm_front (A := [_, _, _]) (List.Perm.refl _))))) (L' := [_] ++ _) (perm_front (A := [_, _, _]) (perm_front (A := L84) (perm_front (A := [_, _]) (List.Perm.refl _))))) (L' := [_] ++ _) (perm_front (A := [_, _, _, _]) (perm_front (A := L84) (perm_front (A := [_]) (List.Perm.refl _))))) (L' := [_] ++ _) (perm_front (A := [_, _, _, _, _]) (perm_front (A := L84) (List.Perm.refl _))))
     refine WL.run tbk 1 hs86 [] rfl trivial ?_
     refine WL.nil ?_
     refine hK48 _ _ ?_
     refine WC.region ?_
     refine WL.run tbk 2 hs86 [] rfl ⟨by omega, trivial⟩ ?_
     refine WL.nil ?_
     refine tkN ?_
     have hst := vpParse_take (v := p.dat) (l := b) (i := i) (by omega)
     replace hs86 := St.drop hs86 (List.sublist_append_right [_, _, _] _)
     replace hs86 := St.drop (St.perm hs86 (L' := L37 ++ _) (perm_front (A := [_, _, _]) (perm_front (A := L84) (perm_front (A := L051) (List.Perm.refl _))))) (List.sublist_append_right L37 _)
     have hF87 := (St.grp2 (L1 := L051) (L2 := L84) [_] (St.perm (St.perm (St.perm (St.perm (St.perm hs86 (L' := [_] ++ _) (perm_front (A := [_, _]) (List.Perm.refl _))) (L' := [_] ++ _) (perm_front (A := [_, _]) (List.Perm.refl _))) (L' := L84 ++ _) (perm_front (A := [_, _, _]) (List.Perm.refl _))) (L' := L051 ++ _) (perm_front (A := L84) (perm_front (A := [_, _, _]) (List.Perm.refl _)))) (L' := [_] ++ _) (perm_front (A := L051) (perm_front (A := L84) (perm_front (A := [_, _]) (List.Perm.refl _))))))
     refine ⟨⟨rfl, rfl, rfl, rfl, rfl, rfl, rfl, rfl, rfl, rfl, rfl, rfl, rfl, rfl, trivial⟩, _, hF87, _, ?_, i + 1, ((acts) ++ [r152]), r050, L051, A77, c78, L84, rfl, rfl, ?_, ?_, ?_, ?_, ho54, ho85, ⟨rfl, rfl, trivial⟩⟩
     · omega
     · omega
     · rw [hst, ← p1]; exact hk0
     · rw [hst, ← p2, ← p1, if_neg hk, List.map_append]; congr 1; show [_] = [_]; rw [← hk1]
     · (try simp only [List.length_append, List.length_singleton]); omega
    ·have qh65 := h65
     try simp only [bf, within_iff, within_not] at qh65
     have hb1 : vpByte r.dat (gat encB b i).toNat = vpStep r.dat (gat encB b i).toNat := by unfold vpByte; rw [if_pos ⟨hvr, by omega, by omega⟩]
     rw [hb1] at hd056 hd157
     have hk0 := hd056
     have hk1 := hd157
     have hkk : r152.Kind = (vpStep r.dat (gat encB b i).toNat).2.Kind := congrArg ActD.Kind hd157
     have hk : (vpStep r.dat (gat encB b i).toNat).2.Kind = 0 := by omega
     refine WC.skip ?_
     refine hK48 _ _ ?_
     refine WC.region ?_
     refine WL.run tbk 2 hs64 [] rfl ⟨by omega, trivial⟩ ?_
     refine WL.nil ?_
     refine tkN ?_
     have hst := vpParse_take (v := p.dat) (l := b) (i := i) (by omega)
     replace hs64 := St.drop hs64 (List.sublist_append_right [_, _] _)
     replace hs64 := St.drop (St.perm hs64 (L' := L153 ++ _) (perm_front (A := [_, _, _]) (perm_front (A := L051) (List.Perm.refl _)))) (List.sublist_append_right L153 _)
     replace hs64 := St.drop (St.perm hs64 (L' := L37 ++ _) (perm_front (A := [_, _, _]) (perm_front (A := L051) (List.Perm.refl _)))) (List.sublist_append_right L37 _)
     have hF88 := (St.grp2 (L1 := L051) (L2 := L41) [_] (St.perm (St.perm (St.perm (St.perm (St.perm hs64 (L' := [_] ++ _) (perm_front (A := [_, _]) (List.Perm.refl _))) (L' := [_] ++ _) (perm_front (A := [_, _]) (List.Perm.refl _))) (L' := L41 ++ _) (perm_front (A := [_, _, _]) (perm_front (A := L051) (List.Perm.refl _)))) (L' := L051 ++ _) (perm_front (A := L41) (perm_front (A := [_, _, _]) (List.Perm.refl _)))) (L' := [_] ++ _) (perm_front (A := L051) (perm_front (A := L41) (perm_front (A := [_, _]) (List.Perm.refl _))))))
     refine ⟨⟨rfl, rfl, rfl, rfl, rfl, rfl, rfl, rfl, rfl, rfl, rfl, rfl, rfl, rfl, trivial⟩, _, hF88, _, ?_, i + 1, acts, r050, L051, A39, c40, L41, rfl, rfl, ?_, ?_, ?_, ?_, ho54, ho42, ⟨rfl, rfl, trivial⟩⟩
     · omega
     · omega
     · rw [hst, ← p1]; exact hk0
     · rw [hst, ← p2, ← p1, if_pos hk, List.append_nil]
     · (try simp only [List.length_append, List.length_singleton]); omega
   ·have qh47 := h47
    try simp only [bf, within_iff, within_not] at qh47
    refine WC.exit ?_
    refine hK34 _ _ ?_
    refine WC.sr ?_
    refine WL.run tbk 2 hs45 [0] rfl ⟨rfl, trivial⟩ ?_
    refine WL.st tbk hs45 1 rfl rfl (fun _ hs89 => ?_)
    refine WL.run tbk 1 hs89 [] rfl trivial ?_
    refine WL.nil ?_
    refine WC.ret ?_
    refine retV2 rfl (resV.cellA tbk hs89 1 rfl rfl rfl rfl) (resV.tmp rfl) ?_
    have hi_ : i = n_b := by omega
    have ht : b.take i = b := List.take_of_length_le (by omega)
    rw [ht] at p1 p2
    refine ⟨r, _, _, _, _, _, rfl, (St.drop (St.perm (St.perm hs89 (L' := L41 ++ _) (perm_front (A := [_, _, _]) (perm_front (A := L37) (List.Perm.refl _)))) (L' := L37 ++ _) (perm_front (A := L41) (perm_front (A := [_, _, _]) (List.Perm.refl _)))) (List.Sublist.append_left (List.sublist_append_left L41 _) L37)), ?_, ?_, ?_, ?_⟩
    · exact ho38
    · exact ho42
    · rw [hvb, p1]
    · rw [hvb, p2]
end Go.Proofs.Ytlmcekfdlgkffaa
