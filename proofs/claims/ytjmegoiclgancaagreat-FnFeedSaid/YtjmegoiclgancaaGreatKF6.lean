/-
  What the proof stands on, part 6.
-/
import Derived.Test.YtjmegoiclgancaaGreatKF5
namespace Go.Proofs.YtjmegoiclgancaaGreat
open Go Go.RowKit
set_option linter.unusedVariables false
set_option linter.unusedSimpArgs false
theorem inf59 : Tryz.prog.info? 59 = some Tryz.t59 := by kernel_rfl
theorem k117_ (p : VpR) (A_b : Option Addr) (n_b c_b : Nat) (b : List UInt8) (w : World) (f_p : okVpR 549755813888 w p) (f_b : SlF encB w A_b n_b b) (hsm : smVp 1048576 p.dat) (hok : vpOk p.dat = true) (hn : n_b ≤ 1048576) :
    Calls Tryz.prog 117 #[.agg #[i64 p.State, .bool p.Mark, .slice p.Args.A p.Args.n p.Args.c, .slice p.Part.A p.Part.n p.Part.c], .slice A_b n_b c_b] w fun e w' => ∃ r0 L0 A1 c1 x1 L1, e = .returned (.tuple #[.agg #[i64 r0.State, .bool r0.Mark, .slice r0.Args.A r0.Args.n r0.Args.c, .slice r0.Part.A r0.Part.n r0.Part.c], .slice A1 x1.length c1]) ∧ St w [] (L0 ++ L1) w' ∧ ownVpR r0 L0 ∧ OwnN encActR ownActR 59 (.slice A1 x1.length c1) x1 L1 ∧ r0.dat = (vpParse p.dat b).1 ∧ x1.map ActR.dat = (vpParse p.dat b).2 := by
 have nb_p_Args := f_p.Args_n
 have nl_p_Args := f_p.Args.len
 have nb_p_Part := f_p.Part_n
 have nl_p_Part := f_p.Part.len
 have hsB : smVp 549755813888 p.dat := ⟨Nat.le_trans hsm.1 (by decide), Nat.le_trans hsm.2 (by decide)⟩
 have hsa : p.Args.xs.length ≤ 1048576 := hsm.1
 have hsp : p.Part.xs.length ≤ 1048576 := hsm.2
 have hbl := f_b.len
 refine enter 39 Tryz.func117 rfl Tryz.ntmps117 rfl rfl ?_
 have hs1 := St.init w
 refine WC.sr (WL.bx hs1 rfl (fun b2 _ hs3 => WL.al hs3 Tryz.zeroValue25 rfl rfl (fun b4 _ hs5 => WL.r 1 hs5 [] rfl (WL.nil (WC.sr (WL.r 1 hs5 [1] rfl ?_))))))
 refine WL.cl Tryz.call200 rfl (k107_ p _ (okVpR.st0 f_p hs5) ?_) ?_
 · first | assumption | rfl | omega | exact ⟨by omega, by omega⟩ | (simp; omega)
 rintro _ whs6 ⟨r7, L1_8, rfl, hs6, ho9, hd10⟩
 replace hs6 := hs5.callF hs6
 refine ⟨_, rfl, ?_⟩
 replace hs6 := St.back [_, _] hs6
 skip
 refine WL.buildF (F := encActR) hs6 ([]) Tryz.runUnderlying126 Tryz.sizeOf59 Tryz.zeroValue59 rfl rfl rfl rfl rfl rfl rfl rfl rfl rfl rfl rfl (fun A14 c15 L11 whs12 hs12 ho13 => ?_)
 replace hs12 := St.back [_, _] hs12
 obtain ⟨L16, hs17, ho18⟩ := OwnN.fresh (own := ownActR) (hs12.fr L11) ho13 Bag.nil
 have hs19 := ((hs17.fb b2).fb b4)
 refine WL.al hs19 Tryz.zeroValue25 rfl rfl (fun b20 _ hs21 => WL.st tbk hs21 0 rfl rfl (fun _ hs22 => WL.r 1 hs22 [] rfl (WL.nil (WC.seq (fun K23 hK23 => WC.r1 hs22 [] rfl (WC.block ?_))))))
 have hM32 := (St.grp2 (L1 := L1_8) (L2 := L16) [_] (((((hs22.fb b2).fb b4).fr L16).fr L1_8).fb b20))
 refine WC.lV [4, 5, 6, 15, 16] rfl hM32 (fun k_ (a_ : Hp) f => ∃ (i : Nat) (acts : List ActR) (r : VpR) (L26 : Hp) (A28 : Option Addr) (c29 : Nat) (L30 : Hp), k_ = n_b - i ∧ a_ = [(b20, .cells (List.toArray [i64 r.State, .bool r.Mark, .slice r.Args.A r.Args.n r.Args.c, .slice r.Part.A r.Part.n r.Part.c]) 25 (0, 0))] ++ (L26 ++ L30) ∧ (i ≤ n_b) ∧ (r.dat = (vpParse p.dat (b.take i)).1) ∧ (acts.map ActR.dat = (vpParse p.dat (b.take i)).2) ∧ (acts.length ≤ i) ∧ ownVpR r L26 ∧ OwnN encActR ownActR 59 (.slice A28 (acts).length c29) (acts) L30 ∧ Sub [(7, .slice A28 (acts).length c29), (17, .int .i64 i)] f) (((fun (i : Nat) (acts : List ActR) => n_b - i) (0) ([]))) ?_ ?_
 ·refine ⟨0, [], r7, L1_8, A14, c15, L16, rfl, rfl, ?_, ?_, ?_, ?_, ho9, ho18, ⟨rfl, rfl, trivial⟩⟩
  · exact Nat.zero_le _
  · exact hd10
  · rfl
  · exact Nat.le_refl _
 rintro _ _ f w ⟨i, acts, r, L26, A28, c29, L30, rfl, rfl, p0, p1, p2, p3, ho27, ho31, hG⟩ hF hs33
 refine WC.sub _ (hG.app hF) ?_
 clear hG hF
 replace hs33 := St.ungrp2 [_] hs33
 have hs34 := (((hs33.fb b2).fb b4).fb b20)
 have hvr : vpOk r.dat = true := by rw [p1]; exact vpParse_ok hok
 have hlr := vpOk_len hvr
 have hsmr : smVp 1048576 r.dat := ⟨by omega, by omega⟩
 have hsmB : smVp 549755813888 r.dat := ⟨by omega, by omega⟩
 have hxb := (gat encB b i).toNat_lt
 refine WC.r1 hs34 [] rfl (WC.seq (fun K35 hK35 => ?_))
 refine WC.cD rfl (fun qh36 => ?_) (fun qh36 => ?_)
 ·refine WC.skip (hK35 _ _ (WC.seq (fun K37 hK37 => WC.block (WC.sr ?_))))
  refine WL.val rfl rfl rfl (Run.idxN Tryz.runUnderlying22 Tryz.sizeOf5 rfl rfl rfl ?_ ?_ ?_) ?_
  · exact SlF.some_ (SlF.st0 f_b hs34)
  · omega
  · omega
  refine WL.val rfl rfl rfl (Run.load Tryz.isAgg5 rfl rfl (SlF.one1 (SlF.st0 f_b hs34) ?_ rfl)) ?_
  · omega
  refine WL.r 1 hs34 [] rfl (WL.nil (WC.sr (WL.r 3 hs34 [0] rfl (WL.cl Tryz.call201 rfl (k114_ r _ _ (ownVpR.ok (B := 549755813888) ho27 (hs34.ow L26) (by assumption)) ?_ ?_ ?_) ?_))))
  iterate 3 first | assumption | rfl | omega | exact ⟨by omega, by omega⟩ | (simp; omega)
  rintro _ whs38 ⟨r0_39, L0_40, r1_41, L1_42, rfl, hs38, ho43, ho44, hd0_45, hd1_46⟩
  replace hs38 := hs34.callF hs38
  refine ⟨_, rfl, ?_⟩
  replace hs38 := St.assoc hs38
  replace hs38 := St.back2 [_, _, _] hs38
  refine WL.r 3 hs38 [] rfl (WL.al hs38 Tryz.zeroValue25 rfl rfl (fun b47 _ hs48 => WL.al hs48 Tryz.zeroValue59 rfl rfl (fun b49 _ hs50 => WL.st tbk hs50 1 rfl rfl (fun _ hs51 => WL.st tbk hs51 0 rfl rfl (fun _ hs52 => WL.nil (WC.sr (WL.r 1 hs52 [1] rfl ?_)))))))
  refine WL.st tbk hs52 2 rfl rfl (fun _ hs53 => WL.nil (WC.r1 hs53 [0] rfl ?_))
  refine WC.cN rfl (fun qh54 => ?_) (fun qh54 => ?_)
  ·have hk0 := hd0_45
   have hk1 := hd1_46
   have hkk : r1_41.Kind = (vpStep r.dat (gat encB b i).toNat).2.Kind := congrArg ActD.Kind hd1_46
   have hk : ¬ (vpStep r.dat (gat encB b i).toNat).2.Kind = 0 := by omega
   refine WC.region (WL.r 2 hs53 [0] rfl (WL.buildSlice hs53 Tryz.runUnderlying126 Tryz.sizeOf59 Tryz.zeroValue59 rfl rfl rfl rfl rfl rfl rfl rfl rfl rfl (fun b55 whs56 hs56 => ?_)))
   obtain ⟨L57, L58, hs61, ho59, ho60⟩ := OwnN.open_ (hs56.fr L30) ho31
   have hs62 := ((((((hs61.fb b2).fb b4).fb b20).fb b47).fb b49).fb b55)
   refine WL.appendG (hs62.fr L57) ho59 (srcF (F := encActR) (ys := [(r1_41 : ActR)]) Tryz.underlying126 rfl rfl (hs62.own _ (nthL_mem (i := 0) rfl)).1) Tryz.underlying126 inf59 rfl rfl rfl rfl rfl rfl rfl rfl rfl rfl ?_ (fun A66 c67 L63 whs64 hs64 ho65 => ?_)
   · (try simp only [List.length_append, List.length_singleton]); omega
   replace hs64 := St.back [_, _, _, _, _, _] hs64
   obtain ⟨L68, hs69, hb70⟩ := Bag.put (x := (r1_41 : ActR)) ((hs64.fr L1_42).fr L58) ho60 ho44
   have hs71 := ((((((hs69.fb b2).fb b4).fb b20).fb b47).fb b49).fb b55)
   obtain ⟨L73, hs72, ho74⟩ := OwnN.fold ((hs71.fr L68).fr L63) ho65 hb70
   have hs75 := ((((((hs72.fb b2).fb b4).fb b20).fb b47).fb b49).fb b55)
   refine WL.r 1 hs75 [] rfl (WL.nil (hK37 _ _ (WC.region (WL.r 2 hs75 [] rfl (WL.nil (tkN ?_))))))
   have hst := vpParse_take (v := p.dat) (l := b) (i := i) (by omega)
   replace hs75 := (hs75.d1.d1.d1.rm L26)
   have hF76 := (St.grp2 (L1 := L0_40) (L2 := L73) [_] (((((hs75.fb b2).fb b4).fr L73).fr L0_40).fb b20))
   refine ⟨sbF rfl, _, hF76, _, ?_, i + 1, ((acts) ++ [(r1_41 : ActR)]), r0_39, L0_40, A66, c67, L73, rfl, rfl, ?_, ?_, ?_, ?_, ho43, ho74, ⟨rfl, rfl, trivial⟩⟩
   · omega
   · omega
   · rw [hst, ← p1]; exact hk0
   · rw [hst, ← p2, ← p1, if_neg hk, List.map_append]; congr 1; show [_] = [_]; rw [← hk1]
   · (try simp only [List.length_append, List.length_singleton]); omega
  have hk0 := hd0_45
  have hk1 := hd1_46
  have hkk : r1_41.Kind = (vpStep r.dat (gat encB b i).toNat).2.Kind := congrArg ActD.Kind hd1_46
  have hk : (vpStep r.dat (gat encB b i).toNat).2.Kind = 0 := by omega
  refine WC.skip (hK37 _ _ (WC.region (WL.r 2 hs53 [] rfl (WL.nil (tkN ?_)))))
  have hst := vpParse_take (v := p.dat) (l := b) (i := i) (by omega)
  replace hs53 := ((hs53.d1.d1.rm L1_42).rm L26)
  have hF77 := (St.grp2 (L1 := L0_40) (L2 := L30) [_] (((((hs53.fb b2).fb b4).fr L30).fr L0_40).fb b20))
  refine ⟨sbF rfl, _, hF77, _, ?_, i + 1, acts, r0_39, L0_40, A28, c29, L30, rfl, rfl, ?_, ?_, ?_, ?_, ho43, ho31, ⟨rfl, rfl, trivial⟩⟩
  · omega
  · omega
  · rw [hst, ← p1]; exact hk0
  · rw [hst, ← p2, ← p1, if_pos hk, List.append_nil]
  · (try simp only [List.length_append, List.length_singleton]); omega
 refine WC.exit (hK23 _ _ (WC.sr (WL.r 2 hs34 [0] rfl (WL.st tbk hs34 1 rfl rfl (fun _ hs78 => WL.r 1 hs78 [] rfl (WL.nil (WC.ret ?_)))))))
 refine retV2 rfl (resV.cellA tbk hs78 1 rfl rfl rfl rfl) (resV.tmp rfl) ?_
 have hi_ : i = n_b := by omega
 have ht : b.take i = b := List.take_of_length_le (by omega)
 rw [ht] at p1 p2
 refine ⟨r, _, _, _, _, _, rfl, (St.drop ((hs78.fr L30).fr L26) (List.Sublist.append_left (List.sublist_append_left L30 _) L26)), ?_, ?_, ?_, ?_⟩
 · exact ho27
 · exact ho31
 · rw [p1]
 · rw [p2]
theorem k118_ (p : VpR) (A_b : Option Addr) (n_b c_b : Nat) (b : List UInt8) (w : World) (f_p : okVpR 549755813888 w p) (f_b : SlF encB w A_b n_b b) (hsm : smVp 1048576 p.dat) (hn : n_b ≤ 1048576) :
    Calls Tryz.prog 87 #[.agg #[i64 p.State, .bool p.Mark, .slice p.Args.A p.Args.n p.Args.c, .slice p.Part.A p.Part.n p.Part.c], .slice A_b n_b c_b] w fun e w' => ∃ r0 L0 A1 c1 x1 L1, e = .returned (.tuple #[.agg #[i64 r0.State, .bool r0.Mark, .slice r0.Args.A r0.Args.n r0.Args.c, .slice r0.Part.A r0.Part.n r0.Part.c], .slice A1 x1.length c1]) ∧ St w [] (L0 ++ L1) w' ∧ ownVpR r0 L0 ∧ OwnN encActR ownActR 59 (.slice A1 x1.length c1) x1 L1 ∧ r0.dat = (vpBytes p.dat b).1 ∧ x1.map ActR.dat = (vpBytes p.dat b).2 := by
 have nb_p_Args := f_p.Args_n
 have nl_p_Args := f_p.Args.len
 have nb_p_Part := f_p.Part_n
 have nl_p_Part := f_p.Part.len
 have hsB : smVp 549755813888 p.dat := ⟨Nat.le_trans hsm.1 (by decide), Nat.le_trans hsm.2 (by decide)⟩
 have hsa : p.Args.xs.length ≤ 1048576 := hsm.1
 have hsp : p.Part.xs.length ≤ 1048576 := hsm.2
 have hbl := f_b.len
 refine enter 43 Tryz.func87 rfl Tryz.ntmps87 rfl rfl ?_
 have hs1 := St.init w
 refine WC.sr (WL.bx hs1 rfl (fun b2 _ hs3 => WL.al hs3 Tryz.zeroValue25 rfl rfl (fun b4 _ hs5 => WL.r 1 hs5 [] rfl (WL.nil (WC.seq (fun K6 hK6 => WC.sr (WL.r 1 hs5 [1] rfl ?_)))))))
 refine WL.cl Tryz.call165 rfl (k93_ p _ (okVpR.st0 f_p hs5)) ?_
 rintro _ whs7 ⟨rfl, hs7⟩
 replace hs7 := hs5.call0 hs7
 refine ⟨_, rfl, WL.r 1 hs7 [] rfl (WL.nil (WC.cq rfl (fun h8 qh8 => ?_) (fun h8 qh8 => ?_)))⟩
 ·refine WC.sr ?_
  refine WL.val rfl rfl rfl (Run.build rfl rfl rfl rfl (built_25)) (WL.st tbk hs7 0 rfl rfl (fun _ hs9 => WL.r 1 hs9 [] rfl (WL.nil (WC.ret (tkR ?_)))))
  clear hK6
  refine retV2 rfl (resV.cellA tbk hs9 0 rfl rfl rfl rfl) (resV.tmp rfl) ?_
  have hvb : vpBytes p.dat b = (vp0, []) := by unfold vpBytes; rw [if_neg (by simpa using h8)]
  obtain ⟨L13, hs12, ho14⟩ := ownVpR.fl hs9 (OwnF.nil _ _) (OwnF.nil _ _)
  have hs15 := ((hs12.fb b2).fb b4)
  refine ⟨⟨0, false, ⟨none, 0, 0, []⟩, ⟨none, 0, 0, []⟩⟩, _, none, 0, [], _, rfl, (St.drop ((hs15.fr ([] : Hp)).fr L13) (List.Sublist.append_left (List.sublist_append_left ([] : Hp) _) L13)), ?_, ?_, ?_, ?_⟩
  · exact (by exact ho14)
  · exact (OwnN.nil _ _ _)
  · rw [hvb]; rfl
  · rw [hvb]; rfl
 have hok : vpOk p.dat = true := by simpa using h8
 have hvb : vpBytes p.dat b = vpParse p.dat b := by unfold vpBytes; rw [if_pos hok]
 refine WC.skip (hK6 _ _ (WC.sr (WL.r 1 hs7 [1] rfl ?_)))
 refine WL.cl Tryz.call166 rfl (k108_ p _ (okVpR.st0 f_p hs7) ?_) ?_
 · first | assumption | rfl | omega | exact ⟨by omega, by omega⟩ | (simp; omega)
 rintro _ whs17 ⟨r18, L1_19, rfl, hs17, ho20, hd21⟩
 replace hs17 := hs7.callF hs17
 refine ⟨_, rfl, ?_⟩
 replace hs17 := St.back [_, _] hs17
 skip
 refine WL.al hs17 Tryz.zeroValue25 rfl rfl (fun b22 _ hs23 => WL.st tbk hs23 0 rfl rfl (fun _ hs24 => WL.nil (WC.sr (WL.buildF (F := encActR) hs24 ([]) Tryz.runUnderlying126 Tryz.sizeOf59 Tryz.zeroValue59 rfl rfl rfl rfl rfl rfl rfl rfl rfl rfl rfl rfl (fun A28 c29 L25 whs26 hs26 ho27 => ?_)))))
 replace hs26 := St.back [_, _, _] hs26
 obtain ⟨L30, hs31, ho32⟩ := OwnN.fresh (own := ownActR) (hs26.fr L25) ho27 Bag.nil
 have hs33 := (((hs31.fb b2).fb b4).fb b22)
 refine WL.r 1 hs33 [] rfl (WL.nil (WC.seq (fun K34 hK34 => WC.r1 hs33 [] rfl (WC.block ?_))))
 have hM43 := (St.grp2 (L1 := L1_19) (L2 := L30) [_] (((((hs33.fb b2).fb b4).fr L30).fr L1_19).fb b22))
 refine WC.lV [4, 5, 6, 14, 19, 20] rfl hM43 (fun k_ (a_ : Hp) f => ∃ (i : Nat) (acts : List ActR) (r : VpR) (L37 : Hp) (A39 : Option Addr) (c40 : Nat) (L41 : Hp), k_ = n_b - i ∧ a_ = [(b22, .cells (List.toArray [i64 r.State, .bool r.Mark, .slice r.Args.A r.Args.n r.Args.c, .slice r.Part.A r.Part.n r.Part.c]) 25 (0, 0))] ++ (L37 ++ L41) ∧ (i ≤ n_b) ∧ (r.dat = (vpParse p.dat (b.take i)).1) ∧ (acts.map ActR.dat = (vpParse p.dat (b.take i)).2) ∧ (acts.length ≤ i) ∧ ownVpR r L37 ∧ OwnN encActR ownActR 59 (.slice A39 (acts).length c40) (acts) L41 ∧ Sub [(7, .slice A39 (acts).length c40), (21, .int .i64 i)] f) (((fun (i : Nat) (acts : List ActR) => n_b - i) (0) ([]))) ?_ ?_
 ·refine ⟨0, [], r18, L1_19, A28, c29, L30, rfl, rfl, ?_, ?_, ?_, ?_, ho20, ho32, ⟨rfl, rfl, trivial⟩⟩
  · exact Nat.zero_le _
  · exact hd21
  · rfl
  · exact Nat.le_refl _
 rintro _ _ f w ⟨i, acts, r, L37, A39, c40, L41, rfl, rfl, p0, p1, p2, p3, ho38, ho42, hG⟩ hF hs44
 refine WC.sub _ (hG.app hF) ?_
 clear hG hF
 replace hs44 := St.ungrp2 [_] hs44
 have hs45 := (((hs44.fb b2).fb b4).fb b22)
 have hvr : vpOk r.dat = true := by rw [p1]; exact vpParse_ok hok
 have hlr := vpOk_len hvr
 have hsmr : smVp 1048576 r.dat := ⟨by omega, by omega⟩
 have hsmB : smVp 549755813888 r.dat := ⟨by omega, by omega⟩
 have hxb := (gat encB b i).toNat_lt
 refine WC.r1 hs45 [] rfl (WC.seq (fun K46 hK46 => ?_))
 refine WC.cq rfl (fun h47 qh47 => ?_) (fun h47 qh47 => ?_)
 ·refine WC.skip (hK46 _ _ (WC.seq (fun K48 hK48 => WC.block (WC.sr ?_))))
  refine WL.val rfl rfl rfl (Run.idxN Tryz.runUnderlying22 Tryz.sizeOf5 rfl rfl rfl ?_ ?_ ?_) ?_
  · exact SlF.some_ (SlF.st0 f_b hs45)
  · omega
  · omega
  refine WL.val rfl rfl rfl (Run.load Tryz.isAgg5 rfl rfl (SlF.one1 (SlF.st0 f_b hs45) ?_ rfl)) ?_
  · omega
  refine WL.r 1 hs45 [] rfl (WL.nil (WC.sr (WL.r 3 hs45 [0] rfl (WL.cl Tryz.call167 rfl (k116_ r _ _ (ownVpR.ok (B := 549755813888) ho38 (hs45.ow L37) (by assumption)) ?_) ?_))))
  · first | assumption | rfl | omega | exact ⟨by omega, by omega⟩ | (simp; omega)
  rintro _ whs49 ⟨r0_50, L0_51, r1_52, L1_53, rfl, hs49, ho54, ho55, hd0_56, hd1_57⟩
  replace hs49 := hs45.callF hs49
  refine ⟨_, rfl, ?_⟩
  replace hs49 := St.assoc hs49
  replace hs49 := St.back2 [_, _, _] hs49
  refine WL.r 3 hs49 [] rfl (WL.al hs49 Tryz.zeroValue25 rfl rfl (fun b58 _ hs59 => WL.al hs59 Tryz.zeroValue59 rfl rfl (fun b60 _ hs61 => WL.st tbk hs61 1 rfl rfl (fun _ hs62 => WL.st tbk hs62 0 rfl rfl (fun _ hs63 => WL.nil (WC.sr (WL.r 1 hs63 [1] rfl ?_)))))))
  refine WL.st tbk hs63 2 rfl rfl (fun _ hs64 => WL.nil (WC.r1 hs64 [0] rfl ?_))
  refine WC.cq rfl (fun h65 qh65 => ?_) (fun h65 qh65 => ?_)
  ·have hb1 : vpByte r.dat (gat encB b i).toNat = vpStep r.dat (gat encB b i).toNat := by unfold vpByte; rw [if_pos ⟨hvr, by omega, by omega⟩]
   rw [hb1] at hd0_56 hd1_57
   have hk0 := hd0_56
   have hk1 := hd1_57
   have hkk : r1_52.Kind = (vpStep r.dat (gat encB b i).toNat).2.Kind := congrArg ActD.Kind hd1_57
   have hk : ¬ (vpStep r.dat (gat encB b i).toNat).2.Kind = 0 := by omega
   refine WC.region (WL.r 2 hs64 [0] rfl (WL.buildSlice hs64 Tryz.runUnderlying126 Tryz.sizeOf59 Tryz.zeroValue59 rfl rfl rfl rfl rfl rfl rfl rfl rfl rfl (fun b66 whs67 hs67 => ?_)))
   obtain ⟨L68, L69, hs72, ho70, ho71⟩ := OwnN.open_ (hs67.fr L41) ho42
   have hs73 := ((((((hs72.fb b2).fb b4).fb b22).fb b58).fb b60).fb b66)
   refine WL.appendG (hs73.fr L68) ho70 (srcF (F := encActR) (ys := [(r1_52 : ActR)]) Tryz.underlying126 rfl rfl (hs73.own _ (nthL_mem (i := 0) rfl)).1) Tryz.underlying126 inf59 rfl rfl rfl rfl rfl rfl rfl rfl rfl rfl ?_ (fun A77 c78 L74 whs75 hs75 ho76 => ?_)
   · (try simp only [List.length_append, List.length_singleton]); omega
   replace hs75 := St.back [_, _, _, _, _, _] hs75
   obtain ⟨L79, hs80, hb81⟩ := Bag.put (x := (r1_52 : ActR)) ((hs75.fr L1_53).fr L69) ho71 ho55
   have hs82 := ((((((hs80.fb b2).fb b4).fb b22).fb b58).fb b60).fb b66)
   obtain ⟨L84, hs83, ho85⟩ := OwnN.fold ((hs82.fr L79).fr L74) ho76 hb81
   have hs86 := ((((((hs83.fb b2).fb b4).fb b22).fb b58).fb b60).fb b66)
   refine WL.r 1 hs86 [] rfl (WL.nil (hK48 _ _ (WC.region (WL.r 2 hs86 [] rfl (WL.nil (tkN ?_))))))
   have hst := vpParse_take (v := p.dat) (l := b) (i := i) (by omega)
   replace hs86 := (hs86.d1.d1.d1.rm L37)
   have hF87 := (St.grp2 (L1 := L0_51) (L2 := L84) [_] (((((hs86.fb b2).fb b4).fr L84).fr L0_51).fb b22))
   refine ⟨sbF rfl, _, hF87, _, ?_, i + 1, ((acts) ++ [(r1_52 : ActR)]), r0_50, L0_51, A77, c78, L84, rfl, rfl, ?_, ?_, ?_, ?_, ho54, ho85, ⟨rfl, rfl, trivial⟩⟩
   · omega
   · omega
   · rw [hst, ← p1]; exact hk0
   · rw [hst, ← p2, ← p1, if_neg hk, List.map_append]; congr 1; show [_] = [_]; rw [← hk1]
   · (try simp only [List.length_append, List.length_singleton]); omega
  have hb1 : vpByte r.dat (gat encB b i).toNat = vpStep r.dat (gat encB b i).toNat := by unfold vpByte; rw [if_pos ⟨hvr, by omega, by omega⟩]
  rw [hb1] at hd0_56 hd1_57
  have hk0 := hd0_56
  have hk1 := hd1_57
  have hkk : r1_52.Kind = (vpStep r.dat (gat encB b i).toNat).2.Kind := congrArg ActD.Kind hd1_57
  have hk : (vpStep r.dat (gat encB b i).toNat).2.Kind = 0 := by omega
  refine WC.skip (hK48 _ _ (WC.region (WL.r 2 hs64 [] rfl (WL.nil (tkN ?_)))))
  have hst := vpParse_take (v := p.dat) (l := b) (i := i) (by omega)
  replace hs64 := ((hs64.d1.d1.rm L1_53).rm L37)
  have hF88 := (St.grp2 (L1 := L0_51) (L2 := L41) [_] (((((hs64.fb b2).fb b4).fr L41).fr L0_51).fb b22))
  refine ⟨sbF rfl, _, hF88, _, ?_, i + 1, acts, r0_50, L0_51, A39, c40, L41, rfl, rfl, ?_, ?_, ?_, ?_, ho54, ho42, ⟨rfl, rfl, trivial⟩⟩
  · omega
  · omega
  · rw [hst, ← p1]; exact hk0
  · rw [hst, ← p2, ← p1, if_pos hk, List.append_nil]
  · (try simp only [List.length_append, List.length_singleton]); omega
 refine WC.exit (hK34 _ _ (WC.sr (WL.r 2 hs45 [0] rfl (WL.st tbk hs45 1 rfl rfl (fun _ hs89 => WL.r 1 hs89 [] rfl (WL.nil (WC.ret ?_)))))))
 refine retV2 rfl (resV.cellA tbk hs89 1 rfl rfl rfl rfl) (resV.tmp rfl) ?_
 have hi_ : i = n_b := by omega
 have ht : b.take i = b := List.take_of_length_le (by omega)
 rw [ht] at p1 p2
 refine ⟨r, _, _, _, _, _, rfl, (St.drop ((hs89.fr L41).fr L37) (List.Sublist.append_left (List.sublist_append_left L41 _) L37)), ?_, ?_, ?_, ?_⟩
 · exact ho38
 · exact ho42
 · rw [hvb, p1]
 · rw [hvb, p2]
set_option maxHeartbeats 2000000 in
theorem k119_ (b_c : Nat) (A_s : Option Addr) (n_s c_s : Nat) (s : List UInt8) (i h : Int) (most : Int) (w : World) (hc : w.heap[b_c]? = some (Obj.cells (List.toArray [.slice A_s n_s c_s, i64 (i), i64 (h)]) 152 (0, 0))) (f_s : SlF encB w A_s n_s s) (s_s : 0 < n_s → (adr A_s).block ∉ [b_c]) (hn : n_s ≤ 1099511627776) (hi : 0 ≤ i ∧ i ≤ n_s) (hm : 0 ≤ most ∧ most ≤ 12) :
    Calls Tryz.prog 88 #[.pointer (some ⟨b_c, 0, none⟩), i64 most] w fun e w' => ∃ (A : Option Addr) (c : Nat) (zs : List UInt8) (L1 : Hp) (i' h' : Int), e = .returned (.slice A zs.length c) ∧ St w [b_c] ((b_c, Obj.cells (List.toArray [.slice A_s n_s c_s, i64 (i'), i64 (h')]) 152 (0, 0)) :: L1) w' ∧ OwnF encB 5 (.slice A zs.length c) zs L1 ∧ zs.length ≤ 260 ∧ (0 ≤ i' ∧ i' ≤ n_s) := by
 have hl := f_s.len
 refine enter 61 Tryz.func88 rfl Tryz.ntmps88 rfl rfl ?_
 have hs1 := St.take1 w b_c _ hc
 refine WC.r1 hs1 [] rfl (WC.sr (WL.buildF (F := encB) hs1 ([]) Tryz.runUnderlying22 Tryz.sizeOf5 Tryz.zeroValue5 rfl rfl rfl rfl rfl rfl rfl rfl rfl rfl rfl rfl (fun A5 c6 L2 whs3 hs3 ho4 => ?_)))
 replace hs3 := St.back [_] hs3
 refine WL.r 1 hs3 [] rfl (WL.nil (WC.seq (fun K7 hK7 => WC.sr (WL.r 3 hs3 [] rfl ?_))))
 have hF8 : St _ _ ([(b_c, _)] ++ _) _ := hs3
 refine WL.call rfl rfl rfl (Run.call Tryz.call89 rfl rfl rfl) (k102_ _ _ _ _ _ _ _ _ _ (hF8.own _ List.mem_cons_self).1 (SlF.st f_s hs3 s_s) (St.sepT hF8 f_s s_s) ?_ ?_) ?_
 · omega
 · omega
 rintro _ whs14 ⟨r9, i10, h11, rfl, hs14, hr12, hi13⟩
 replace hs14 := St.lend1 hF8 hs14
 try have hbhr12 := hr12.2 (by omega)
 refine ⟨_, rfl, WL.r 1 hs14 [] rfl (WL.nil (WC.block ?_))⟩
 have hM19 := (St.grp1 (L1 := L2) [_] ((hs14.fr L2).fb b_c))
 refine WC.lV [0, 4] rfl hM19 (fun k_ (a_ : Hp) f => ∃ (n i1 h1 : Int) (zs : List UInt8) (A15 : Option Addr) (c16 : Nat) (L17 : Hp), k_ = n.toNat ∧ a_ = [(b_c, .cells (List.toArray [.slice A_s n_s c_s, i64 i1, i64 h1]) 152 (0, 0))] ++ L17 ∧ (zs.length + 20 * n.toNat ≤ 240) ∧ (0 ≤ n ∧ n ≤ 12) ∧ (0 ≤ i1 ∧ i1 ≤ n_s) ∧ OwnF encB 5 (.slice A15 (zs).length c16) (zs) L17 ∧ Sub [(5, .slice A15 (zs).length c16), (6, .int .i64 n)] f) (((fun (n i1 h1 : Int) (zs : List UInt8) => n.toNat) (r9) (i10) (h11) ([]))) ?_ ?_
 ·refine ⟨r9, i10, h11, [], A5, c6, L2, rfl, rfl, ?_, ?_, ?_, ho4, ⟨rfl, rfl, trivial⟩⟩
  · show 0 + _ ≤ _; omega
  · omega
  · omega
 rintro _ _ f w ⟨n, i1, h1, zs, A15, c16, L17, rfl, rfl, p0, p1, p2, ho18, hG⟩ hF hs20
 refine WC.sub _ (hG.app hF) ?_
 clear hG hF
 replace hs20 := St.ungrp1 [_] hs20
 refine WC.seq (fun K21 hK21 => WC.r1 hs20 [] rfl ?_)
 refine WC.cD rfl (fun qh22 => ?_) (fun qh22 => ?_)
 ·refine WC.skip (hK21 _ _ (WC.seq (fun K23 hK23 => WC.block (WC.sr (WL.r 1 hs20 [] rfl ?_)))))
  have hF24 : St _ _ ([(b_c, _)] ++ _) _ := hs20
  refine WL.call rfl rfl rfl (Run.call Tryz.call89 rfl rfl rfl) (k102_ _ _ _ _ _ _ _ _ _ (hF24.own _ List.mem_cons_self).1 (SlF.st f_s hs20 s_s) (St.sepT hF24 f_s s_s) ?_ ?_) ?_
  · omega
  · omega
  rintro _ whs30 ⟨r25, i26, h27, rfl, hs30, hr28, hi29⟩
  replace hs30 := St.lend1 hF24 hs30
  try have hbhr28 := hr28.2 (by omega)
  refine ⟨_, rfl, WL.r 1 hs30 [] rfl (WL.nil (WC.r1 hs30 [] rfl (WC.cD rfl (fun qh31 => ?_) (fun qh31 => ?_))))⟩
  ·refine WC.region (WL.r 2 hs30 [] rfl ?_)
   have hF32 : St _ _ ([(b_c, _)] ++ _) _ := hs30
   refine WL.call rfl rfl rfl (Run.call Tryz.call162 rfl rfl rfl) (k104_ _ _ _ _ _ _ _ _ (hF32.own _ List.mem_cons_self).1 (SlF.st f_s hs30 s_s) (St.sepT hF32 f_s s_s) ?_ ?_) ?_
   · omega
   · omega
   rintro _ whs38 ⟨r33, i34, h35, rfl, hs38, hr36, hi37⟩
   replace hs38 := St.lend1 hF32 hs38
   refine ⟨_, rfl, WL.cl Tryz.call168 rfl (k13_ _ _) ?_⟩
   rintro _ whs39 ⟨A40, c41, L1_42, rfl, hs39, ho43⟩
   replace hs39 := hs38.callF hs39
   refine ⟨_, rfl, ?_⟩
   replace hs39 := St.back [_] hs39
   have hsl := runeB_len r33
   refine WL.appendG (hs39.fr L17) ho18 (SlF.src (SlF.ofOwn ho43 (hs39.ow L1_42)) Tryz.underlying22) Tryz.underlying22 inf5 rfl rfl rfl rfl rfl rfl rfl rfl rfl rfl ?_ (fun A47 c48 L44 whs45 hs45 ho46 => ?_)
   · (try simp only [List.length_append, List.length_singleton]); omega
   replace hs45 := St.back [_] hs45
   refine WL.r 1 hs45 [] rfl (WL.nil (hK23 _ _ (WC.region (WL.r 3 hs45 [] rfl (WL.nil (tkN ?_))))))
   replace hs45 := (hs45.rm L1_42)
   have hF49 := (St.grp1 (L1 := L44) [_] ((hs45.fr L44).fb b_c))
   refine ⟨sbF rfl, _, hF49, _, ?_, _, i34, h35, _, A47, c48, L44, rfl, rfl, ?_, ?_, ?_, ho46, ⟨rfl, rfl, trivial⟩⟩
   · omega
   · first | (simp only [List.length_append, List.length_singleton]; omega) | (simp only [List.length_append]; omega)
   · omega
   · omega
  refine WC.r1 hs30 [] rfl (WC.cD rfl (fun qh50 => ?_) (fun qh50 => ?_))
  ·refine WC.region (WL.r 1 hs30 [] rfl (WL.buildF (F := encB) hs30 ([7, 8, 9, 10, 13, 10, 0, 127, 24]) Tryz.runUnderlying22 Tryz.sizeOf5 Tryz.zeroValue5 rfl rfl rfl rfl rfl rfl rfl rfl rfl rfl rfl rfl (fun A54 c55 L51 whs52 hs52 ho53 => ?_)))
   replace hs52 := St.back [_] hs52
   refine WL.r 1 hs52 [] rfl ?_
   have hF56 : St _ _ ([(b_c, _)] ++ _) _ := hs52
   refine WL.call rfl rfl rfl (Run.call Tryz.call89 rfl rfl rfl) (k102_ _ _ _ _ _ _ _ _ _ (hF56.own _ List.mem_cons_self).1 (SlF.st f_s hs52 s_s) (St.sepT hF56 f_s s_s) ?_ ?_) ?_
   · omega
   · omega
   rintro _ whs62 ⟨r57, i58, h59, rfl, hs62, hr60, hi61⟩
   replace hs62 := St.lend1 hF56 hs62
   try have hbhr60 := hr60.2 (by omega)
   refine ⟨_, rfl, WL.val rfl rfl rfl (Run.idxK (r57.toNat) Tryz.runUnderlying22 Tryz.sizeOf5 rfl rfl rfl ?_ ?_ ?_) ?_⟩
   · exact SlF.some_ (SlF.ofOwn ho53 (hs62.ow L51))
   · first | omega | (show _ < 9; omega) | (show _ < 32; omega) | (show _ < 16; omega)
   · first | omega | (show _ < 9; omega) | (show _ < 32; omega) | (show _ < 16; omega)
   refine WL.val rfl rfl rfl (Run.load Tryz.isAgg5 rfl rfl (SlF.one1 (SlF.ofOwn ho53 (hs62.ow L51)) ?_ rfl)) ?_
   · first | omega | (show _ < 9; omega) | (show _ < 32; omega) | (show _ < 16; omega)
   refine WL.buildSlice hs62 Tryz.runUnderlying22 Tryz.sizeOf5 Tryz.zeroValue5 rfl rfl rfl rfl rfl rfl rfl rfl rfl rfl (fun b63 whs64 hs64 => ?_)
   refine WL.appendG (hs64.fr L17) ho18 (srcB1 Tryz.underlying22 (hs64.own _ (nthL_mem (i := 0) rfl)).1) Tryz.underlying22 inf5 rfl rfl rfl rfl rfl rfl rfl rfl rfl rfl ?_ (fun A68 c69 L65 whs66 hs66 ho67 => ?_)
   · (try simp only [List.length_append, List.length_singleton]); omega
   replace hs66 := St.back [_, _] hs66
   refine WL.r 1 hs66 [] rfl (WL.nil (hK23 _ _ (WC.region (WL.r 3 hs66 [] rfl (WL.nil (tkN ?_))))))
   replace hs66 := (hs66.d1.rm L51)
   have hF70 := (St.grp1 (L1 := L65) [_] ((hs66.fr L65).fb b_c))
   refine ⟨sbF rfl, _, hF70, _, ?_, _, i58, h59, _, A68, c69, L65, rfl, rfl, ?_, ?_, ?_, ho67, ⟨rfl, rfl, trivial⟩⟩
   · omega
   · first | (simp only [List.length_append, List.length_singleton]; omega) | (simp only [List.length_append]; omega)
   · omega
   · omega
  refine WC.r1 hs30 [] rfl (WC.cD rfl (fun qh71 => ?_) (fun qh71 => ?_))
  ·refine WC.region (WL.r 1 hs30 [] rfl (WL.buildF (F := encS) hs30 ([⟨#[27, 91, 65]⟩, ⟨#[27, 91, 50, 66]⟩, ⟨#[27, 91, 67]⟩, ⟨#[27, 91, 51, 68]⟩, ⟨#[27, 91, 72]⟩, ⟨#[27, 91, 50, 59, 51, 72]⟩, ⟨#[27, 91, 75]⟩, ⟨#[27, 91, 49, 75]⟩, ⟨#[27, 91, 50, 74]⟩, ⟨#[27, 91, 74]⟩, ⟨#[27, 91, 49, 74]⟩, ⟨#[27, 91, 50, 59, 51, 114]⟩, ⟨#[27, 91, 114]⟩, ⟨#[27, 91, 76]⟩, ⟨#[27, 91, 50, 77]⟩, ⟨#[27, 91, 64]⟩, ⟨#[27, 91, 50, 80]⟩, ⟨#[27, 91, 88]⟩, ⟨#[27, 91, 83]⟩, ⟨#[27, 91, 84]⟩, ⟨#[27, 91, 50, 71]⟩, ⟨#[27, 91, 51, 100]⟩, ⟨#[27, 91, 49, 59, 51, 49, 109]⟩, ⟨#[27, 91, 48, 109]⟩, ⟨#[27, 91, 55, 59, 52, 52, 109]⟩, ⟨#[27, 91, 63, 55, 108]⟩, ⟨#[27, 91, 63, 55, 104]⟩, ⟨#[27, 91, 63, 50, 53, 108]⟩, ⟨#[27, 91, 63, 49, 48, 52, 57, 104]⟩, ⟨#[27, 91, 63, 49, 48, 52, 57, 108]⟩, ⟨#[27, 91, 103]⟩, ⟨#[27, 91, 51, 103]⟩]) Tryz.runUnderlying197 Tryz.sizeOf9 Tryz.zeroValue9 rfl rfl rfl rfl rfl rfl rfl rfl rfl rfl rfl rfl (fun A75 c76 L72 whs73 hs73 ho74 => ?_)))
   replace hs73 := St.back [_] hs73
   refine WL.r 1 hs73 [] rfl ?_
   have hF77 : St _ _ ([(b_c, _)] ++ _) _ := hs73
   refine WL.call rfl rfl rfl (Run.call Tryz.call89 rfl rfl rfl) (k102_ _ _ _ _ _ _ _ _ _ (hF77.own _ List.mem_cons_self).1 (SlF.st f_s hs73 s_s) (St.sepT hF77 f_s s_s) ?_ ?_) ?_
   · omega
   · omega
   rintro _ whs83 ⟨r78, i79, h80, rfl, hs83, hr81, hi82⟩
   replace hs83 := St.lend1 hF77 hs83
   try have hbhr81 := hr81.2 (by omega)
   refine ⟨_, rfl, WL.val rfl rfl rfl (Run.idxK (r78.toNat) Tryz.runUnderlying197 Tryz.sizeOf9 rfl rfl rfl ?_ ?_ ?_) ?_⟩
   · exact SlF.some_ (SlF.ofOwn ho74 (hs83.ow L72))
   · first | omega | (show _ < 9; omega) | (show _ < 32; omega) | (show _ < 16; omega)
   · first | omega | (show _ < 9; omega) | (show _ < 32; omega) | (show _ < 16; omega)
   refine WL.val rfl rfl rfl (Run.load Tryz.isAgg9 rfl rfl (SlF.one1 (SlF.ofOwn ho74 (hs83.ow L72)) ?_ rfl)) ?_
   · first | omega | (show _ < 9; omega) | (show _ < 32; omega) | (show _ < 16; omega)
   have hsl : (gat encS [⟨#[27, 91, 65]⟩, ⟨#[27, 91, 50, 66]⟩, ⟨#[27, 91, 67]⟩, ⟨#[27, 91, 51, 68]⟩, ⟨#[27, 91, 72]⟩, ⟨#[27, 91, 50, 59, 51, 72]⟩, ⟨#[27, 91, 75]⟩, ⟨#[27, 91, 49, 75]⟩, ⟨#[27, 91, 50, 74]⟩, ⟨#[27, 91, 74]⟩, ⟨#[27, 91, 49, 74]⟩, ⟨#[27, 91, 50, 59, 51, 114]⟩, ⟨#[27, 91, 114]⟩, ⟨#[27, 91, 76]⟩, ⟨#[27, 91, 50, 77]⟩, ⟨#[27, 91, 64]⟩, ⟨#[27, 91, 50, 80]⟩, ⟨#[27, 91, 88]⟩, ⟨#[27, 91, 83]⟩, ⟨#[27, 91, 84]⟩, ⟨#[27, 91, 50, 71]⟩, ⟨#[27, 91, 51, 100]⟩, ⟨#[27, 91, 49, 59, 51, 49, 109]⟩, ⟨#[27, 91, 48, 109]⟩, ⟨#[27, 91, 55, 59, 52, 52, 109]⟩, ⟨#[27, 91, 63, 55, 108]⟩, ⟨#[27, 91, 63, 55, 104]⟩, ⟨#[27, 91, 63, 50, 53, 108]⟩, ⟨#[27, 91, 63, 49, 48, 52, 57, 104]⟩, ⟨#[27, 91, 63, 49, 48, 52, 57, 108]⟩, ⟨#[27, 91, 103]⟩, ⟨#[27, 91, 51, 103]⟩] r78.toNat).data.toList.length ≤ 20 := by
     have h9 : ∀ x, x ∈ ([⟨#[27, 91, 65]⟩, ⟨#[27, 91, 50, 66]⟩, ⟨#[27, 91, 67]⟩, ⟨#[27, 91, 51, 68]⟩, ⟨#[27, 91, 72]⟩, ⟨#[27, 91, 50, 59, 51, 72]⟩, ⟨#[27, 91, 75]⟩, ⟨#[27, 91, 49, 75]⟩, ⟨#[27, 91, 50, 74]⟩, ⟨#[27, 91, 74]⟩, ⟨#[27, 91, 49, 74]⟩, ⟨#[27, 91, 50, 59, 51, 114]⟩, ⟨#[27, 91, 114]⟩, ⟨#[27, 91, 76]⟩, ⟨#[27, 91, 50, 77]⟩, ⟨#[27, 91, 64]⟩, ⟨#[27, 91, 50, 80]⟩, ⟨#[27, 91, 88]⟩, ⟨#[27, 91, 83]⟩, ⟨#[27, 91, 84]⟩, ⟨#[27, 91, 50, 71]⟩, ⟨#[27, 91, 51, 100]⟩, ⟨#[27, 91, 49, 59, 51, 49, 109]⟩, ⟨#[27, 91, 48, 109]⟩, ⟨#[27, 91, 55, 59, 52, 52, 109]⟩, ⟨#[27, 91, 63, 55, 108]⟩, ⟨#[27, 91, 63, 55, 104]⟩, ⟨#[27, 91, 63, 50, 53, 108]⟩, ⟨#[27, 91, 63, 49, 48, 52, 57, 104]⟩, ⟨#[27, 91, 63, 49, 48, 52, 57, 108]⟩, ⟨#[27, 91, 103]⟩, ⟨#[27, 91, 51, 103]⟩] : List ByteArray) → x.data.toList.length ≤ 20 := by decide
     exact h9 _ (gat_mem (F := encS) (by show _ < 32; omega))
   refine WL.appendG (hs83.fr L17) ho18 (srcStr Tryz.underlying9 _) Tryz.underlying22 inf5 rfl rfl rfl rfl rfl rfl rfl rfl rfl rfl ?_ (fun A87 c88 L84 whs85 hs85 ho86 => ?_)
   · (try simp only [List.length_append, List.length_singleton]); omega
   replace hs85 := St.back [_] hs85
   refine WL.r 1 hs85 [] rfl (WL.nil (hK23 _ _ (WC.region (WL.r 3 hs85 [] rfl (WL.nil (tkN ?_))))))
   replace hs85 := (hs85.rm L72)
   have hF89 := (St.grp1 (L1 := L84) [_] ((hs85.fr L84).fb b_c))
   refine ⟨sbF rfl, _, hF89, _, ?_, _, i79, h80, _, A87, c88, L84, rfl, rfl, ?_, ?_, ?_, ho86, ⟨rfl, rfl, trivial⟩⟩
   · omega
   · first | (simp only [List.length_append, List.length_singleton]; omega) | (simp only [List.length_append]; omega)
   · omega
   · omega
  refine WC.r1 hs30 [] rfl (WC.cD rfl (fun qh90 => ?_) (fun qh90 => ?_))
  ·refine WC.region (WL.r 1 hs30 [] rfl (WL.buildF (F := encS) hs30 ([⟨#[27, 77]⟩, ⟨#[27, 68]⟩, ⟨#[27, 69]⟩, ⟨#[27, 55]⟩, ⟨#[27, 56]⟩, ⟨#[27, 99]⟩, ⟨#[27, 72]⟩, ⟨#[27, 91, 33, 112]⟩, ⟨#[27, 91, 49, 59, 50, 59, 51, 59, 52, 59, 53, 59, 54, 59, 55, 59, 56, 59, 57, 109]⟩, ⟨#[27, 91]⟩, ⟨#[27]⟩, ⟨#[27, 91, 51]⟩, ⟨#[228, 184]⟩, ⟨#[195]⟩, ⟨#[27, 91, 57, 57, 57, 57, 57, 67]⟩, ⟨#[27, 91, 48, 59, 48, 72]⟩]) Tryz.runUnderlying197 Tryz.sizeOf9 Tryz.zeroValue9 rfl rfl rfl rfl rfl rfl rfl rfl rfl rfl rfl rfl (fun A94 c95 L91 whs92 hs92 ho93 => ?_)))
   replace hs92 := St.back [_] hs92
   refine WL.r 1 hs92 [] rfl ?_
   have hF96 : St _ _ ([(b_c, _)] ++ _) _ := hs92
   refine WL.call rfl rfl rfl (Run.call Tryz.call89 rfl rfl rfl) (k102_ _ _ _ _ _ _ _ _ _ (hF96.own _ List.mem_cons_self).1 (SlF.st f_s hs92 s_s) (St.sepT hF96 f_s s_s) ?_ ?_) ?_
   · omega
   · omega
   rintro _ whs102 ⟨r97, i98, h99, rfl, hs102, hr100, hi101⟩
   replace hs102 := St.lend1 hF96 hs102
   try have hbhr100 := hr100.2 (by omega)
   refine ⟨_, rfl, WL.val rfl rfl rfl (Run.idxK (r97.toNat) Tryz.runUnderlying197 Tryz.sizeOf9 rfl rfl rfl ?_ ?_ ?_) ?_⟩
   · exact SlF.some_ (SlF.ofOwn ho93 (hs102.ow L91))
   · first | omega | (show _ < 9; omega) | (show _ < 32; omega) | (show _ < 16; omega)
   · first | omega | (show _ < 9; omega) | (show _ < 32; omega) | (show _ < 16; omega)
   refine WL.val rfl rfl rfl (Run.load Tryz.isAgg9 rfl rfl (SlF.one1 (SlF.ofOwn ho93 (hs102.ow L91)) ?_ rfl)) ?_
   · first | omega | (show _ < 9; omega) | (show _ < 32; omega) | (show _ < 16; omega)
   have hsl : (gat encS [⟨#[27, 77]⟩, ⟨#[27, 68]⟩, ⟨#[27, 69]⟩, ⟨#[27, 55]⟩, ⟨#[27, 56]⟩, ⟨#[27, 99]⟩, ⟨#[27, 72]⟩, ⟨#[27, 91, 33, 112]⟩, ⟨#[27, 91, 49, 59, 50, 59, 51, 59, 52, 59, 53, 59, 54, 59, 55, 59, 56, 59, 57, 109]⟩, ⟨#[27, 91]⟩, ⟨#[27]⟩, ⟨#[27, 91, 51]⟩, ⟨#[228, 184]⟩, ⟨#[195]⟩, ⟨#[27, 91, 57, 57, 57, 57, 57, 67]⟩, ⟨#[27, 91, 48, 59, 48, 72]⟩] r97.toNat).data.toList.length ≤ 20 := by
     have h9 : ∀ x, x ∈ ([⟨#[27, 77]⟩, ⟨#[27, 68]⟩, ⟨#[27, 69]⟩, ⟨#[27, 55]⟩, ⟨#[27, 56]⟩, ⟨#[27, 99]⟩, ⟨#[27, 72]⟩, ⟨#[27, 91, 33, 112]⟩, ⟨#[27, 91, 49, 59, 50, 59, 51, 59, 52, 59, 53, 59, 54, 59, 55, 59, 56, 59, 57, 109]⟩, ⟨#[27, 91]⟩, ⟨#[27]⟩, ⟨#[27, 91, 51]⟩, ⟨#[228, 184]⟩, ⟨#[195]⟩, ⟨#[27, 91, 57, 57, 57, 57, 57, 67]⟩, ⟨#[27, 91, 48, 59, 48, 72]⟩] : List ByteArray) → x.data.toList.length ≤ 20 := by decide
     exact h9 _ (gat_mem (F := encS) (by show _ < 16; omega))
   refine WL.appendG (hs102.fr L17) ho18 (srcStr Tryz.underlying9 _) Tryz.underlying22 inf5 rfl rfl rfl rfl rfl rfl rfl rfl rfl rfl ?_ (fun A106 c107 L103 whs104 hs104 ho105 => ?_)
   · (try simp only [List.length_append, List.length_singleton]); omega
   replace hs104 := St.back [_] hs104
   refine WL.r 1 hs104 [] rfl (WL.nil (hK23 _ _ (WC.region (WL.r 3 hs104 [] rfl (WL.nil (tkN ?_))))))
   replace hs104 := (hs104.rm L91)
   have hF108 := (St.grp1 (L1 := L103) [_] ((hs104.fr L103).fb b_c))
   refine ⟨sbF rfl, _, hF108, _, ?_, _, i98, h99, _, A106, c107, L103, rfl, rfl, ?_, ?_, ?_, ho105, ⟨rfl, rfl, trivial⟩⟩
   · omega
   · first | (simp only [List.length_append, List.length_singleton]; omega) | (simp only [List.length_append]; omega)
   · omega
   · omega
  refine WC.region (WL.r 2 hs30 [] rfl ?_)
  have hF109 : St _ _ ([(b_c, _)] ++ _) _ := hs30
  refine WL.call rfl rfl rfl (Run.call Tryz.call169 rfl rfl rfl) (k101_ _ _ _ _ _ _ _ _ (hF109.own _ List.mem_cons_self).1 (SlF.st f_s hs30 s_s) (St.sepT hF109 f_s s_s) ?_ ?_) ?_
  · omega
  · omega
  rintro _ whs115 ⟨r110, i111, h112, rfl, hs115, hr113, hi114⟩
  replace hs115 := St.lend1 hF109 hs115
  refine ⟨_, rfl, WL.r 1 hs115 [] rfl (WL.buildSlice hs115 Tryz.runUnderlying22 Tryz.sizeOf5 Tryz.zeroValue5 rfl rfl rfl rfl rfl rfl rfl rfl rfl rfl (fun b116 whs117 hs117 => ?_))⟩
  refine WL.appendG (hs117.fr L17) ho18 (srcB1 Tryz.underlying22 (hs117.own _ (nthL_mem (i := 0) rfl)).1) Tryz.underlying22 inf5 rfl rfl rfl rfl rfl rfl rfl rfl rfl rfl ?_ (fun A121 c122 L118 whs119 hs119 ho120 => ?_)
  · (try simp only [List.length_append, List.length_singleton]); omega
  replace hs119 := St.back [_, _] hs119
  refine WL.r 1 hs119 [] rfl (WL.nil (hK23 _ _ (WC.region (WL.r 3 hs119 [] rfl (WL.nil (tkN ?_))))))
  replace hs119 := hs119.d1
  have hF123 := (St.grp1 (L1 := L118) [_] ((hs119.fr L118).fb b_c))
  refine ⟨sbF rfl, _, hF123, _, ?_, _, i111, h112, _, A121, c122, L118, rfl, rfl, ?_, ?_, ?_, ho120, ⟨rfl, rfl, trivial⟩⟩
  · omega
  · first | (simp only [List.length_append, List.length_singleton]; omega) | (simp only [List.length_append]; omega)
  · omega
  · omega
 refine WC.exit (hK7 _ _ (WC.r1 hs20 [] rfl (WC.ret (retV1 rfl (resV.tmp rfl) (⟨_, _, zs, _, _, _, rfl, St.keepP (L1 := L17) ((hs20.fr L17).fb b_c), ho18, by omega, by omega⟩)))))
theorem k120_ (t : TermR) (w : World) (f_t : okTermR 549755813888 w t) :
    Calls Tryz.prog 107 #[.agg #[i64 t.P.State, .bool t.P.Mark, .slice t.P.Args.A t.P.Args.n t.P.Args.c, .slice t.P.Part.A t.P.Part.n t.P.Part.c, i64 t.S.W, i64 t.S.H, i64 t.S.Main.W, i64 t.S.Main.H, .slice t.S.Main.Cells.A t.S.Main.Cells.n t.S.Main.Cells.c, i64 t.S.Alt.W, i64 t.S.Alt.H, .slice t.S.Alt.Cells.A t.S.Alt.Cells.n t.S.Alt.Cells.c, .bool t.S.OnAlt, i64 t.S.X, i64 t.S.Y, .bool t.S.Wrap, i64 t.S.A.Fg, i64 t.S.A.Bg, .bool t.S.A.Bold, .bool t.S.A.Under, .bool t.S.A.Turn, i64 t.S.Top, i64 t.S.Bot, .bool t.S.NoWrap, .bool t.S.Hide, i64 t.S.SaveX, i64 t.S.SaveY, i64 t.S.SaveA.Fg, i64 t.S.SaveA.Bg, .bool t.S.SaveA.Bold, .bool t.S.SaveA.Under, .bool t.S.SaveA.Turn, .slice t.S.Tabs.A t.S.Tabs.n t.S.Tabs.c, i64 t.S.Limit, .slice t.S.Back.A t.S.Back.n t.S.Back.c]] w fun e w' => e = .returned (.bool (termOk t.dat)) ∧ St w [] [] w' := by
 have nb_t_P_Args := f_t.P.Args_n
 have nl_t_P_Args := f_t.P.Args.len
 have nb_t_P_Part := f_t.P.Part_n
 have nl_t_P_Part := f_t.P.Part.len
 have nb_t_S_Main_Cells := f_t.S.Main.Cells_n
 have nl_t_S_Main_Cells := f_t.S.Main.Cells.len
 have nb_t_S_Alt_Cells := f_t.S.Alt.Cells_n
 have nl_t_S_Alt_Cells := f_t.S.Alt.Cells.len
 have nb_t_S_Tabs := f_t.S.Tabs_n
 have nl_t_S_Tabs := f_t.S.Tabs.len
 have nb_t_S_Back := f_t.S.Back_n
 have nl_t_S_Back := f_t.S.Back.sl.len
 refine enter 11 Tryz.func107 rfl Tryz.ntmps107 rfl rfl ?_
 have hs1 := St.init w
 refine WC.sr (WL.bx hs1 rfl (fun b2 _ hs3 => WL.r 1 hs3 [] rfl (WL.nil (WC.sr (WL.r 2 hs3 [0] rfl (WL.cl Tryz.call191 rfl (k92_ t.P _ (okVpR.st0 f_t.P hs3)) ?_))))))
 rintro _ whs4 ⟨rfl, hs4⟩
 replace hs4 := hs3.call0 hs4
 refine ⟨_, rfl, WL.r 1 hs4 [] rfl ?_⟩
 apply WL.gA 3 Acts.nil hs4 rfl
 ·intro g5 J6
  have qg5 := g5
  try simp only [bf, within_iff, within_not] at qg5
  refine WL.runA tbk 2 (Acts.nil.cons (j := 3) rfl g5) hs4 [0] rfl ⟨rfl, trivial⟩ (WL.call (wantT rfl g5) rfl rfl (Run.call Tryz.call29 rfl rfl rfl) (k38_ t.S _ (okScrR.st0 f_t.S hs4)) ?_)
  rintro _ whs7 ⟨rfl, hs7⟩
  replace hs7 := hs4.call0 hs7
  refine ⟨_, rfl, WL.eA 3 Acts.nil J6 hs7 g5 rfl rfl⟩
 intro _ hs8
 refine WL.r 1 hs8 [] rfl (WL.nil (WC.ret (rtv rfl rfl hs8 ?_)))
 rfl
theorem k121_ (t : TermR) (w : World) (f_t : okTermR 549755813888 w t) :
    Calls Tryz.prog 105 #[.agg #[i64 t.P.State, .bool t.P.Mark, .slice t.P.Args.A t.P.Args.n t.P.Args.c, .slice t.P.Part.A t.P.Part.n t.P.Part.c, i64 t.S.W, i64 t.S.H, i64 t.S.Main.W, i64 t.S.Main.H, .slice t.S.Main.Cells.A t.S.Main.Cells.n t.S.Main.Cells.c, i64 t.S.Alt.W, i64 t.S.Alt.H, .slice t.S.Alt.Cells.A t.S.Alt.Cells.n t.S.Alt.Cells.c, .bool t.S.OnAlt, i64 t.S.X, i64 t.S.Y, .bool t.S.Wrap, i64 t.S.A.Fg, i64 t.S.A.Bg, .bool t.S.A.Bold, .bool t.S.A.Under, .bool t.S.A.Turn, i64 t.S.Top, i64 t.S.Bot, .bool t.S.NoWrap, .bool t.S.Hide, i64 t.S.SaveX, i64 t.S.SaveY, i64 t.S.SaveA.Fg, i64 t.S.SaveA.Bg, .bool t.S.SaveA.Bold, .bool t.S.SaveA.Under, .bool t.S.SaveA.Turn, .slice t.S.Tabs.A t.S.Tabs.n t.S.Tabs.c, i64 t.S.Limit, .slice t.S.Back.A t.S.Back.n t.S.Back.c]] w fun e w' => e = .returned (.bool (termOk t.dat)) ∧ St w [] [] w' := by
 have nb_t_P_Args := f_t.P.Args_n
 have nl_t_P_Args := f_t.P.Args.len
 have nb_t_P_Part := f_t.P.Part_n
 have nl_t_P_Part := f_t.P.Part.len
 have nb_t_S_Main_Cells := f_t.S.Main.Cells_n
 have nl_t_S_Main_Cells := f_t.S.Main.Cells.len
 have nb_t_S_Alt_Cells := f_t.S.Alt.Cells_n
 have nl_t_S_Alt_Cells := f_t.S.Alt.Cells.len
 have nb_t_S_Tabs := f_t.S.Tabs_n
 have nl_t_S_Tabs := f_t.S.Tabs.len
 have nb_t_S_Back := f_t.S.Back_n
 have nl_t_S_Back := f_t.S.Back.sl.len
 refine enter 11 Tryz.func105 rfl Tryz.ntmps105 rfl rfl ?_
 have hs1 := St.init w
 refine WC.sr (WL.bx hs1 rfl (fun b2 _ hs3 => WL.r 1 hs3 [] rfl (WL.nil (WC.sr (WL.r 2 hs3 [0] rfl (WL.cl Tryz.call165 rfl (k93_ t.P _ (okVpR.st0 f_t.P hs3)) ?_))))))
 rintro _ whs4 ⟨rfl, hs4⟩
 replace hs4 := hs3.call0 hs4
 refine ⟨_, rfl, WL.r 1 hs4 [] rfl ?_⟩
 apply WL.gA 3 Acts.nil hs4 rfl
 ·intro g5 J6
  have qg5 := g5
  try simp only [bf, within_iff, within_not] at qg5
  refine WL.runA tbk 2 (Acts.nil.cons (j := 3) rfl g5) hs4 [0] rfl ⟨rfl, trivial⟩ (WL.call (wantT rfl g5) rfl rfl (Run.call Tryz.call63 rfl rfl rfl) (k41_ t.S _ (okScrR.st0 f_t.S hs4)) ?_)
  rintro _ whs7 ⟨rfl, hs7⟩
  replace hs7 := hs4.call0 hs7
  refine ⟨_, rfl, WL.eA 3 Acts.nil J6 hs7 g5 rfl rfl⟩
 intro _ hs8
 refine WL.r 1 hs8 [] rfl (WL.nil (WC.ret (rtv rfl rfl hs8 ?_)))
 rfl
theorem k122_ (u_0 u_1 u_2 u_3 : Value) (b_s : Nat) (s : ScrR) (L_s : Hp) (w : World) (hb_s : w.heap[b_s]? = some (oS u_0 u_1 u_2 u_3 s)) (o_s : ownScrR s L_s) (h_s : Hh w L_s) (hd_ : (b_s :: L_s.map (·.1)).Nodup) (hx : s.OnAlt = false) :
    Calls Tryz.prog 223 #[.pointer (some ⟨b_s, 4, none⟩)] w fun e w' => ∃ r L1, e = .returned (.pointer (some ⟨b_s, 6, none⟩)) ∧ St w (b_s :: L_s.map (·.1)) ([(b_s, oS u_0 u_1 u_2 u_3 r)] ++ L1) w' ∧ ownScrR r L1 ∧ r.dat = s.dat := by
 refine enter 13 Tryz.func223 rfl Tryz.ntmps223 rfl rfl ?_
 have hs1 := St.takeP w b_s _ L_s hb_s h_s hd_
 refine WC.r1 hs1 [] rfl (WC.seq (fun K2 hK2 => WC.r1 hs1 [0] rfl ?_))
 refine WC.cq rfl (fun h3 qh3 => ?_) (fun h3 qh3 => ?_)
 ·exfalso; have h9 := h3; rw [hx] at h9; revert h9; decide
 refine WC.skip (hK2 _ _ (WC.r1 hs1 [] rfl (WC.ret (retV1 rfl (resV.tmp rfl) (⟨s, _, rfl, St.keepP (L1 := L_s) ((hs1.fr L_s).fb b_s), o_s, ?_⟩)))))
 · rfl
theorem k123_ (u_0 u_1 u_2 u_3 : Value) (b_s : Nat) (s : ScrR) (L_s : Hp) (w : World) (hb_s : w.heap[b_s]? = some (oS u_0 u_1 u_2 u_3 s)) (o_s : ownScrR s L_s) (h_s : Hh w L_s) (hd_ : (b_s :: L_s.map (·.1)).Nodup) (hx : s.OnAlt = true) :
    Calls Tryz.prog 223 #[.pointer (some ⟨b_s, 4, none⟩)] w fun e w' => ∃ r L1, e = .returned (.pointer (some ⟨b_s, 9, none⟩)) ∧ St w (b_s :: L_s.map (·.1)) ([(b_s, oS u_0 u_1 u_2 u_3 r)] ++ L1) w' ∧ ownScrR r L1 ∧ r.dat = s.dat := by
 refine enter 13 Tryz.func223 rfl Tryz.ntmps223 rfl rfl ?_
 have hs1 := St.takeP w b_s _ L_s hb_s h_s hd_
 refine WC.r1 hs1 [] rfl (WC.seq (fun K2 hK2 => WC.r1 hs1 [0] rfl ?_))
 refine WC.cq rfl (fun h3 qh3 => ?_) (fun h3 qh3 => ?_)
 ·refine WC.r1 hs1 [] rfl (WC.ret (tkR ?_))
  clear hK2
  refine retV1 rfl (resV.tmp rfl) (⟨s, _, rfl, St.keepP (L1 := L_s) ((hs1.fr L_s).fb b_s), o_s, ?_⟩)
  · rfl
 exfalso; have h9 := h3; rw [hx] at h9; revert h9; decide
theorem k124_ (u_0 u_1 u_2 u_3 : Value) (b_s : Nat) (s : ScrR) (L_s : Hp) (n : Nat) (w : World) (hb_s : w.heap[b_s]? = some (oS u_0 u_1 u_2 u_3 s)) (o_s : ownScrR s L_s) (h_s : Hh w L_s) (hd_ : (b_s :: L_s.map (·.1)).Nodup) (hm : gridOk s.Main.dat = true) (hlim : 0 ≤ s.Limit ∧ s.Limit ≤ 1048576) (hb : (s.Back.xs.length : Int) ≤ s.Limit) (hn : (n : Int) ≤ s.Main.H) (hsm : smScr 1048576 s.dat) :
    Calls Tryz.prog 248 #[.pointer (some ⟨b_s, 4, none⟩), .int .i64 n] w fun e w' => ∃ r L1, e = .returned (.tuple #[]) ∧ St w (b_s :: L_s.map (·.1)) ([(b_s, oS u_0 u_1 u_2 u_3 r)] ++ L1) w' ∧ ownScrR r L1 ∧ r.dat = keepRows s.dat n := by
 have hsmB : smScr 549755813888 s.dat := smScr_mono hsm (by decide)
 have hgb : (1 ≤ s.Main.W ∧ s.Main.W ≤ 120) ∧ (1 ≤ s.Main.H ∧ s.Main.H ≤ 120) ∧ 1 ≤ s.Main.W * s.Main.H ∧ s.Main.W * s.Main.H ≤ 4000 := gridOk_bnd hm
 have hgl : (s.Main.Cells.xs.length : Int) = s.Main.W * s.Main.H := by have h_ := hm; unfold gridOk at h_; rw [Bool.and_eq_true, Bool.and_eq_true, decide_eq_true_eq] at h_; exact h_.1.2
 refine enter 49 Tryz.func248 rfl Tryz.ntmps248 rfl rfl ?_
 have hs1 := St.takeP w b_s _ L_s hb_s h_s hd_
 refine WC.seq (fun K2 hK2 => WC.r1 hs1 [] rfl (WC.block ?_))
 have hM7 := (St.grp1 (L1 := L_s) [_] ((hs1.fr L_s).fb b_s))
 refine WC.lV [0, 6] rfl hM7 (fun k_ (a_ : Hp) f => ∃ (i : Nat) (r : ScrR) (L5 : Hp), k_ = n - i ∧ a_ = [(b_s, oS u_0 u_1 u_2 u_3 r)] ++ L5 ∧ (i ≤ n) ∧ (r.dat = keepTo s.dat i) ∧ ownScrR r L5 ∧ Sub [(7, .int .i64 i)] f) (((fun (i : Nat) => n - i) (0))) ?_ ?_
 ·refine ⟨0, s, L_s, rfl, rfl, ?_, ?_, o_s, ⟨rfl, trivial⟩⟩
  · omega
  · exact keepTo_zero.symm
 rintro _ _ f w ⟨i, r, L5, rfl, rfl, p0, p1, ho6, hG⟩ hF hs8
 refine WC.sub _ (hG.app hF) ?_
 clear hG hF
 replace hs8 := St.ungrp1 [_] hs8
 have hsmr : smScr 549755813888 r.dat := by rw [p1]; exact keepTo_sm (smScr_mono hsm (by decide)) hm (by simp only [ScrR.dat, List.length_map]; omega) (by decide)
 have hrb : r.Back.xs.length = s.Back.xs.length + i := by have h9 := congrArg (fun d : ScrD => d.Back.length) p1; simpa [ScrR.dat, keepTo] using h9
 have hrm : r.Main.dat = s.Main.dat := congrArg ScrD.Main p1
 have hrW : r.Main.W = s.Main.W := congrArg GridD.W hrm
 have hrC : r.Main.Cells.xs = s.Main.Cells.xs := congrArg GridD.Cells hrm
 have hrL : r.Limit = s.Limit := congrArg ScrD.Limit p1
 obtain ⟨⟨hrn1, hrn2⟩, _, _, hrn3, hrn4⟩ := ownScrR.lens ‹ownScrR r _›
 refine WC.r1 hs8 [] rfl (WC.seq (fun K9 hK9 => ?_))
 refine WC.cD rfl (fun qh10 => ?_) (fun qh10 => ?_)
 ·have hv0 : 0 ≤ (i : Int) * r.Main.W := Int.mul_nonneg (by omega) (by omega)
  have hv1 : ((i : Int) + 1) * r.Main.W = (i : Int) * r.Main.W + r.Main.W := by rw [Int.add_mul, Int.one_mul]
  have hv2 : ((i : Int) + 1) * r.Main.W ≤ s.Main.H * s.Main.W := by rw [hrW]; exact Int.mul_le_mul_of_nonneg_right (by omega) (by omega)
  rw [Int.mul_comm s.Main.H] at hv2
  have hrl : r.Main.Cells.xs.length = s.Main.Cells.xs.length := congrArg List.length hrC
  have hrow : (RowD.mk ((r.Main.Cells.xs.drop ((i : Int) * r.Main.W).toNat).take ((((i : Int) + 1) * r.Main.W).toNat - ((i : Int) * r.Main.W).toNat))) = rowAt s.dat.Main i := by
    have e1 : ((i : Int) * r.Main.W).toNat = i * s.Main.W.toNat := by rw [hrW]; exact toNat_mul_nat (by omega)
    have e2 : (((i : Int) + 1) * r.Main.W).toNat - i * s.Main.W.toNat = s.Main.W.toNat := by rw [← e1]; omega
    rw [e1, e2, hrC]; rfl
  refine WC.skip (hK9 _ _ (WC.seq (fun K11 hK11 => WC.block (WC.r1 hs8 [] rfl (WC.rG 17 (hs8.d1.rm L5) (hs8.rm L5) hs8 (fun _ hs12 => ?_))))))
  refine WG.rn [0, 1, 2, 3, 4, 5, 6, 7, 8, 9] (hs12.rm L5) [0, 0] rfl rfl (WG.o1 10 rfl rfl (WL.cl Tryz.call224 rfl (k46_ r.Main _ _ (ownScrR.ok (B := 549755813888) ho6 (hs12.ow L5) hsmr).Main ?_ ?_ ?_ ?_) ?_))
  iterate 4 first | assumption | rfl | omega
  rintro _ whs13 ⟨rfl, hs13⟩
  replace hs13 := hs12.call0 hs13
  refine ⟨_, rfl, WL.nil ⟨(hs13.rm L5), WG.o1 11 rfl rfl ?_⟩⟩
  refine WL.cl Tryz.call208 rfl (k42_ _ _ _ _ _ (SlF.cutC (lo := ((i : Int) * r.Main.W).toNat) (hi := (((i : Int) + 1) * r.Main.W).toNat) (ownScrR.ok (B := 549755813888) ho6 (hs13.ow L5) hsmr).Main.Cells (by refine ⟨?_, ?_, ?_⟩ <;> (omega))) ?_) ?_
  · first | assumption | rfl | omega
  rintro _ whs14 ⟨A15, c16, L1_17, rfl, hs14, ho18⟩
  replace hs14 := hs13.callF hs14
  refine ⟨_, rfl, ?_⟩
  replace hs14 := St.back [_] hs14
  refine WL.nil ⟨((hs14.rm L1_17).rm L5), ?_⟩
  refine WG.tk 12 rfl (by kernel_rfl) rfl rfl rfl ((hs14.rm L1_17).rm L5) (fun w_ hs_ => (Run.build rfl rfl rfl rfl (built_98_0 _ _ _))) ?_
  refine WG.o1 13 rfl rfl (WL.buildSlice hs14 Tryz.runUnderlying31 Tryz.sizeOf98 Tryz.zeroValue98 rfl rfl rfl rfl rfl rfl rfl rfl rfl rfl (fun b19 whs20 hs20 => WL.nil ⟨((hs20.d1.rm L1_17).rm L5), WG.o1 14 rfl rfl ?_⟩))
  obtain ⟨L21, L22, L23, L24, hs29, ho25, ho26, ho27, ho28⟩ := ownScrR.op hs20 ho6
  have hs30 := ((hs29.fb b_s).fb b19)
  obtain ⟨L31, L32, hs35, ho33, ho34⟩ := OwnN.open_ (hs30.fr L24) ho28
  have hs36 := ((hs35.fb b_s).fb b19)
  refine WL.appendG (hs36.fr L31) ho33 (srcF (F := encRowR) (ys := [(⟨SlD.of ho18⟩ : RowR)]) Tryz.underlying31 rfl rfl (hs36.own _ (nthL_mem (i := 0) rfl)).1) Tryz.underlying31 inf98 rfl rfl rfl rfl rfl rfl rfl rfl rfl rfl ?_ (fun A40 c41 L37 whs38 hs38 ho39 => ?_)
  · simp; omega
  replace hs38 := St.back [_, _] hs38
  obtain ⟨L42, hs43, hb44⟩ := Bag.put (x := (⟨SlD.of ho18⟩ : RowR)) ((hs38.fr L1_17).fr L32) ho34 ho18
  have hs45 := ((hs43.fb b_s).fb b19)
  obtain ⟨L47, hs46, ho48⟩ := OwnN.fold ((hs45.fr L42).fr L37) ho39 hb44
  have hs49 := ((hs46.fb b_s).fb b19)
  refine WL.nil ⟨((((hs49.d1.rm L47).rm L21).rm L22).rm L23), WG.rn [15, 16] ((((hs49.d1.rm L47).rm L21).rm L22).rm L23) [] rfl rfl (WG.oK rfl (WL.st tbk hs49 1 rfl rfl (fun _ hs50 => WL.nil ⟨((((hs50.d1.d1.rm L47).rm L21).rm L22).rm L23), WH.dn (hK11 _ _ (WC.region ?_))⟩)))⟩
  refine WL.r 2 hs50 [] rfl (WL.nil (tkN ?_))
  obtain ⟨L52, hs51, ho53⟩ := ownScrR.fl hs50 ho25 ho26 ho27 ho48
  have hs54 := ((hs51.fb b_s).fb b19)
  replace hs54 := hs54.d1
  have hF55 := (St.grp1 (L1 := L52) [_] ((hs54.fr L52).fb b_s))
  refine ⟨sbF rfl, _, hF55, _, ?_, i + 1, ⟨r.W, r.H, ⟨r.Main.W, r.Main.H, SlD.of ho25⟩, ⟨r.Alt.W, r.Alt.H, SlD.of ho26⟩, r.OnAlt, r.X, r.Y, r.Wrap, ⟨r.A.Fg, r.A.Bg, r.A.Bold, r.A.Under, r.A.Turn⟩, r.Top, r.Bot, r.NoWrap, r.Hide, r.SaveX, r.SaveY, ⟨r.SaveA.Fg, r.SaveA.Bg, r.SaveA.Bold, r.SaveA.Under, r.SaveA.Turn⟩, SlD.of ho27, r.Limit, SlD.ofN ho48⟩, L52, rfl, rfl, ?_, ?_, (by exact ho53), ⟨rfl, trivial⟩⟩
  · omega
  · omega
  · rw [keepTo_succ (r := ⟨_⟩) hrow, ← p1]; simp only [ScrR.dat, List.map_append, List.map_cons, List.map_nil]; rfl
 have hin : i = n := by omega
 rw [hin] at p1
 have hrd : r.dat.Back.length = r.Back.xs.length := List.length_map _
 refine WC.exit (hK2 _ _ (WC.q1 hs8 [0, 0] rfl (fun _ hs56 => WC.r1 hs56 [] rfl ?_)))
 refine WC.cD rfl (fun qh57 => ?_) (fun qh57 => ?_)
 ·refine WC.region (WL.r 6 hs56 [0] rfl ?_)
  obtain ⟨L59, L60, L61, L62, hs67, ho63, ho64, ho65, ho66⟩ := ownScrR.op hs56 ho6
  have hs68 := (hs67.fb b_s)
  refine WL.cl Tryz.call260 rfl (k52_ _ _ _ _ _ _ ho66 (hs68.ow L62) (St.nodupL (hs68.fr L62)) ?_ ?_ ?_) ?_
  iterate 3 first | assumption | rfl | omega
  rintro _ whs58 ⟨A69, c70, n71, xs72, L1_73, rfl, hs58, ho74, hd75⟩
  replace hs58 := St.lend (hs68.fr L62) hs58
  refine ⟨_, rfl, ?_⟩
  replace hs58 := St.back [_] hs58
  refine WL.r 2 hs58 [] rfl (WL.st tbk hs58 0 rfl rfl (fun _ hs76 => WL.nil (retK0 rfl ?_)))
  obtain ⟨L78, hs77, ho79⟩ := ownScrR.fl hs76 ho63 ho64 ho65 ho74
  have hs80 := (hs77.fb b_s)
  refine ownScrR.retp4 rfl ((hs80.fr L78).fb b_s) ho79 ?_
  · refine Eq.trans ?_ (keepTo_drop p1 (k := ((r.Back.n : Int) - r.Limit).toNat) (by show _ = _ - s.Limit.toNat; omega)); simp only [ScrR.dat, hd75, List.map_drop]
 refine WC.skip (retK0 rfl (⟨r, _, rfl, St.keepP (L1 := L5) ((hs56.fr L5).fb b_s), ho6, ?_⟩))
 · exact keepTo_all p1 (by show _ ≤ s.Limit.toNat; omega)
theorem k125_ (u_0 u_1 u_2 u_3 : Value) (b_s : Nat) (s : ScrR) (L_s : Hp) (top : Int) (bot : Int) (n : Int) (w : World) (hb_s : w.heap[b_s]? = some (oS u_0 u_1 u_2 u_3 s)) (o_s : ownScrR s L_s) (h_s : Hh w L_s) (hd_ : (b_s :: L_s.map (·.1)).Nodup) (hg : gridOk (shownD s.dat) = true) (ht : 0 ≤ top ∧ top ≤ bot ∧ bot < (shownD s.dat).H) (hn : -100000 ≤ n ∧ n ≤ 100000) (hsmB : smScr 549755813888 s.dat) (hx : s.OnAlt = false) :
    Calls Tryz.prog 210 #[.pointer (some ⟨b_s, 4, none⟩), i64 top, i64 bot, i64 n] w fun e w' => ∃ r L1, e = .returned (.tuple #[]) ∧ St w (b_s :: L_s.map (·.1)) ([(b_s, oS u_0 u_1 u_2 u_3 r)] ++ L1) w' ∧ ownScrR r L1 ∧ r.dat = rollD s.dat top bot n := by
 refine enter 20 Tryz.func210 rfl Tryz.ntmps210 rfl rfl ?_
 have hs1 := St.takeP w b_s _ L_s hb_s h_s hd_
 refine WC.sr (WL.r 1 hs1 [] rfl ?_)
 have hF2 := ((hs1.fr L_s).fb b_s)
 refine WL.cl Tryz.call223 rfl (k122_ _ _ _ _ _ s _ _ (St.headP hF2) o_s (St.ownP hF2) (St.nodupP hF2) ?_) ?_
 · first | assumption | rfl | omega
 rintro _ whs3 ⟨r4, L5, rfl, hs3, ho6, hd7⟩
 replace hs3 := St.lendP hF2 hs3
 refine ⟨_, rfl, ?_⟩
 have hd2 := hd7
 have hM2 : r4.Main.dat = shownD s.dat := (congrArg ScrD.Main hd2).trans (by unfold shownD; rw [if_neg (show ¬ s.dat.OnAlt = true from by show ¬ s.OnAlt = true; first | exact hx | (rw [hx]; decide))])
 have hg2 : gridOk r4.Main.dat = true := by rw [hM2]; exact hg
 have ht2 : 0 ≤ top ∧ top ≤ bot ∧ bot < r4.Main.H := by have h9 := congrArg GridD.H hM2; simp only [GridR.dat] at h9; rw [h9]; exact ht
 refine WL.r 1 hs3 [] rfl (WL.nil (WC.region (WL.r 7 hs3 [0] rfl ?_)))
 refine WL.cl Tryz.call249 rfl (k69_ r4.Main _ _ _ _ (ownScrR.ok (B := 549755813888) ho6 (hs3.ow L5) (by rw [hd7]; assumption)).Main ?_ ?_ ?_) ?_
 iterate 3 first | assumption | rfl | omega
 rintro _ whs8 ⟨r9, L1_10, rfl, hs8, ho11, hd12⟩
 replace hs8 := hs3.callF hs8
 refine ⟨_, rfl, ?_⟩
 replace hs8 := St.back [_] hs8
 have hd3 := hd12
 refine WL.r 1 hs8 [] rfl (WL.st tbk hs8 0 rfl rfl (fun _ hs13 => WL.nil (retK0 rfl ?_)))
 obtain ⟨L14, L15, L16, L17, hs22, ho18, ho19, ho20, ho21⟩ := ownScrR.op hs13 ho6
 have hs23 := (hs22.fb b_s)
 obtain ⟨L25, hs24, ho26⟩ := ownScrR.fl hs23 ho11 ho19 ho20 ho21
 have hs27 := (hs24.fb b_s)
 refine ownScrR.retp4 rfl ((hs27.fr L25).fb b_s) ho26 ?_
 · rw [show rollD s.dat top bot n = { s.dat with Main := gRoll (shownD s.dat) top bot n } from by unfold rollD putD; rw [if_neg (show ¬ s.dat.OnAlt = true from by show ¬ s.OnAlt = true; first | exact hx | (rw [hx]; decide))], ← hd2]; exact ScrD.ext' rfl rfl (hd3.trans (by rw [hM2, hd2])) rfl rfl rfl rfl rfl rfl rfl rfl rfl rfl rfl rfl rfl rfl rfl rfl
theorem k126_ (u_0 u_1 u_2 u_3 : Value) (b_s : Nat) (s : ScrR) (L_s : Hp) (top : Int) (bot : Int) (n : Int) (w : World) (hb_s : w.heap[b_s]? = some (oS u_0 u_1 u_2 u_3 s)) (o_s : ownScrR s L_s) (h_s : Hh w L_s) (hd_ : (b_s :: L_s.map (·.1)).Nodup) (hg : gridOk (shownD s.dat) = true) (ht : 0 ≤ top ∧ top ≤ bot ∧ bot < (shownD s.dat).H) (hn : -100000 ≤ n ∧ n ≤ 100000) (hsmB : smScr 549755813888 s.dat) (hx : s.OnAlt = true) :
    Calls Tryz.prog 210 #[.pointer (some ⟨b_s, 4, none⟩), i64 top, i64 bot, i64 n] w fun e w' => ∃ r L1, e = .returned (.tuple #[]) ∧ St w (b_s :: L_s.map (·.1)) ([(b_s, oS u_0 u_1 u_2 u_3 r)] ++ L1) w' ∧ ownScrR r L1 ∧ r.dat = rollD s.dat top bot n := by
 refine enter 20 Tryz.func210 rfl Tryz.ntmps210 rfl rfl ?_
 have hs1 := St.takeP w b_s _ L_s hb_s h_s hd_
 refine WC.sr (WL.r 1 hs1 [] rfl ?_)
 have hF2 := ((hs1.fr L_s).fb b_s)
 refine WL.cl Tryz.call223 rfl (k123_ _ _ _ _ _ s _ _ (St.headP hF2) o_s (St.ownP hF2) (St.nodupP hF2) ?_) ?_
 · first | assumption | rfl | omega
 rintro _ whs3 ⟨r4, L5, rfl, hs3, ho6, hd7⟩
 replace hs3 := St.lendP hF2 hs3
 refine ⟨_, rfl, ?_⟩
 have hd2 := hd7
 have hM2 : r4.Alt.dat = shownD s.dat := (congrArg ScrD.Alt hd2).trans (by unfold shownD; rw [if_pos (show  s.dat.OnAlt = true from by show  s.OnAlt = true; first | exact hx | (rw [hx]; decide))])
 have hg2 : gridOk r4.Alt.dat = true := by rw [hM2]; exact hg
 have ht2 : 0 ≤ top ∧ top ≤ bot ∧ bot < r4.Alt.H := by have h9 := congrArg GridD.H hM2; simp only [GridR.dat] at h9; rw [h9]; exact ht
 refine WL.r 1 hs3 [] rfl (WL.nil (WC.region (WL.r 7 hs3 [0] rfl ?_)))
 refine WL.cl Tryz.call249 rfl (k69_ r4.Alt _ _ _ _ (ownScrR.ok (B := 549755813888) ho6 (hs3.ow L5) (by rw [hd7]; assumption)).Alt ?_ ?_ ?_) ?_
 iterate 3 first | assumption | rfl | omega
 rintro _ whs8 ⟨r9, L1_10, rfl, hs8, ho11, hd12⟩
 replace hs8 := hs3.callF hs8
 refine ⟨_, rfl, ?_⟩
 replace hs8 := St.back [_] hs8
 have hd3 := hd12
 refine WL.r 1 hs8 [] rfl (WL.st tbk hs8 0 rfl rfl (fun _ hs13 => WL.nil (retK0 rfl ?_)))
 obtain ⟨L14, L15, L16, L17, hs22, ho18, ho19, ho20, ho21⟩ := ownScrR.op hs13 ho6
 have hs23 := (hs22.fb b_s)
 obtain ⟨L25, hs24, ho26⟩ := ownScrR.fl hs23 ho18 ho11 ho20 ho21
 have hs27 := (hs24.fb b_s)
 refine ownScrR.retp4 rfl ((hs27.fr L25).fb b_s) ho26 ?_
 · rw [show rollD s.dat top bot n = { s.dat with Alt := gRoll (shownD s.dat) top bot n } from by unfold rollD putD; rw [if_pos (show  s.dat.OnAlt = true from by show  s.OnAlt = true; first | exact hx | (rw [hx]; decide))], ← hd2]; exact ScrD.ext' rfl rfl rfl (hd3.trans (by rw [hM2, hd2])) rfl rfl rfl rfl rfl rfl rfl rfl rfl rfl rfl rfl rfl rfl rfl
theorem k127_ (u_0 u_1 u_2 u_3 : Value) (b_s : Nat) (s : ScrR) (L_s : Hp) (top : Int) (bot : Int) (n : Int) (w : World) (hb_s : w.heap[b_s]? = some (oS u_0 u_1 u_2 u_3 s)) (o_s : ownScrR s L_s) (h_s : Hh w L_s) (hd_ : (b_s :: L_s.map (·.1)).Nodup) (hg : gridOk (shownD s.dat) = true) (ht : 0 ≤ top ∧ top ≤ bot ∧ bot < (shownD s.dat).H) (hn : -100000 ≤ n ∧ n ≤ 100000) (hsmB : smScr 549755813888 s.dat) :
    Calls Tryz.prog 210 #[.pointer (some ⟨b_s, 4, none⟩), i64 top, i64 bot, i64 n] w fun e w' => ∃ r L1, e = .returned (.tuple #[]) ∧ St w (b_s :: L_s.map (·.1)) ([(b_s, oS u_0 u_1 u_2 u_3 r)] ++ L1) w' ∧ ownScrR r L1 ∧ r.dat = rollD s.dat top bot n := by
 rcases Bool.eq_false_or_eq_true s.OnAlt with hx_ | hx_
 · exact k126_ u_0 u_1 u_2 u_3 b_s s L_s top bot n w hb_s o_s h_s hd_ hg ht hn hsmB hx_
 · exact k125_ u_0 u_1 u_2 u_3 b_s s L_s top bot n w hb_s o_s h_s hd_ hg ht hn hsmB hx_
theorem k128_ (u_0 u_1 u_2 u_3 : Value) (b_s : Nat) (s : ScrR) (L_s : Hp) (n : Int) (w : World) (hb_s : w.heap[b_s]? = some (oS u_0 u_1 u_2 u_3 s)) (o_s : ownScrR s L_s) (h_s : Hh w L_s) (hd_ : (b_s :: L_s.map (·.1)).Nodup) (hf : ScrFine s.dat) (hn : 0 ≤ n ∧ n ≤ 100000) (hsm : smScr 1048576 s.dat) :
    Calls Tryz.prog 209 #[.pointer (some ⟨b_s, 4, none⟩), i64 n] w fun e w' => ∃ r L1, e = .returned (.tuple #[]) ∧ St w (b_s :: L_s.map (·.1)) ([(b_s, oS u_0 u_1 u_2 u_3 r)] ++ L1) w' ∧ ownScrR r L1 ∧ r.dat = rollUpD s.dat n := by
 have hsmB : smScr 549755813888 s.dat := by first | assumption | exact smScr_mono hsm (by decide)
 have hok9 := hf.ok
 obtain ⟨hb1, hb2, hb3, hb4, hb5, hb6⟩ := scrOk_bnd hok9
 obtain ⟨hm, hma⟩ := scrOk_main hok9
 simp only [ScrR.dat, GridR.dat, List.length_map] at hb1 hb2 hb3 hb4 hb5 hb6
 have hgs0 : gridOk (shownD s.dat) = true := hf.shown.1
 have hts0 : 0 ≤ s.Top ∧ s.Top ≤ s.Bot ∧ s.Bot < (shownD s.dat).H := by rw [hf.shown.2.2]; exact ⟨hf.reg.1.1, hf.reg.1.2, hf.reg.2.1⟩
 refine enter 36 Tryz.func209 rfl Tryz.ntmps209 rfl rfl ?_
 have hs1 := St.takeP w b_s _ L_s hb_s h_s hd_
 refine WC.seq (fun K2 hK2 => WC.sr (WL.r 6 hs1 [0] rfl (WL.pA tbk 5 Acts.nil hs1 [0] rfl rfl rfl rfl (fun g_ => ⟨rfl, trivial⟩) (WL.nil ?_))))
 refine WC.cq rfl (fun h3 qh3 => ?_) (fun h3 qh3 => ?_)
 ·have hk : keepD s.dat n = keepRows s.dat (min n (s.Bot + 1)).toNat := by unfold keepD; rw [if_pos (by show s.OnAlt = false ∧ s.Top = 0; have h9 := h3; simpa using h9)]; rfl
  refine WC.region (WL.r 7 hs1 [0] rfl (WL.val rfl rfl rfl (Run.asN ((min n (s.Bot + 1)).toNat) (Run.min rfl rfl rfl) ?_) ?_))
  · omega
  have hF4 := ((hs1.fr L_s).fb b_s)
  refine WL.cl Tryz.call248 rfl (k124_ _ _ _ _ _ s _ _ _ (St.headP hF4) o_s (St.ownP hF4) (St.nodupP hF4) ?_ ?_ ?_ ?_ ?_) ?_
  iterate 5 first | assumption | rfl | omega
  rintro _ whs5 ⟨r6, L7, rfl, hs5, ho8, hd9⟩
  replace hs5 := St.lendP hF4 hs5
  refine ⟨_, rfl, ?_⟩
  have hkr : r6.dat = keepD s.dat n := hd9.trans hk.symm
  have hfr : ScrFine r6.dat := by rw [hkr]; exact hf.keep
  have hsr : smScr 549755813888 r6.dat := by rw [hd9]; exact keepRows_sm hsmB hm (by decide) (by show s.Limit.toNat ≤ _; omega)
  have hgs : gridOk (shownD r6.dat) = true := hfr.shown.1
  have hts : 0 ≤ r6.Top ∧ r6.Top ≤ r6.Bot ∧ r6.Bot < (shownD r6.dat).H := by rw [hfr.shown.2.2]; exact ⟨hfr.reg.1.1, hfr.reg.1.2, hfr.reg.2.1⟩
  have hrT : r6.Top = s.Top := (congrArg ScrD.Top hkr).trans keepD_eqs.2.1
  have hrB : r6.Bot = s.Bot := (congrArg ScrD.Bot hkr).trans keepD_eqs.2.2.1
  refine WL.nil (hK2 _ _ (WC.rH (hs5.d1.rm L7) hs5 (fun _ hs10 => ?_)))
  refine WH.rn [0, 1, 2, 3, 5, 6, 7, 9] (hs10.d1.rm L7) [] rfl rfl (WH.all [4, 8] (by kernel_rfl) rfl (WHs.cons (i := 4) rfl ?_ (WHs.cons (i := 8) rfl ?_ WHs.nil)))
  ·refine WL.r 1 hs10 [0] rfl (WL.nil ⟨(hs10.d1.rm L7), WH.o1 8 rfl (WL.r 1 hs10 [0] rfl (WL.nil ⟨(hs10.d1.rm L7), WH.o1 10 rfl ?_⟩))⟩)
   have hF11 := ((hs10.fr L7).fb b_s)
   refine WL.cl Tryz.call210 rfl (k127_ _ _ _ _ _ r6 _ _ _ _ _ (St.headP hF11) ho8 (St.ownP hF11) (St.nodupP hF11) ?_ ?_ ?_ ?_) ?_
   iterate 4 first | assumption | rfl | omega
   rintro _ whs12 ⟨r13, L14, rfl, hs12, ho15, hd16⟩
   replace hs12 := St.lendP hF11 hs12
   refine ⟨_, rfl, WL.nil ⟨(hs12.d1.rm L14), WH.dn (retK0 rfl (⟨r13, _, rfl, St.keepP (L1 := L14) ((hs12.fr L14).fb b_s), ho15, ?_⟩))⟩⟩
   · refine hd16.trans ?_; unfold rollUpD; first | (rw [hkr, hrT, hrB]; rfl) | (rw [hk]; rfl)
  refine WL.r 1 hs10 [0] rfl (WL.nil ⟨(hs10.d1.rm L7), WH.o1 4 rfl (WL.r 1 hs10 [0] rfl (WL.nil ⟨(hs10.d1.rm L7), WH.o1 10 rfl ?_⟩))⟩)
  have hF17 := ((hs10.fr L7).fb b_s)
  refine WL.cl Tryz.call210 rfl (k127_ _ _ _ _ _ r6 _ _ _ _ _ (St.headP hF17) ho8 (St.ownP hF17) (St.nodupP hF17) ?_ ?_ ?_ ?_) ?_
  iterate 4 first | assumption | rfl | omega
  rintro _ whs18 ⟨r19, L20, rfl, hs18, ho21, hd22⟩
  replace hs18 := St.lendP hF17 hs18
  refine ⟨_, rfl, WL.nil ⟨(hs18.d1.rm L20), WH.dn (retK0 rfl (⟨r19, _, rfl, St.keepP (L1 := L20) ((hs18.fr L20).fb b_s), ho21, ?_⟩))⟩⟩
  · refine hd22.trans ?_; unfold rollUpD; first | (rw [hkr, hrT, hrB]; rfl) | (rw [hk]; rfl)
 have hk : keepD s.dat n = s.dat := by unfold keepD; rw [if_neg (by show ¬ (s.OnAlt = false ∧ s.Top = 0); have h9 := h3; simpa using h9)]
 refine WC.skip (hK2 _ _ (WC.rH (hs1.d1.rm L_s) hs1 (fun _ hs23 => ?_)))
 refine WH.rn [0, 1, 2, 3, 5, 6, 7, 9] (hs23.d1.rm L_s) [] rfl rfl (WH.all [4, 8] (by kernel_rfl) rfl (WHs.cons (i := 4) rfl ?_ (WHs.cons (i := 8) rfl ?_ WHs.nil)))
 ·refine WL.r 1 hs23 [0] rfl (WL.nil ⟨(hs23.d1.rm L_s), WH.o1 8 rfl (WL.r 1 hs23 [0] rfl (WL.nil ⟨(hs23.d1.rm L_s), WH.o1 10 rfl ?_⟩))⟩)
  have hF24 := ((hs23.fr L_s).fb b_s)
  refine WL.cl Tryz.call210 rfl (k127_ _ _ _ _ _ s _ _ _ _ _ (St.headP hF24) o_s (St.ownP hF24) (St.nodupP hF24) ?_ ?_ ?_ ?_) ?_
  iterate 4 first | assumption | rfl | omega
  rintro _ whs25 ⟨r26, L27, rfl, hs25, ho28, hd29⟩
  replace hs25 := St.lendP hF24 hs25
  refine ⟨_, rfl, WL.nil ⟨(hs25.d1.rm L27), WH.dn (retK0 rfl (⟨r26, _, rfl, St.keepP (L1 := L27) ((hs25.fr L27).fb b_s), ho28, ?_⟩))⟩⟩
  · refine hd29.trans ?_; unfold rollUpD; first | (rw [hkr, hrT, hrB]; rfl) | (rw [hk]; rfl)
 refine WL.r 1 hs23 [0] rfl (WL.nil ⟨(hs23.d1.rm L_s), WH.o1 4 rfl (WL.r 1 hs23 [0] rfl (WL.nil ⟨(hs23.d1.rm L_s), WH.o1 10 rfl ?_⟩))⟩)
 have hF30 := ((hs23.fr L_s).fb b_s)
 refine WL.cl Tryz.call210 rfl (k127_ _ _ _ _ _ s _ _ _ _ _ (St.headP hF30) o_s (St.ownP hF30) (St.nodupP hF30) ?_ ?_ ?_ ?_) ?_
 iterate 4 first | assumption | rfl | omega
 rintro _ whs31 ⟨r32, L33, rfl, hs31, ho34, hd35⟩
 replace hs31 := St.lendP hF30 hs31
 refine ⟨_, rfl, WL.nil ⟨(hs31.d1.rm L33), WH.dn (retK0 rfl (⟨r32, _, rfl, St.keepP (L1 := L33) ((hs31.fr L33).fb b_s), ho34, ?_⟩))⟩⟩
 · refine hd35.trans ?_; unfold rollUpD; first | (rw [hkr, hrT, hrB]; rfl) | (rw [hk]; rfl)
theorem k129_ (u_0 u_1 u_2 u_3 : Value) (b_s : Nat) (s : ScrR) (L_s : Hp) (w : World) (hb_s : w.heap[b_s]? = some (oS u_0 u_1 u_2 u_3 s)) (o_s : ownScrR s L_s) (h_s : Hh w L_s) (hd_ : (b_s :: L_s.map (·.1)).Nodup) (hf : ScrFine s.dat) (hsm : smScr 1048576 s.dat) :
    Calls Tryz.prog 151 #[.pointer (some ⟨b_s, 4, none⟩)] w fun e w' => ∃ r L1, e = .returned (.tuple #[]) ∧ St w (b_s :: L_s.map (·.1)) ([(b_s, oS u_0 u_1 u_2 u_3 r)] ++ L1) w' ∧ ownScrR r L1 ∧ r.dat = downD s.dat := by
 have hsmB : smScr 549755813888 s.dat := by first | assumption | exact smScr_mono hsm (by decide)
 have hok9 := hf.ok
 obtain ⟨hb1, hb2, hb3, hb4, hb5, hb6⟩ := scrOk_bnd hok9
 obtain ⟨hm, hma⟩ := scrOk_main hok9
 simp only [ScrR.dat, GridR.dat, List.length_map] at hb1 hb2 hb3 hb4 hb5 hb6
 have hgs0 : gridOk (shownD s.dat) = true := hf.shown.1
 have hts0 : 0 ≤ s.Top ∧ s.Top ≤ s.Bot ∧ s.Bot < (shownD s.dat).H := by rw [hf.shown.2.2]; exact ⟨hf.reg.1.1, hf.reg.1.2, hf.reg.2.1⟩
 refine enter 35 Tryz.func151 rfl Tryz.ntmps151 rfl rfl ?_
 have hs1 := St.takeP w b_s _ L_s hb_s h_s hd_
 refine WC.seq (fun K2 hK2 => WC.block (WC.q1 hs1 [0, 0] rfl (fun _ hs3 => ?_)))
 refine WC.cq rfl (fun h4 qh4 => ?_) (fun h4 qh4 => ?_)
 ·have e1 : s.dat.Y = s.dat.Bot := by show s.Y = s.Bot; have h9 := h4; simpa using h9
  refine WC.region (WL.r 1 hs3 [] rfl ?_)
  have hF5 := ((hs3.fr L_s).fb b_s)
  refine WL.cl Tryz.call209 rfl (k128_ _ _ _ _ _ s _ _ _ (St.headP hF5) o_s (St.ownP hF5) (St.nodupP hF5) ?_ ?_ ?_) ?_
  iterate 3 first | assumption | rfl | omega
  rintro _ whs6 ⟨r7, L8, rfl, hs6, ho9, hd10⟩
  replace hs6 := St.lendP hF5 hs6
  refine ⟨_, rfl, ?_⟩
  have hd3 := hd10
  refine WL.nil (hK2 _ _ (WC.region (WL.r 3 hs6 [] rfl (WL.st tbk hs6 0 rfl rfl (fun _ hs11 => WL.nil (retK0 rfl ?_))))))
  obtain ⟨L12, L13, L14, L15, hs20, ho16, ho17, ho18, ho19⟩ := ownScrR.op hs11 ho9
  have hs21 := (hs20.fb b_s)
  obtain ⟨L23, hs22, ho24⟩ := ownScrR.fl hs21 ho16 ho17 ho18 ho19
  have hs25 := (hs22.fb b_s)
  refine ownScrR.retp4 rfl ((hs25.fr L23).fb b_s) ho24 ?_
  · unfold downD; first | (rw [if_pos e1, ← hd3]; rfl) | (rw [if_neg e1, if_pos e2]; rfl) | (rw [if_neg e1, if_neg e2]; rfl)
 have e1 : ¬ s.dat.Y = s.dat.Bot := by show ¬ s.Y = s.Bot; have h9 := h4; simpa using h9
 refine WC.q1 hs3 [0, 0] rfl (fun _ hs26 => ?_)
 refine WC.cq rfl (fun h27 qh27 => ?_) (fun h27 qh27 => ?_)
 ·have e2 : s.dat.Y < s.dat.H - 1 := by show s.Y < s.H - 1; have h9 := h27; simpa using h9
  refine WC.region (WL.r 7 hs26 [0] rfl (WL.st tbk hs26 0 rfl rfl (fun _ hs28 => WL.nil (hK2 _ _ (WC.region (WL.r 3 hs28 [] rfl (WL.st tbk hs28 0 rfl rfl (fun _ hs29 => ?_))))))))
  refine WL.nil (retK0 rfl ?_)
  obtain ⟨L30, L31, L32, L33, hs38, ho34, ho35, ho36, ho37⟩ := ownScrR.op hs29 o_s
  have hs39 := (hs38.fb b_s)
  obtain ⟨L41, hs40, ho42⟩ := ownScrR.fl hs39 ho34 ho35 ho36 ho37
  have hs43 := (hs40.fb b_s)
  refine ownScrR.retp4 rfl ((hs43.fr L41).fb b_s) ho42 ?_
  · unfold downD; first | (rw [if_pos e1, ← hd3]; rfl) | (rw [if_neg e1, if_pos e2]; rfl) | (rw [if_neg e1, if_neg e2]; rfl)
 have e2 : ¬ s.dat.Y < s.dat.H - 1 := by show ¬ s.Y < s.H - 1; have h9 := h27; simpa using h9
 refine WC.skip (hK2 _ _ (WC.region (WL.r 3 hs26 [] rfl (WL.st tbk hs26 0 rfl rfl (fun _ hs44 => WL.nil (retK0 rfl ?_))))))
 obtain ⟨L45, L46, L47, L48, hs53, ho49, ho50, ho51, ho52⟩ := ownScrR.op hs44 o_s
 have hs54 := (hs53.fb b_s)
 obtain ⟨L56, hs55, ho57⟩ := ownScrR.fl hs54 ho49 ho50 ho51 ho52
 have hs58 := (hs55.fb b_s)
 refine ownScrR.retp4 rfl ((hs58.fr L56).fb b_s) ho57 ?_
 · unfold downD; first | (rw [if_pos e1, ← hd3]; rfl) | (rw [if_neg e1, if_pos e2]; rfl) | (rw [if_neg e1, if_neg e2]; rfl)
theorem k130_ (u_0 u_1 u_2 u_3 : Value) (b_s : Nat) (s : ScrR) (L_s : Hp) (w : World) (hb_s : w.heap[b_s]? = some (oS u_0 u_1 u_2 u_3 s)) (o_s : ownScrR s L_s) (h_s : Hh w L_s) (hd_ : (b_s :: L_s.map (·.1)).Nodup) (hf : ScrFine s.dat) (hsm : smScr 1048576 s.dat) :
    Calls Tryz.prog 152 #[.pointer (some ⟨b_s, 4, none⟩)] w fun e w' => ∃ r L1, e = .returned (.tuple #[]) ∧ St w (b_s :: L_s.map (·.1)) ([(b_s, oS u_0 u_1 u_2 u_3 r)] ++ L1) w' ∧ ownScrR r L1 ∧ r.dat = upD s.dat := by
 have hsmB : smScr 549755813888 s.dat := by first | assumption | exact smScr_mono hsm (by decide)
 have hok9 := hf.ok
 obtain ⟨hb1, hb2, hb3, hb4, hb5, hb6⟩ := scrOk_bnd hok9
 obtain ⟨hm, hma⟩ := scrOk_main hok9
 simp only [ScrR.dat, GridR.dat, List.length_map] at hb1 hb2 hb3 hb4 hb5 hb6
 have hgs0 : gridOk (shownD s.dat) = true := hf.shown.1
 have hts0 : 0 ≤ s.Top ∧ s.Top ≤ s.Bot ∧ s.Bot < (shownD s.dat).H := by rw [hf.shown.2.2]; exact ⟨hf.reg.1.1, hf.reg.1.2, hf.reg.2.1⟩
 refine enter 38 Tryz.func152 rfl Tryz.ntmps152 rfl rfl ?_
 have hs1 := St.takeP w b_s _ L_s hb_s h_s hd_
 refine WC.seq (fun K2 hK2 => WC.block (WC.q1 hs1 [0, 0] rfl (fun _ hs3 => ?_)))
 refine WC.cq rfl (fun h4 qh4 => ?_) (fun h4 qh4 => ?_)
 ·have e1 : s.dat.Y = s.dat.Top := by show s.Y = s.Top; have h9 := h4; simpa using h9
  refine WC.rH (hs3.d1.rm L_s) hs3 (fun _ hs5 => ?_)
  refine WH.rn [0, 1, 2, 3, 5, 6, 7] (hs5.d1.rm L_s) [] rfl rfl (WH.all [4, 8] (by kernel_rfl) rfl (WHs.cons (i := 4) rfl ?_ (WHs.cons (i := 8) rfl ?_ WHs.nil)))
  ·refine WL.r 1 hs5 [0] rfl (WL.nil ⟨(hs5.d1.rm L_s), WH.o1 8 rfl (WL.r 1 hs5 [0] rfl (WL.nil ⟨(hs5.d1.rm L_s), WH.o1 9 rfl ?_⟩))⟩)
   have hF6 := ((hs5.fr L_s).fb b_s)
   refine WL.cl Tryz.call210 rfl (k127_ _ _ _ _ _ s _ _ _ _ _ (St.headP hF6) o_s (St.ownP hF6) (St.nodupP hF6) ?_ ?_ ?_ ?_) ?_
   iterate 4 first | assumption | rfl | omega
   rintro _ whs7 ⟨r8, L9, rfl, hs7, ho10, hd11⟩
   replace hs7 := St.lendP hF6 hs7
   refine ⟨_, rfl, ?_⟩
   have hd3 := hd11
   refine WL.nil ⟨(hs7.d1.rm L9), WH.dn (hK2 _ _ (WC.region (WL.r 3 hs7 [] rfl (WL.st tbk hs7 0 rfl rfl (fun _ hs12 => WL.nil (retK0 rfl ?_))))))⟩
   obtain ⟨L13, L14, L15, L16, hs21, ho17, ho18, ho19, ho20⟩ := ownScrR.op hs12 ho10
   have hs22 := (hs21.fb b_s)
   obtain ⟨L24, hs23, ho25⟩ := ownScrR.fl hs22 ho17 ho18 ho19 ho20
   have hs26 := (hs23.fb b_s)
   refine ownScrR.retp4 rfl ((hs26.fr L24).fb b_s) ho25 ?_
   · unfold upD; first | (rw [if_pos e1]; show _ = wrapD (rollD s.dat s.Top s.Bot (-1)) false; refine Eq.trans ?_ (congrArg (fun d => wrapD d false) hd3); rfl) | (rw [if_neg e1, if_pos e2]; rfl) | (rw [if_neg e1, if_neg e2]; rfl)
  refine WL.r 1 hs5 [0] rfl (WL.nil ⟨(hs5.d1.rm L_s), WH.o1 4 rfl (WL.r 1 hs5 [0] rfl (WL.nil ⟨(hs5.d1.rm L_s), WH.o1 9 rfl ?_⟩))⟩)
  have hF27 := ((hs5.fr L_s).fb b_s)
  refine WL.cl Tryz.call210 rfl (k127_ _ _ _ _ _ s _ _ _ _ _ (St.headP hF27) o_s (St.ownP hF27) (St.nodupP hF27) ?_ ?_ ?_ ?_) ?_
  iterate 4 first | assumption | rfl | omega
  rintro _ whs28 ⟨r29, L30, rfl, hs28, ho31, hd32⟩
  replace hs28 := St.lendP hF27 hs28
  refine ⟨_, rfl, ?_⟩
  have hd3 := hd32
  refine WL.nil ⟨(hs28.d1.rm L30), WH.dn (hK2 _ _ (WC.region (WL.r 3 hs28 [] rfl (WL.st tbk hs28 0 rfl rfl (fun _ hs33 => WL.nil (retK0 rfl ?_))))))⟩
  obtain ⟨L34, L35, L36, L37, hs42, ho38, ho39, ho40, ho41⟩ := ownScrR.op hs33 ho31
  have hs43 := (hs42.fb b_s)
  obtain ⟨L45, hs44, ho46⟩ := ownScrR.fl hs43 ho38 ho39 ho40 ho41
  have hs47 := (hs44.fb b_s)
  refine ownScrR.retp4 rfl ((hs47.fr L45).fb b_s) ho46 ?_
  · unfold upD; first | (rw [if_pos e1]; show _ = wrapD (rollD s.dat s.Top s.Bot (-1)) false; refine Eq.trans ?_ (congrArg (fun d => wrapD d false) hd3); rfl) | (rw [if_neg e1, if_pos e2]; rfl) | (rw [if_neg e1, if_neg e2]; rfl)
 have e1 : ¬ s.dat.Y = s.dat.Top := by show ¬ s.Y = s.Top; have h9 := h4; simpa using h9
 refine WC.r1 hs3 [0] rfl (WC.cq rfl (fun h48 qh48 => ?_) (fun h48 qh48 => ?_))
 ·have e2 : s.dat.Y > 0 := by show s.Y > 0; have h9 := h48; simpa using h9
  refine WC.region (WL.r 7 hs3 [0] rfl (WL.st tbk hs3 0 rfl rfl (fun _ hs49 => WL.nil (hK2 _ _ (WC.region (WL.r 3 hs49 [] rfl (WL.st tbk hs49 0 rfl rfl (fun _ hs50 => ?_))))))))
  refine WL.nil (retK0 rfl ?_)
  obtain ⟨L51, L52, L53, L54, hs59, ho55, ho56, ho57, ho58⟩ := ownScrR.op hs50 o_s
  have hs60 := (hs59.fb b_s)
  obtain ⟨L62, hs61, ho63⟩ := ownScrR.fl hs60 ho55 ho56 ho57 ho58
  have hs64 := (hs61.fb b_s)
  refine ownScrR.retp4 rfl ((hs64.fr L62).fb b_s) ho63 ?_
  · unfold upD; first | (rw [if_pos e1]; show _ = wrapD (rollD s.dat s.Top s.Bot (-1)) false; refine Eq.trans ?_ (congrArg (fun d => wrapD d false) hd3); rfl) | (rw [if_neg e1, if_pos e2]; rfl) | (rw [if_neg e1, if_neg e2]; rfl)
 have e2 : ¬ s.dat.Y > 0 := by show ¬ s.Y > 0; have h9 := h48; simpa using h9
 refine WC.skip (hK2 _ _ (WC.region (WL.r 3 hs3 [] rfl (WL.st tbk hs3 0 rfl rfl (fun _ hs65 => WL.nil (retK0 rfl ?_))))))
 obtain ⟨L66, L67, L68, L69, hs74, ho70, ho71, ho72, ho73⟩ := ownScrR.op hs65 o_s
 have hs75 := (hs74.fb b_s)
 obtain ⟨L77, hs76, ho78⟩ := ownScrR.fl hs75 ho70 ho71 ho72 ho73
 have hs79 := (hs76.fb b_s)
 refine ownScrR.retp4 rfl ((hs79.fr L77).fb b_s) ho78 ?_
 · unfold upD; first | (rw [if_pos e1]; show _ = wrapD (rollD s.dat s.Top s.Bot (-1)) false; refine Eq.trans ?_ (congrArg (fun d => wrapD d false) hd3); rfl) | (rw [if_neg e1, if_pos e2]; rfl) | (rw [if_neg e1, if_neg e2]; rfl)
theorem k131_ (u_0 u_1 u_2 u_3 : Value) (b_s : Nat) (s : ScrR) (L_s : Hp) (w : World) (hb_s : w.heap[b_s]? = some (oS u_0 u_1 u_2 u_3 s)) (o_s : ownScrR s L_s) (h_s : Hh w L_s) (hd_ : (b_s :: L_s.map (·.1)).Nodup) (hsm : smScr 549755813888 s.dat) :
    Calls Tryz.prog 153 #[.pointer (some ⟨b_s, 4, none⟩)] w fun e w' => ∃ r L1, e = .returned (.tuple #[]) ∧ St w (b_s :: L_s.map (·.1)) ([(b_s, oS u_0 u_1 u_2 u_3 r)] ++ L1) w' ∧ ownScrR r L1 ∧ r.dat = saveD s.dat := by
 refine enter 23 Tryz.func153 rfl Tryz.ntmps153 rfl rfl ?_
 have hs1 := St.takeP w b_s _ L_s hb_s h_s hd_
 refine WC.rH hs1.d1 hs1 (fun _ hs2 => ?_)
 refine WH.rn [0, 1, 2, 3, 4, 5, 7, 8, 9, 11, 12, 13] hs2.d1 [] rfl rfl (WH.all [6, 10, 14] (by kernel_rfl) rfl (WHs.cons (i := 6) rfl ?_ (WHs.cons (i := 10) rfl ?_ (WHs.cons (i := 14) rfl ?_ WHs.nil))))
 ·refine WL.r 1 hs2 [0] rfl (WL.nil ⟨hs2.d1, WH.all [10, 14] (by kernel_rfl) rfl (WHs.cons (i := 10) rfl ?_ (WHs.cons (i := 14) rfl ?_ WHs.nil))⟩)
  ·refine WL.r 1 hs2 [0] rfl (WL.nil ⟨hs2.d1, WH.o1 14 rfl (WL.r 1 hs2 [0] rfl (WL.nil ⟨hs2.d1, WH.rn [15, 16] hs2.d1 [] rfl rfl (WH.o1 17 rfl (WL.st tbk hs2 0 rfl rfl (fun _ hs3 => ?_)))⟩))⟩)
   refine WL.nil ⟨hs3.d1, WH.rn [18, 19] hs3.d1 [] rfl rfl (WH.o1 20 rfl (WL.st tbk hs3 0 rfl rfl (fun _ hs4 => WL.nil ⟨hs4.d1, WH.rn [21, 22] hs4.d1 [] rfl rfl (WH.o1 23 rfl (WL.st tbk hs4 0 rfl rfl (fun _ hs5 => ?_)))⟩)))⟩
   refine WL.nil ⟨hs5.d1, WH.dn (retK0 rfl ?_)⟩
   obtain ⟨L6, L7, L8, L9, hs14, ho10, ho11, ho12, ho13⟩ := ownScrR.op hs5 o_s
   have hs15 := (hs14.fb b_s)
   obtain ⟨L17, hs16, ho18⟩ := ownScrR.fl hs15 ho10 ho11 ho12 ho13
   have hs19 := (hs16.fb b_s)
   refine ownScrR.retp4 rfl ((hs19.fr L17).fb b_s) ho18 ?_
   · rfl
  refine WL.r 1 hs2 [0] rfl (WL.nil ⟨hs2.d1, WH.o1 10 rfl (WL.r 1 hs2 [0] rfl (WL.nil ⟨hs2.d1, WH.rn [15, 16] hs2.d1 [] rfl rfl (WH.o1 17 rfl (WL.st tbk hs2 0 rfl rfl (fun _ hs20 => ?_)))⟩))⟩)
  refine WL.nil ⟨hs20.d1, WH.rn [18, 19] hs20.d1 [] rfl rfl (WH.o1 20 rfl (WL.st tbk hs20 0 rfl rfl (fun _ hs21 => WL.nil ⟨hs21.d1, WH.rn [21, 22] hs21.d1 [] rfl rfl (WH.o1 23 rfl (WL.st tbk hs21 0 rfl rfl (fun _ hs22 => ?_)))⟩)))⟩
  refine WL.nil ⟨hs22.d1, WH.dn (retK0 rfl ?_)⟩
  obtain ⟨L23, L24, L25, L26, hs31, ho27, ho28, ho29, ho30⟩ := ownScrR.op hs22 o_s
  have hs32 := (hs31.fb b_s)
  obtain ⟨L34, hs33, ho35⟩ := ownScrR.fl hs32 ho27 ho28 ho29 ho30
  have hs36 := (hs33.fb b_s)
  refine ownScrR.retp4 rfl ((hs36.fr L34).fb b_s) ho35 ?_
  · rfl
 ·refine WL.r 1 hs2 [0] rfl (WL.nil ⟨hs2.d1, WH.all [6, 14] (by kernel_rfl) rfl (WHs.cons (i := 6) rfl ?_ (WHs.cons (i := 14) rfl ?_ WHs.nil))⟩)
  ·refine WL.r 1 hs2 [0] rfl (WL.nil ⟨hs2.d1, WH.o1 14 rfl (WL.r 1 hs2 [0] rfl (WL.nil ⟨hs2.d1, WH.rn [15, 16] hs2.d1 [] rfl rfl (WH.o1 17 rfl (WL.st tbk hs2 0 rfl rfl (fun _ hs37 => ?_)))⟩))⟩)
   refine WL.nil ⟨hs37.d1, WH.rn [18, 19] hs37.d1 [] rfl rfl (WH.o1 20 rfl (WL.st tbk hs37 0 rfl rfl (fun _ hs38 => WL.nil ⟨hs38.d1, WH.rn [21, 22] hs38.d1 [] rfl rfl (WH.o1 23 rfl (WL.st tbk hs38 0 rfl rfl (fun _ hs39 => ?_)))⟩)))⟩
   refine WL.nil ⟨hs39.d1, WH.dn (retK0 rfl ?_)⟩
   obtain ⟨L40, L41, L42, L43, hs48, ho44, ho45, ho46, ho47⟩ := ownScrR.op hs39 o_s
   have hs49 := (hs48.fb b_s)
   obtain ⟨L51, hs50, ho52⟩ := ownScrR.fl hs49 ho44 ho45 ho46 ho47
   have hs53 := (hs50.fb b_s)
   refine ownScrR.retp4 rfl ((hs53.fr L51).fb b_s) ho52 ?_
   · rfl
  refine WL.r 1 hs2 [0] rfl (WL.nil ⟨hs2.d1, WH.o1 6 rfl (WL.r 1 hs2 [0] rfl (WL.nil ⟨hs2.d1, WH.rn [15, 16] hs2.d1 [] rfl rfl (WH.o1 17 rfl (WL.st tbk hs2 0 rfl rfl (fun _ hs54 => ?_)))⟩))⟩)
  refine WL.nil ⟨hs54.d1, WH.rn [18, 19] hs54.d1 [] rfl rfl (WH.o1 20 rfl (WL.st tbk hs54 0 rfl rfl (fun _ hs55 => WL.nil ⟨hs55.d1, WH.rn [21, 22] hs55.d1 [] rfl rfl (WH.o1 23 rfl (WL.st tbk hs55 0 rfl rfl (fun _ hs56 => ?_)))⟩)))⟩
  refine WL.nil ⟨hs56.d1, WH.dn (retK0 rfl ?_)⟩
  obtain ⟨L57, L58, L59, L60, hs65, ho61, ho62, ho63, ho64⟩ := ownScrR.op hs56 o_s
  have hs66 := (hs65.fb b_s)
  obtain ⟨L68, hs67, ho69⟩ := ownScrR.fl hs66 ho61 ho62 ho63 ho64
  have hs70 := (hs67.fb b_s)
  refine ownScrR.retp4 rfl ((hs70.fr L68).fb b_s) ho69 ?_
  · rfl
 refine WL.r 1 hs2 [0] rfl (WL.nil ⟨hs2.d1, WH.all [6, 10] (by kernel_rfl) rfl (WHs.cons (i := 6) rfl ?_ (WHs.cons (i := 10) rfl ?_ WHs.nil))⟩)
 ·refine WL.r 1 hs2 [0] rfl (WL.nil ⟨hs2.d1, WH.o1 10 rfl (WL.r 1 hs2 [0] rfl (WL.nil ⟨hs2.d1, WH.rn [15, 16] hs2.d1 [] rfl rfl (WH.o1 17 rfl (WL.st tbk hs2 0 rfl rfl (fun _ hs71 => ?_)))⟩))⟩)
  refine WL.nil ⟨hs71.d1, WH.rn [18, 19] hs71.d1 [] rfl rfl (WH.o1 20 rfl (WL.st tbk hs71 0 rfl rfl (fun _ hs72 => WL.nil ⟨hs72.d1, WH.rn [21, 22] hs72.d1 [] rfl rfl (WH.o1 23 rfl (WL.st tbk hs72 0 rfl rfl (fun _ hs73 => ?_)))⟩)))⟩
  refine WL.nil ⟨hs73.d1, WH.dn (retK0 rfl ?_)⟩
  obtain ⟨L74, L75, L76, L77, hs82, ho78, ho79, ho80, ho81⟩ := ownScrR.op hs73 o_s
  have hs83 := (hs82.fb b_s)
  obtain ⟨L85, hs84, ho86⟩ := ownScrR.fl hs83 ho78 ho79 ho80 ho81
  have hs87 := (hs84.fb b_s)
  refine ownScrR.retp4 rfl ((hs87.fr L85).fb b_s) ho86 ?_
  · rfl
 refine WL.r 1 hs2 [0] rfl (WL.nil ⟨hs2.d1, WH.o1 6 rfl (WL.r 1 hs2 [0] rfl (WL.nil ⟨hs2.d1, WH.rn [15, 16] hs2.d1 [] rfl rfl (WH.o1 17 rfl (WL.st tbk hs2 0 rfl rfl (fun _ hs88 => ?_)))⟩))⟩)
 refine WL.nil ⟨hs88.d1, WH.rn [18, 19] hs88.d1 [] rfl rfl (WH.o1 20 rfl (WL.st tbk hs88 0 rfl rfl (fun _ hs89 => WL.nil ⟨hs89.d1, WH.rn [21, 22] hs89.d1 [] rfl rfl (WH.o1 23 rfl (WL.st tbk hs89 0 rfl rfl (fun _ hs90 => ?_)))⟩)))⟩
 refine WL.nil ⟨hs90.d1, WH.dn (retK0 rfl ?_)⟩
 obtain ⟨L91, L92, L93, L94, hs99, ho95, ho96, ho97, ho98⟩ := ownScrR.op hs90 o_s
 have hs100 := (hs99.fb b_s)
 obtain ⟨L102, hs101, ho103⟩ := ownScrR.fl hs100 ho95 ho96 ho97 ho98
 have hs104 := (hs101.fb b_s)
 refine ownScrR.retp4 rfl ((hs104.fr L102).fb b_s) ho103 ?_
 · rfl
theorem k132_ (u_0 u_1 u_2 u_3 : Value) (b_s : Nat) (s : ScrR) (L_s : Hp) (w : World) (hb_s : w.heap[b_s]? = some (oS u_0 u_1 u_2 u_3 s)) (o_s : ownScrR s L_s) (h_s : Hh w L_s) (hd_ : (b_s :: L_s.map (·.1)).Nodup) (hsm : smScr 549755813888 s.dat) :
    Calls Tryz.prog 154 #[.pointer (some ⟨b_s, 4, none⟩)] w fun e w' => ∃ r L1, e = .returned (.tuple #[]) ∧ St w (b_s :: L_s.map (·.1)) ([(b_s, oS u_0 u_1 u_2 u_3 r)] ++ L1) w' ∧ ownScrR r L1 ∧ r.dat = backD s.dat := by
 refine enter 26 Tryz.func154 rfl Tryz.ntmps154 rfl rfl ?_
 have hs1 := St.takeP w b_s _ L_s hb_s h_s hd_
 refine WC.rH hs1.d1 hs1 (fun _ hs2 => ?_)
 refine WH.rn [0, 1, 2, 3, 4, 5, 6, 8, 9, 10, 12, 13, 14] hs2.d1 [] rfl rfl (WH.all [7, 11, 15] (by kernel_rfl) rfl (WHs.cons (i := 7) rfl ?_ (WHs.cons (i := 11) rfl ?_ (WHs.cons (i := 15) rfl ?_ WHs.nil))))
 ·refine WL.r 1 hs2 [0] rfl (WL.nil ⟨hs2.d1, WH.all [11, 15] (by kernel_rfl) rfl (WHs.cons (i := 11) rfl ?_ (WHs.cons (i := 15) rfl ?_ WHs.nil))⟩)
  ·refine WL.r 1 hs2 [0] rfl (WL.nil ⟨hs2.d1, WH.o1 15 rfl (WL.r 1 hs2 [0] rfl (WL.nil ⟨hs2.d1, WH.rn [16, 17] hs2.d1 [] rfl rfl (WH.o1 18 rfl (WL.st tbk hs2 0 rfl rfl (fun _ hs3 => ?_)))⟩))⟩)
   refine WL.nil ⟨hs3.d1, WH.rn [19, 20] hs3.d1 [] rfl rfl (WH.o1 21 rfl (WL.st tbk hs3 0 rfl rfl (fun _ hs4 => WL.nil ⟨hs4.d1, WH.rn [22, 23] hs4.d1 [] rfl rfl (WH.o1 24 rfl (WL.st tbk hs4 0 rfl rfl (fun _ hs5 => ?_)))⟩)))⟩
   refine WL.nil ⟨hs5.d1, WH.rn [25, 26] hs5.d1 [] rfl rfl (WH.o1 27 rfl (WL.st tbk hs5 0 rfl rfl (fun _ hs6 => WL.nil ⟨hs6.d1, WH.dn (retK0 rfl ?_)⟩)))⟩
   obtain ⟨L7, L8, L9, L10, hs15, ho11, ho12, ho13, ho14⟩ := ownScrR.op hs6 o_s
   have hs16 := (hs15.fb b_s)
   obtain ⟨L18, hs17, ho19⟩ := ownScrR.fl hs16 ho11 ho12 ho13 ho14
   have hs20 := (hs17.fb b_s)
   refine ownScrR.retp4 rfl ((hs20.fr L18).fb b_s) ho19 ?_
   · rfl
  refine WL.r 1 hs2 [0] rfl (WL.nil ⟨hs2.d1, WH.o1 11 rfl (WL.r 1 hs2 [0] rfl (WL.nil ⟨hs2.d1, WH.rn [16, 17] hs2.d1 [] rfl rfl (WH.o1 18 rfl (WL.st tbk hs2 0 rfl rfl (fun _ hs21 => ?_)))⟩))⟩)
  refine WL.nil ⟨hs21.d1, WH.rn [19, 20] hs21.d1 [] rfl rfl (WH.o1 21 rfl (WL.st tbk hs21 0 rfl rfl (fun _ hs22 => WL.nil ⟨hs22.d1, WH.rn [22, 23] hs22.d1 [] rfl rfl (WH.o1 24 rfl (WL.st tbk hs22 0 rfl rfl (fun _ hs23 => ?_)))⟩)))⟩
  refine WL.nil ⟨hs23.d1, WH.rn [25, 26] hs23.d1 [] rfl rfl (WH.o1 27 rfl (WL.st tbk hs23 0 rfl rfl (fun _ hs24 => WL.nil ⟨hs24.d1, WH.dn (retK0 rfl ?_)⟩)))⟩
  obtain ⟨L25, L26, L27, L28, hs33, ho29, ho30, ho31, ho32⟩ := ownScrR.op hs24 o_s
  have hs34 := (hs33.fb b_s)
  obtain ⟨L36, hs35, ho37⟩ := ownScrR.fl hs34 ho29 ho30 ho31 ho32
  have hs38 := (hs35.fb b_s)
  refine ownScrR.retp4 rfl ((hs38.fr L36).fb b_s) ho37 ?_
  · rfl
 ·refine WL.r 1 hs2 [0] rfl (WL.nil ⟨hs2.d1, WH.all [7, 15] (by kernel_rfl) rfl (WHs.cons (i := 7) rfl ?_ (WHs.cons (i := 15) rfl ?_ WHs.nil))⟩)
  ·refine WL.r 1 hs2 [0] rfl (WL.nil ⟨hs2.d1, WH.o1 15 rfl (WL.r 1 hs2 [0] rfl (WL.nil ⟨hs2.d1, WH.rn [16, 17] hs2.d1 [] rfl rfl (WH.o1 18 rfl (WL.st tbk hs2 0 rfl rfl (fun _ hs39 => ?_)))⟩))⟩)
   refine WL.nil ⟨hs39.d1, WH.rn [19, 20] hs39.d1 [] rfl rfl (WH.o1 21 rfl (WL.st tbk hs39 0 rfl rfl (fun _ hs40 => WL.nil ⟨hs40.d1, WH.rn [22, 23] hs40.d1 [] rfl rfl (WH.o1 24 rfl (WL.st tbk hs40 0 rfl rfl (fun _ hs41 => ?_)))⟩)))⟩
   refine WL.nil ⟨hs41.d1, WH.rn [25, 26] hs41.d1 [] rfl rfl (WH.o1 27 rfl (WL.st tbk hs41 0 rfl rfl (fun _ hs42 => WL.nil ⟨hs42.d1, WH.dn (retK0 rfl ?_)⟩)))⟩
   obtain ⟨L43, L44, L45, L46, hs51, ho47, ho48, ho49, ho50⟩ := ownScrR.op hs42 o_s
   have hs52 := (hs51.fb b_s)
   obtain ⟨L54, hs53, ho55⟩ := ownScrR.fl hs52 ho47 ho48 ho49 ho50
   have hs56 := (hs53.fb b_s)
   refine ownScrR.retp4 rfl ((hs56.fr L54).fb b_s) ho55 ?_
   · rfl
  refine WL.r 1 hs2 [0] rfl (WL.nil ⟨hs2.d1, WH.o1 7 rfl (WL.r 1 hs2 [0] rfl (WL.nil ⟨hs2.d1, WH.rn [16, 17] hs2.d1 [] rfl rfl (WH.o1 18 rfl (WL.st tbk hs2 0 rfl rfl (fun _ hs57 => ?_)))⟩))⟩)
  refine WL.nil ⟨hs57.d1, WH.rn [19, 20] hs57.d1 [] rfl rfl (WH.o1 21 rfl (WL.st tbk hs57 0 rfl rfl (fun _ hs58 => WL.nil ⟨hs58.d1, WH.rn [22, 23] hs58.d1 [] rfl rfl (WH.o1 24 rfl (WL.st tbk hs58 0 rfl rfl (fun _ hs59 => ?_)))⟩)))⟩
  refine WL.nil ⟨hs59.d1, WH.rn [25, 26] hs59.d1 [] rfl rfl (WH.o1 27 rfl (WL.st tbk hs59 0 rfl rfl (fun _ hs60 => WL.nil ⟨hs60.d1, WH.dn (retK0 rfl ?_)⟩)))⟩
  obtain ⟨L61, L62, L63, L64, hs69, ho65, ho66, ho67, ho68⟩ := ownScrR.op hs60 o_s
  have hs70 := (hs69.fb b_s)
  obtain ⟨L72, hs71, ho73⟩ := ownScrR.fl hs70 ho65 ho66 ho67 ho68
  have hs74 := (hs71.fb b_s)
  refine ownScrR.retp4 rfl ((hs74.fr L72).fb b_s) ho73 ?_
  · rfl
 refine WL.r 1 hs2 [0] rfl (WL.nil ⟨hs2.d1, WH.all [7, 11] (by kernel_rfl) rfl (WHs.cons (i := 7) rfl ?_ (WHs.cons (i := 11) rfl ?_ WHs.nil))⟩)
 ·refine WL.r 1 hs2 [0] rfl (WL.nil ⟨hs2.d1, WH.o1 11 rfl (WL.r 1 hs2 [0] rfl (WL.nil ⟨hs2.d1, WH.rn [16, 17] hs2.d1 [] rfl rfl (WH.o1 18 rfl (WL.st tbk hs2 0 rfl rfl (fun _ hs75 => ?_)))⟩))⟩)
  refine WL.nil ⟨hs75.d1, WH.rn [19, 20] hs75.d1 [] rfl rfl (WH.o1 21 rfl (WL.st tbk hs75 0 rfl rfl (fun _ hs76 => WL.nil ⟨hs76.d1, WH.rn [22, 23] hs76.d1 [] rfl rfl (WH.o1 24 rfl (WL.st tbk hs76 0 rfl rfl (fun _ hs77 => ?_)))⟩)))⟩
  refine WL.nil ⟨hs77.d1, WH.rn [25, 26] hs77.d1 [] rfl rfl (WH.o1 27 rfl (WL.st tbk hs77 0 rfl rfl (fun _ hs78 => WL.nil ⟨hs78.d1, WH.dn (retK0 rfl ?_)⟩)))⟩
  obtain ⟨L79, L80, L81, L82, hs87, ho83, ho84, ho85, ho86⟩ := ownScrR.op hs78 o_s
  have hs88 := (hs87.fb b_s)
  obtain ⟨L90, hs89, ho91⟩ := ownScrR.fl hs88 ho83 ho84 ho85 ho86
  have hs92 := (hs89.fb b_s)
  refine ownScrR.retp4 rfl ((hs92.fr L90).fb b_s) ho91 ?_
  · rfl
 refine WL.r 1 hs2 [0] rfl (WL.nil ⟨hs2.d1, WH.o1 7 rfl (WL.r 1 hs2 [0] rfl (WL.nil ⟨hs2.d1, WH.rn [16, 17] hs2.d1 [] rfl rfl (WH.o1 18 rfl (WL.st tbk hs2 0 rfl rfl (fun _ hs93 => ?_)))⟩))⟩)
 refine WL.nil ⟨hs93.d1, WH.rn [19, 20] hs93.d1 [] rfl rfl (WH.o1 21 rfl (WL.st tbk hs93 0 rfl rfl (fun _ hs94 => WL.nil ⟨hs94.d1, WH.rn [22, 23] hs94.d1 [] rfl rfl (WH.o1 24 rfl (WL.st tbk hs94 0 rfl rfl (fun _ hs95 => ?_)))⟩)))⟩
 refine WL.nil ⟨hs95.d1, WH.rn [25, 26] hs95.d1 [] rfl rfl (WH.o1 27 rfl (WL.st tbk hs95 0 rfl rfl (fun _ hs96 => WL.nil ⟨hs96.d1, WH.dn (retK0 rfl ?_)⟩)))⟩
 obtain ⟨L97, L98, L99, L100, hs105, ho101, ho102, ho103, ho104⟩ := ownScrR.op hs96 o_s
 have hs106 := (hs105.fb b_s)
 obtain ⟨L108, hs107, ho109⟩ := ownScrR.fl hs106 ho101 ho102 ho103 ho104
 have hs110 := (hs107.fb b_s)
 refine ownScrR.retp4 rfl ((hs110.fr L108).fb b_s) ho109 ?_
 · rfl
theorem k133_ (u_0 u_1 u_2 u_3 : Value) (b_s : Nat) (s : ScrR) (L_s : Hp) (b : Int) (w : World) (hb_s : w.heap[b_s]? = some (oS u_0 u_1 u_2 u_3 s)) (o_s : ownScrR s L_s) (h_s : Hh w L_s) (hd_ : (b_s :: L_s.map (·.1)).Nodup) (hf : ScrFine s.dat) (hsm : smScr 1048576 s.dat) :
    Calls Tryz.prog 76 #[.pointer (some ⟨b_s, 4, none⟩), i64 b] w fun e w' => ∃ r L1, e = .returned (.tuple #[]) ∧ St w (b_s :: L_s.map (·.1)) ([(b_s, oS u_0 u_1 u_2 u_3 r)] ++ L1) w' ∧ ownScrR r L1 ∧ r.dat = escD s.dat b := by
 have hsmB : smScr 549755813888 s.dat := by first | assumption | exact smScr_mono hsm (by decide)
 have hok9 := hf.ok
 obtain ⟨hb1, hb2, hb3, hb4, hb5, hb6⟩ := scrOk_bnd hok9
 obtain ⟨hm, hma⟩ := scrOk_main hok9
 simp only [ScrR.dat, GridR.dat, List.length_map] at hb1 hb2 hb3 hb4 hb5 hb6
 obtain ⟨_, _, hTl, _⟩ := ownScrR.len o_s
 have hTs : s.Tabs.xs.length ≤ 1048576 := hsm.2.2.1
 refine enter 89 Tryz.func76 rfl Tryz.ntmps76 rfl rfl ?_
 have hs1 := St.takeP w b_s _ L_s hb_s h_s hd_
 refine WC.r1 hs1 [] rfl (WC.block (WC.r1 hs1 [] rfl (WC.cq rfl (fun h2 qh2 => ?_) (fun h2 qh2 => ?_))))
 ·have e68 : b = 68 := by have h9 := h2; simpa using h9
  refine WC.region (WL.r 1 hs1 [] rfl ?_)
  have hF3 := ((hs1.fr L_s).fb b_s)
  refine WL.cl Tryz.call151 rfl (k129_ _ _ _ _ _ s _ _ (St.headP hF3) o_s (St.ownP hF3) (St.nodupP hF3) ?_ ?_) ?_
  iterate 2 first | assumption | rfl | omega | exact lowb_le
  rintro _ whs4 ⟨r5, L6, rfl, hs4, ho7, hd8⟩
  replace hs4 := St.lendP hF3 hs4
  refine ⟨_, rfl, WL.nil (ibN (retK0 rfl (⟨r5, _, rfl, St.keepP (L1 := L6) ((hs4.fr L6).fb b_s), ho7, ?_⟩)))⟩
  · unfold escD; rw [if_pos e68]; exact hd8
 have e68 : ¬ b = 68 := by have h9 := h2; simpa using h9
 refine WC.r1 hs1 [] rfl (WC.cq rfl (fun h9 qh9 => ?_) (fun h9 qh9 => ?_))
 ·have e77 : b = 77 := by have h9 := h9; simpa using h9
  refine WC.region (WL.r 1 hs1 [] rfl ?_)
  have hF10 := ((hs1.fr L_s).fb b_s)
  refine WL.cl Tryz.call152 rfl (k130_ _ _ _ _ _ s _ _ (St.headP hF10) o_s (St.ownP hF10) (St.nodupP hF10) ?_ ?_) ?_
  iterate 2 first | assumption | rfl | omega | exact lowb_le
  rintro _ whs11 ⟨r12, L13, rfl, hs11, ho14, hd15⟩
  replace hs11 := St.lendP hF10 hs11
  refine ⟨_, rfl, WL.nil (ibN (retK0 rfl (⟨r12, _, rfl, St.keepP (L1 := L13) ((hs11.fr L13).fb b_s), ho14, ?_⟩)))⟩
  · unfold escD; rw [if_neg e68, if_pos e77]; exact hd15
 have e77 : ¬ b = 77 := by have h9 := h9; simpa using h9
 refine WC.r1 hs1 [] rfl (WC.cq rfl (fun h16 qh16 => ?_) (fun h16 qh16 => ?_))
 ·have e69 : b = 69 := by have h9 := h16; simpa using h9
  refine WC.sr (WL.r 1 hs1 [] rfl ?_)
  have hF17 := ((hs1.fr L_s).fb b_s)
  refine WL.cl Tryz.call151 rfl (k129_ _ _ _ _ _ s _ _ (St.headP hF17) o_s (St.ownP hF17) (St.nodupP hF17) ?_ ?_) ?_
  iterate 2 first | assumption | rfl | omega | exact lowb_le
  rintro _ whs18 ⟨r19, L20, rfl, hs18, ho21, hd22⟩
  replace hs18 := St.lendP hF17 hs18
  refine ⟨_, rfl, WL.nil (WC.region (WL.r 3 hs18 [] rfl (WL.st tbk hs18 0 rfl rfl (fun _ hs23 => WL.nil (ibN (retK0 rfl ?_))))))⟩
  obtain ⟨L24, L25, L26, L27, hs32, ho28, ho29, ho30, ho31⟩ := ownScrR.op hs23 ho21
  have hs33 := (hs32.fb b_s)
  obtain ⟨L35, hs34, ho36⟩ := ownScrR.fl hs33 ho28 ho29 ho30 ho31
  have hs37 := (hs34.fb b_s)
  refine ownScrR.retp4 rfl ((hs37.fr L35).fb b_s) ho36 ?_
  · unfold escD; rw [if_neg e68, if_neg e77, if_pos e69]; show _ = ({ downD s.dat with X := 0 } : ScrD); rw [← hd22]; rfl
 have e69 : ¬ b = 69 := by have h9 := h16; simpa using h9
 refine WC.r1 hs1 [] rfl (WC.cq rfl (fun h38 qh38 => ?_) (fun h38 qh38 => ?_))
 ·have e55 : b = 55 := by have h9 := h38; simpa using h9
  refine WC.region (WL.r 1 hs1 [] rfl ?_)
  have hF39 := ((hs1.fr L_s).fb b_s)
  refine WL.cl Tryz.call153 rfl (k131_ _ _ _ _ _ s _ _ (St.headP hF39) o_s (St.ownP hF39) (St.nodupP hF39) ?_) ?_
  · first | assumption | rfl | omega | exact lowb_le
  rintro _ whs40 ⟨r41, L42, rfl, hs40, ho43, hd44⟩
  replace hs40 := St.lendP hF39 hs40
  refine ⟨_, rfl, WL.nil (ibN (retK0 rfl (⟨r41, _, rfl, St.keepP (L1 := L42) ((hs40.fr L42).fb b_s), ho43, ?_⟩)))⟩
  · unfold escD; rw [if_neg e68, if_neg e77, if_neg e69, if_pos e55]; exact hd44
 have e55 : ¬ b = 55 := by have h9 := h38; simpa using h9
 refine WC.r1 hs1 [] rfl (WC.cq rfl (fun h45 qh45 => ?_) (fun h45 qh45 => ?_))
 ·have e56 : b = 56 := by have h9 := h45; simpa using h9
  refine WC.region (WL.r 1 hs1 [] rfl ?_)
  have hF46 := ((hs1.fr L_s).fb b_s)
  refine WL.cl Tryz.call154 rfl (k132_ _ _ _ _ _ s _ _ (St.headP hF46) o_s (St.ownP hF46) (St.nodupP hF46) ?_) ?_
  · first | assumption | rfl | omega | exact lowb_le
  rintro _ whs47 ⟨r48, L49, rfl, hs47, ho50, hd51⟩
  replace hs47 := St.lendP hF46 hs47
  refine ⟨_, rfl, WL.nil (ibN (retK0 rfl (⟨r48, _, rfl, St.keepP (L1 := L49) ((hs47.fr L49).fb b_s), ho50, ?_⟩)))⟩
  · unfold escD; rw [if_neg e68, if_neg e77, if_neg e69, if_neg e55, if_pos e56]; exact hd51
 have e56 : ¬ b = 56 := by have h9 := h45; simpa using h9
 refine WC.r1 hs1 [] rfl (WC.cq rfl (fun h52 qh52 => ?_) (fun h52 qh52 => ?_))
 ·have e72 : b = 72 := by have h9 := h52; simpa using h9
  have hasc : s.Tabs.xs.Pairwise (· ≤ ·) := asc_le hf.tab
  refine WC.sq1 hs1 (WQ.r 8 [0, 0] rfl ?_)
  refine WQ.call rfl rfl rfl (fun w_ hs_ => (Run.call Tryz.call155 rfl rfl rfl)) (fun w_ hs_ => (k70_ _ _ _ _ _ _ (ownScrR.ok (B := 549755813888) o_s ((hs_ : St _ _ _ _).ow L_s) (by assumption)).Tabs ?_ ?_).mono fun e_ w_ h_ => ⟨h_.1, (hs_ : St _ _ _ _).call0 h_.2⟩) ?_
  · first | assumption | rfl | omega
  · first | assumption | rfl | omega
  refine WQ.r 5 [] rfl (WQ.nil (fun _ (hs53 : St _ _ _ _) => WC.r1 hs53 [] rfl ?_))
  refine WC.cq rfl (fun h54 qh54 => ?_) (fun h54 qh54 => ?_)
  ·have hni : s.dat.X ∉ s.dat.Tabs := by show ¬ s.X ∈ s.Tabs.xs; have h9 := h54; simpa using h9
   refine WC.rG 14 (hs53.d1.rm L_s) (hs53.rm L_s) hs53 (fun _ hs55 => ?_)
   refine WG.rn [0, 1, 2, 3, 4, 5, 6, 7, 8, 9] (hs55.rm L_s) [0, 0] rfl rfl (WG.o1 10 rfl rfl (WL.buildSlice hs55 Tryz.runUnderlying23 Tryz.sizeOf3 Tryz.zeroValue3 rfl rfl rfl rfl rfl rfl rfl rfl rfl rfl (fun b56 whs57 hs57 => WL.nil ⟨(hs57.d1.rm L_s), WG.o1 11 rfl rfl ?_⟩)))
   obtain ⟨L59, L60, L61, L62, hs67, ho63, ho64, ho65, ho66⟩ := ownScrR.op hs57 o_s
   have hs68 := ((hs67.fb b_s).fb b56)
   refine WL.cl Tryz.call156 rfl (k71_ _ _ _ _ _ _ _ ho65 (hs68.ow L61) (hs68.own _ (nthL_mem (i := 0) rfl)).1 (St.sepOwn (hs68.fr L61) (nthL_mem (i := 0) rfl)) ?_ ?_) ?_
   iterate 2 first | assumption | rfl | omega | exact lowb_le
   rintro _ whs58 ⟨A69, c70, L1_71, rfl, hs58, ho72⟩
   replace hs58 := St.lend (hs68.fr L61) hs58
   refine ⟨_, rfl, ?_⟩
   replace hs58 := St.back [_, _] hs58
   refine WL.nil ⟨((((hs58.d1.rm L1_71).rm L59).rm L60).rm L62), WG.rn [12, 13] ((((hs58.d1.rm L1_71).rm L59).rm L60).rm L62) [] rfl rfl (WG.oK rfl (WL.st tbk hs58 1 rfl rfl (fun _ hs73 => WL.nil ⟨((((hs73.d1.d1.rm L1_71).rm L59).rm L60).rm L62), WH.dn (ibN (retK0 rfl ?_))⟩)))⟩
   obtain ⟨L75, hs74, ho76⟩ := ownScrR.fl hs73 ho63 ho64 ho72 ho66
   have hs77 := ((hs74.fb b_s).fb b56)
   refine ownScrR.retp4 rfl ((hs77.fr L75).fb b_s) ho76 ?_
   · unfold escD; rw [if_neg e68, if_neg e77, if_neg e69, if_neg e55, if_neg e56, if_pos e72]; refine Eq.trans ?_ (show ({ s.dat with Tabs := insL s.dat.Tabs (lowb s.dat.Tabs s.dat.X) s.dat.X } : ScrD) = tabD s.dat from by rw [tabL_ins hf hni]; rfl); rfl
  have hin : s.dat.X ∈ s.dat.Tabs := by show s.X ∈ s.Tabs.xs; have h9 := h54; simpa using h9
  refine WC.skip (ibN (retK0 rfl (⟨s, _, rfl, St.keepP (L1 := L_s) ((hs53.fr L_s).fb b_s), o_s, ?_⟩)))
  · unfold escD; rw [if_neg e68, if_neg e77, if_neg e69, if_neg e55, if_neg e56, if_pos e72]; refine Eq.trans ?_ (show ({ s.dat with Tabs := s.dat.Tabs } : ScrD) = tabD s.dat from by unfold tabD; rw [← tabL_has hf hin]); rfl
 have e72 : ¬ b = 72 := by have h9 := h52; simpa using h9
 refine WC.r1 hs1 [] rfl (WC.cq rfl (fun h78 qh78 => ?_) (fun h78 qh78 => ?_))
 ·have e99 : b = 99 := by have h9 := h78; simpa using h9
  refine WC.r1 hs1 [0] rfl (WC.seq (fun K79 hK79 => WC.rG 18 hs1.d1 hs1 hs1 (fun _ hs80 => ?_)))
  refine WG.rn [0, 1, 2, 3, 4, 5, 6, 7, 8, 9, 10, 11, 12] hs80 [0, 0, 0] rfl rfl (WG.o1 13 rfl rfl (WL.cl Tryz.call157 rfl (k26_ _ _ _ _) ?_))
  rintro _ whs81 ⟨r0_82, L0_83, rfl, hs81, ho84, hd0_85⟩
  replace hs81 := hs80.callF hs81
  refine ⟨_, rfl, ?_⟩
  replace hs81 := St.back [_] hs81
  refine WL.nil ⟨(hs81.rm L0_83), WG.rn [14, 15, 16, 17] (hs81.rm L0_83) [] rfl rfl (WG.oK rfl (WL.st tbk hs81 0 rfl rfl (fun _ hs86 => WL.nil ⟨(hs86.d1.rm L0_83), WH.dn (hK79 _ _ (WC.region ?_))⟩)))⟩
  refine WL.r 4 hs86 [] rfl (WL.st tbk hs86 0 rfl rfl (fun _ hs87 => WL.nil (ibN (retK0 rfl ?_))))
  obtain ⟨L88, L89, L90, L91, hs96, ho92, ho93, ho94, ho95⟩ := ownScrR.op hs87 ho84
  have hs97 := (hs96.fb b_s)
  obtain ⟨L98, L99, L100, L101, hs106, ho102, ho103, ho104, ho105⟩ := ownScrR.op hs97 o_s
  have hs107 := (hs106.fb b_s)
  obtain ⟨L109, hs108, ho110⟩ := ownScrR.fl hs107 ho92 ho93 ho94 ho105
  have hs111 := (hs108.fb b_s)
  refine ownScrR.retp4 rfl ((hs111.fr L109).fb b_s) ho110 ?_
  · unfold escD; rw [if_neg e68, if_neg e77, if_neg e69, if_neg e55, if_neg e56, if_neg e72, if_pos e99]; have hm9 : scrRes s.W s.H s.Limit = scrNew s.W s.H s.Limit := by { unfold scrRes scrMay; rw [if_pos]; rw [Bool.and_eq_true, within_iff]; exact ⟨hf.size, hf.lim.1⟩ }; refine Eq.trans ?_ (show ({ scrRes s.W s.H s.Limit with Back := s.dat.Back } : ScrD) = resetD s.dat from by rw [hm9]; rfl); rw [← hd0_85]; rfl
 have e99 : ¬ b = 99 := by have h9 := h78; simpa using h9
 refine WC.skip (ibN (retK0 rfl (⟨s, _, rfl, St.keepP (L1 := L_s) ((hs1.fr L_s).fb b_s), o_s, ?_⟩)))
 · unfold escD; rw [if_neg e68, if_neg e77, if_neg e69, if_neg e55, if_neg e56, if_neg e72, if_neg e99]
theorem k134_ (u_0 u_1 u_2 u_3 : Value) (b_s : Nat) (s : ScrR) (L_s : Hp) (x : Int) (y : Int) (w : World) (hb_s : w.heap[b_s]? = some (oS u_0 u_1 u_2 u_3 s)) (o_s : ownScrR s L_s) (h_s : Hh w L_s) (hd_ : (b_s :: L_s.map (·.1)).Nodup) (hwh : (1 ≤ s.W ∧ s.W ≤ 120) ∧ 1 ≤ s.H ∧ s.H ≤ 120) :
    Calls Tryz.prog 225 #[.pointer (some ⟨b_s, 4, none⟩), i64 x, i64 y] w fun e w' => ∃ r L1, e = .returned (.tuple #[]) ∧ St w (b_s :: L_s.map (·.1)) ([(b_s, oS u_0 u_1 u_2 u_3 r)] ++ L1) w' ∧ ownScrR r L1 ∧ r.dat = moveD s.dat x y := by
 refine enter 31 Tryz.func225 rfl Tryz.ntmps225 rfl rfl ?_
 have hs1 := St.takeP w b_s _ L_s hb_s h_s hd_
 refine WC.rG 21 hs1.d1 hs1 hs1 (fun _ hs2 => ?_)
 refine WG.rn [0, 1, 2, 3, 4, 5, 6, 7, 8, 9, 10, 11, 12, 13, 14, 15, 16, 17, 18, 19, 20] hs2 [0, 0] rfl rfl (WG.oK rfl (WL.st tbk hs2 0 rfl rfl (fun _ hs3 => WL.nil ⟨hs3.d1, WH.rn [22, 23] hs3.d1 [] rfl rfl (WH.o1 24 rfl (WL.st tbk hs3 0 rfl rfl (fun _ hs4 => WL.nil ⟨hs4.d1, ?_⟩)))⟩)))
 refine WH.rn [25, 26] hs4.d1 [] rfl rfl (WH.o1 27 rfl (WL.st tbk hs4 0 rfl rfl (fun _ hs5 => WL.nil ⟨hs5.d1, WH.dn (retK0 rfl ?_)⟩)))
 obtain ⟨L6, L7, L8, L9, hs14, ho10, ho11, ho12, ho13⟩ := ownScrR.op hs5 o_s
 have hs15 := (hs14.fb b_s)
 obtain ⟨L17, hs16, ho18⟩ := ownScrR.fl hs15 ho10 ho11 ho12 ho13
 have hs19 := (hs16.fb b_s)
 refine ownScrR.retp4 rfl ((hs19.fr L17).fb b_s) ho18 ?_
 · rfl
theorem k135_ (u_0 u_1 u_2 u_3 : Value) (b_s : Nat) (s : ScrR) (L_s : Hp) (n : Int) (m : Int) (b : Int) (w : World) (hb_s : w.heap[b_s]? = some (oS u_0 u_1 u_2 u_3 s)) (o_s : ownScrR s L_s) (h_s : Hh w L_s) (hd_ : (b_s :: L_s.map (·.1)).Nodup) (hf : ScrFine s.dat) (hn : 0 ≤ n ∧ n ≤ 9999) (hm : 0 ≤ m ∧ m ≤ 9999) :
    Calls Tryz.prog 234 #[.pointer (some ⟨b_s, 4, none⟩), i64 n, i64 m, i64 b] w fun e w' => ∃ r L1, e = .returned (.bool (isMove b)) ∧ St w (b_s :: L_s.map (·.1)) ([(b_s, oS u_0 u_1 u_2 u_3 r)] ++ L1) w' ∧ ownScrR r L1 ∧ r.dat = moveByD s.dat n m b := by
 have hwh : (1 ≤ s.W ∧ s.W ≤ 120) ∧ 1 ≤ s.H ∧ s.H ≤ 120 := ⟨(isSize_bnd hf.size).1, (isSize_bnd hf.size).2.1⟩
 have hxy := hf.pos
 simp only [ScrR.dat, GridR.dat] at hxy
 refine enter 95 Tryz.func234 rfl Tryz.ntmps234 rfl rfl ?_
 have hs1 := St.takeP w b_s _ L_s hb_s h_s hd_
 refine WC.r1 hs1 [] rfl (WC.seq (fun K2 hK2 => WC.r1 hs1 [] rfl (WC.block (WC.r1 hs1 [] rfl ?_))))
 refine WC.cq rfl (fun h3 qh3 => ?_) (fun h3 qh3 => ?_)
 ·have e65 : b = 65 := by have h9 := h3; simpa using h9
  refine WC.rG 11 (hs1.d1.rm L_s) hs1 hs1 (fun _ hs4 => ?_)
  refine WG.rn [0, 1, 2, 3, 4, 5, 6, 7, 8, 9, 10] hs4 [0, 0] rfl rfl (WG.oK rfl ?_)
  have hF5 := ((hs4.fr L_s).fb b_s)
  refine WL.cl Tryz.call225 rfl (k134_ _ _ _ _ _ s _ _ _ _ (St.headP hF5) o_s (St.ownP hF5) (St.nodupP hF5) ?_) ?_
  · first | assumption | rfl | omega
  rintro _ whs6 ⟨r7, L8, rfl, hs6, ho9, hd10⟩
  replace hs6 := St.lendP hF5 hs6
  refine ⟨_, rfl, WL.nil ⟨(hs6.d1.rm L8), WH.dn (hK2 _ _ (WC.r1 hs6 [] rfl (WC.ret (retV1 rfl (resV.tmp rfl) ?_))))⟩⟩
  have hmv : isMove b = true := by unfold isMove; rw [decide_eq_true_eq]; omega
  refine ⟨r7, _, (by rw [hmv]), St.keepP (L1 := L8) ((hs6.fr L8).fb b_s), ho9, ?_⟩
  · unfold moveByD; rw [if_pos e65]; exact hd10
 have e65 : ¬ b = 65 := by have h9 := h3; simpa using h9
 refine WC.r1 hs1 [] rfl (WC.cq rfl (fun h11 qh11 => ?_) (fun h11 qh11 => ?_))
 ·have e66 : b = 66 := by have h9 := h11; simpa using h9
  refine WC.rG 11 (hs1.d1.rm L_s) hs1 hs1 (fun _ hs12 => ?_)
  refine WG.rn [0, 1, 2, 3, 4, 5, 6, 7, 8, 9, 10] hs12 [0, 0] rfl rfl (WG.oK rfl ?_)
  have hF13 := ((hs12.fr L_s).fb b_s)
  refine WL.cl Tryz.call225 rfl (k134_ _ _ _ _ _ s _ _ _ _ (St.headP hF13) o_s (St.ownP hF13) (St.nodupP hF13) ?_) ?_
  · first | assumption | rfl | omega
  rintro _ whs14 ⟨r15, L16, rfl, hs14, ho17, hd18⟩
  replace hs14 := St.lendP hF13 hs14
  refine ⟨_, rfl, WL.nil ⟨(hs14.d1.rm L16), WH.dn (hK2 _ _ (WC.r1 hs14 [] rfl (WC.ret (retV1 rfl (resV.tmp rfl) ?_))))⟩⟩
  have hmv : isMove b = true := by unfold isMove; rw [decide_eq_true_eq]; omega
  refine ⟨r15, _, (by rw [hmv]), St.keepP (L1 := L16) ((hs14.fr L16).fb b_s), ho17, ?_⟩
  · unfold moveByD; rw [if_neg e65, if_pos e66]; exact hd18
 have e66 : ¬ b = 66 := by have h9 := h11; simpa using h9
 refine WC.r1 hs1 [] rfl (WC.cq rfl (fun h19 qh19 => ?_) (fun h19 qh19 => ?_))
 ·have e67 : b = 67 := by have h9 := h19; simpa using h9
  refine WC.rG 11 (hs1.d1.rm L_s) hs1 hs1 (fun _ hs20 => ?_)
  refine WG.rn [0, 1, 2, 3, 4, 5, 6, 7, 8, 9, 10] hs20 [0, 0] rfl rfl (WG.oK rfl ?_)
  have hF21 := ((hs20.fr L_s).fb b_s)
  refine WL.cl Tryz.call225 rfl (k134_ _ _ _ _ _ s _ _ _ _ (St.headP hF21) o_s (St.ownP hF21) (St.nodupP hF21) ?_) ?_
  · first | assumption | rfl | omega
  rintro _ whs22 ⟨r23, L24, rfl, hs22, ho25, hd26⟩
  replace hs22 := St.lendP hF21 hs22
  refine ⟨_, rfl, WL.nil ⟨(hs22.d1.rm L24), WH.dn (hK2 _ _ (WC.r1 hs22 [] rfl (WC.ret (retV1 rfl (resV.tmp rfl) ?_))))⟩⟩
  have hmv : isMove b = true := by unfold isMove; rw [decide_eq_true_eq]; omega
  refine ⟨r23, _, (by rw [hmv]), St.keepP (L1 := L24) ((hs22.fr L24).fb b_s), ho25, ?_⟩
  · unfold moveByD; rw [if_neg e65, if_neg e66, if_pos e67]; exact hd26
 have e67 : ¬ b = 67 := by have h9 := h19; simpa using h9
 refine WC.r1 hs1 [] rfl (WC.cq rfl (fun h27 qh27 => ?_) (fun h27 qh27 => ?_))
 ·have e68 : b = 68 := by have h9 := h27; simpa using h9
  refine WC.rG 11 (hs1.d1.rm L_s) hs1 hs1 (fun _ hs28 => ?_)
  refine WG.rn [0, 1, 2, 3, 4, 5, 6, 7, 8, 9, 10] hs28 [0, 0] rfl rfl (WG.oK rfl ?_)
  have hF29 := ((hs28.fr L_s).fb b_s)
  refine WL.cl Tryz.call225 rfl (k134_ _ _ _ _ _ s _ _ _ _ (St.headP hF29) o_s (St.ownP hF29) (St.nodupP hF29) ?_) ?_
  · first | assumption | rfl | omega
  rintro _ whs30 ⟨r31, L32, rfl, hs30, ho33, hd34⟩
  replace hs30 := St.lendP hF29 hs30
  refine ⟨_, rfl, WL.nil ⟨(hs30.d1.rm L32), WH.dn (hK2 _ _ (WC.r1 hs30 [] rfl (WC.ret (retV1 rfl (resV.tmp rfl) ?_))))⟩⟩
  have hmv : isMove b = true := by unfold isMove; rw [decide_eq_true_eq]; omega
  refine ⟨r31, _, (by rw [hmv]), St.keepP (L1 := L32) ((hs30.fr L32).fb b_s), ho33, ?_⟩
  · unfold moveByD; rw [if_neg e65, if_neg e66, if_neg e67, if_pos e68]; exact hd34
 have e68 : ¬ b = 68 := by have h9 := h27; simpa using h9
 refine WC.r1 hs1 [] rfl (WC.cq rfl (fun h35 qh35 => ?_) (fun h35 qh35 => ?_))
 ·have e71 : b = 71 := by have h9 := h35; simpa using h9
  refine WC.region (WL.r 7 hs1 [0] rfl ?_)
  have hF36 := ((hs1.fr L_s).fb b_s)
  refine WL.cl Tryz.call225 rfl (k134_ _ _ _ _ _ s _ _ _ _ (St.headP hF36) o_s (St.ownP hF36) (St.nodupP hF36) ?_) ?_
  · first | assumption | rfl | omega
  rintro _ whs37 ⟨r38, L39, rfl, hs37, ho40, hd41⟩
  replace hs37 := St.lendP hF36 hs37
  refine ⟨_, rfl, WL.nil (hK2 _ _ (WC.r1 hs37 [] rfl (WC.ret (retV1 rfl (resV.tmp rfl) ?_))))⟩
  have hmv : isMove b = true := by unfold isMove; rw [decide_eq_true_eq]; omega
  refine ⟨r38, _, (by rw [hmv]), St.keepP (L1 := L39) ((hs37.fr L39).fb b_s), ho40, ?_⟩
  · unfold moveByD; rw [if_neg e65, if_neg e66, if_neg e67, if_neg e68, if_pos e71]; exact hd41
 have e71 : ¬ b = 71 := by have h9 := h35; simpa using h9
 refine WC.r1 hs1 [] rfl (WC.cq rfl (fun h42 qh42 => ?_) (fun h42 qh42 => ?_))
 ·have e100 : b = 100 := by have h9 := h42; simpa using h9
  refine WC.region (WL.r 7 hs1 [0] rfl ?_)
  have hF43 := ((hs1.fr L_s).fb b_s)
  refine WL.cl Tryz.call225 rfl (k134_ _ _ _ _ _ s _ _ _ _ (St.headP hF43) o_s (St.ownP hF43) (St.nodupP hF43) ?_) ?_
  · first | assumption | rfl | omega
  rintro _ whs44 ⟨r45, L46, rfl, hs44, ho47, hd48⟩
  replace hs44 := St.lendP hF43 hs44
  refine ⟨_, rfl, WL.nil (hK2 _ _ (WC.r1 hs44 [] rfl (WC.ret (retV1 rfl (resV.tmp rfl) ?_))))⟩
  have hmv : isMove b = true := by unfold isMove; rw [decide_eq_true_eq]; omega
  refine ⟨r45, _, (by rw [hmv]), St.keepP (L1 := L46) ((hs44.fr L46).fb b_s), ho47, ?_⟩
  · unfold moveByD; rw [if_neg e65, if_neg e66, if_neg e67, if_neg e68, if_neg e71, if_pos e100]; exact hd48
 have e100 : ¬ b = 100 := by have h9 := h42; simpa using h9
 refine WC.seq (fun K49 hK49 => WC.r1 hs1 [] rfl ?_)
 refine WC.cq rfl (fun h50 qh50 => ?_) (fun h50 qh50 => ?_)
 ·have e72 : b = 72 := by have h9 := h50; simpa using h9
  refine WC.skip (hK49 _ _ (WC.condT rfl h50 (WC.region (WL.r 5 hs1 [] rfl ?_))))
  have hF52 := ((hs1.fr L_s).fb b_s)
  refine WL.cl Tryz.call225 rfl (k134_ _ _ _ _ _ s _ _ _ _ (St.headP hF52) o_s (St.ownP hF52) (St.nodupP hF52) ?_) ?_
  · first | assumption | rfl | omega
  rintro _ whs53 ⟨r54, L55, rfl, hs53, ho56, hd57⟩
  replace hs53 := St.lendP hF52 hs53
  refine ⟨_, rfl, WL.nil (hK2 _ _ (WC.r1 hs53 [] rfl (WC.ret (retV1 rfl (resV.tmp rfl) ?_))))⟩
  have hmv : isMove b = true := by unfold isMove; rw [decide_eq_true_eq]; omega
  refine ⟨r54, _, (by rw [hmv]), St.keepP (L1 := L55) ((hs53.fr L55).fb b_s), ho56, ?_⟩
  · unfold moveByD; rw [if_neg e65, if_neg e66, if_neg e67, if_neg e68, if_neg e71, if_neg e100, if_pos (show b = 72 ∨ b = 102 by omega)]; exact hd57
 have e72 : ¬ b = 72 := by have h9 := h50; simpa using h9
 refine WC.region (WL.r 2 hs1 [] rfl (WL.nil (hK49 _ _ ?_)))
 refine WC.cq rfl (fun h58 qh58 => ?_) (fun h58 qh58 => ?_)
 ·have e102 : b = 102 := by have h9 := h58; simpa using h9
  refine WC.region (WL.r 5 hs1 [] rfl ?_)
  have hF59 := ((hs1.fr L_s).fb b_s)
  refine WL.cl Tryz.call225 rfl (k134_ _ _ _ _ _ s _ _ _ _ (St.headP hF59) o_s (St.ownP hF59) (St.nodupP hF59) ?_) ?_
  · first | assumption | rfl | omega
  rintro _ whs60 ⟨r61, L62, rfl, hs60, ho63, hd64⟩
  replace hs60 := St.lendP hF59 hs60
  refine ⟨_, rfl, WL.nil (hK2 _ _ (WC.r1 hs60 [] rfl (WC.ret (retV1 rfl (resV.tmp rfl) ?_))))⟩
  have hmv : isMove b = true := by unfold isMove; rw [decide_eq_true_eq]; omega
  refine ⟨r61, _, (by rw [hmv]), St.keepP (L1 := L62) ((hs60.fr L62).fb b_s), ho63, ?_⟩
  · unfold moveByD; rw [if_neg e65, if_neg e66, if_neg e67, if_neg e68, if_neg e71, if_neg e100, if_pos (show b = 72 ∨ b = 102 by omega)]; exact hd64
 have e102 : ¬ b = 102 := by have h9 := h58; simpa using h9
 refine WC.r1 hs1 [] rfl (WC.ret (ibR (tkR ?_)))
 clear hK2
 refine retV1 rfl (resV.tmp rfl) ?_
 have hmv : isMove b = false := by unfold isMove; rw [decide_eq_false_iff_not]; omega
 refine ⟨s, _, (by rw [hmv]), St.keepP (L1 := L_s) ((hs1.fr L_s).fb b_s), o_s, ?_⟩
 · unfold moveByD; rw [if_neg e65, if_neg e66, if_neg e67, if_neg e68, if_neg e71, if_neg e100, if_neg (show ¬ (b = 72 ∨ b = 102) by omega)]
theorem k136_ (u_0 u_1 u_2 u_3 : Value) (b_s : Nat) (s : ScrR) (L_s : Hp) (A_l : Option Addr) (n_l c_l : Nat) (l : List Int) (n : Int) (w : World) (hb_s : w.heap[b_s]? = some (oS u_0 u_1 u_2 u_3 s)) (o_s : ownScrR s L_s) (h_s : Hh w L_s) (f_l : SlF encI w A_l n_l l) (hd_ : (b_s :: L_s.map (·.1)).Nodup) (s_l : 0 < n_l → (adr A_l).block ∉ (b_s :: L_s.map (·.1))) (hf : ScrFine s.dat) (hna : n = argI l 0 1) (hl : areArgs l = true) (hll : n_l ≤ 549755813888) :
    Calls Tryz.prog 239 #[.pointer (some ⟨b_s, 4, none⟩), .slice A_l n_l c_l, i64 n] w fun e w' => ∃ r L1, e = .returned (.tuple #[]) ∧ St w (b_s :: L_s.map (·.1)) ([(b_s, oS u_0 u_1 u_2 u_3 r)] ++ L1) w' ∧ ownScrR r L1 ∧ r.dat = regionD s.dat l := by
 have hwh : (1 ≤ s.W ∧ s.W ≤ 120) ∧ 1 ≤ s.H ∧ s.H ≤ 120 := ⟨(isSize_bnd hf.size).1, (isSize_bnd hf.size).2.1⟩
 have hxy := hf.pos
 simp only [ScrR.dat, GridR.dat] at hxy
 have ha0 := argI_bnd (k := 0) (d := 1) hl (by omega)
 have ha1 : 0 ≤ argI l 1 s.H ∧ argI l 1 s.H ≤ 9999 := argI_bnd hl (by omega)
 refine enter 38 Tryz.func239 rfl Tryz.ntmps239 rfl rfl ?_
 have hs1 := St.takeP w b_s _ L_s hb_s h_s hd_
 refine WC.sr (WL.r 7 hs1 [0] rfl (WL.cl Tryz.call233 rfl (k95_ _ _ _ _ _ _ (SlF.st f_l hs1 s_l) ?_) ?_))
 · first | assumption | rfl | omega
 rintro _ whs2 ⟨rfl, hs2⟩
 replace hs2 := hs1.call0 hs2
 refine ⟨_, rfl, WL.r 3 hs2 [] rfl (WL.nil (WC.sr (WL.r 4 hs2 [] rfl (WL.pA tbk 6 Acts.nil hs2 [0] rfl rfl rfl rfl (fun g_ => ⟨rfl, trivial⟩) (WL.nil (WC.cq rfl (fun h3 qh3 => ?_) (fun h3 qh3 => ?_)))))))⟩
 ·have hr : n - 1 < argI l 1 s.H - 1 ∧ argI l 1 s.H - 1 < s.H := by have h9 := h3; simp at h9; omega
  refine WC.sr (WL.r 6 hs2 [] rfl (WL.st tbk hs2 0 rfl rfl (fun _ hs4 => WL.r 2 hs4 [] rfl (WL.st tbk hs4 0 rfl rfl (fun _ hs5 => WL.nil (WC.region (WL.r 1 hs5 [] rfl ?_)))))))
  obtain ⟨L6, L7, L8, L9, hs14, ho10, ho11, ho12, ho13⟩ := ownScrR.op hs5 o_s
  have hs15 := (hs14.fb b_s)
  obtain ⟨L17, hs16, ho18⟩ := ownScrR.fl hs15 ho10 ho11 ho12 ho13
  have hs19 := (hs16.fb b_s)
  have hF20 := ((hs19.fr L17).fb b_s)
  refine WL.cl Tryz.call225 rfl (k134_ _ _ _ _ _ ⟨s.W, s.H, ⟨s.Main.W, s.Main.H, SlD.of ho10⟩, ⟨s.Alt.W, s.Alt.H, SlD.of ho11⟩, s.OnAlt, s.X, s.Y, s.Wrap, ⟨s.A.Fg, s.A.Bg, s.A.Bold, s.A.Under, s.A.Turn⟩, (n - (1)), _, s.NoWrap, s.Hide, s.SaveX, s.SaveY, ⟨s.SaveA.Fg, s.SaveA.Bg, s.SaveA.Bold, s.SaveA.Under, s.SaveA.Turn⟩, SlD.of ho12, s.Limit, SlD.ofN ho13⟩ _ _ _ _ (St.headP hF20) (by exact ho18) (St.ownP hF20) (St.nodupP hF20) ?_) ?_
  · first | assumption | rfl | omega
  rintro _ whs21 ⟨r22, L23, rfl, hs21, ho24, hd25⟩
  replace hs21 := St.lendP hF20 hs21
  refine ⟨_, rfl, WL.nil (retK0 rfl (⟨r22, _, rfl, St.keepP (L1 := L23) ((hs21.fr L23).fb b_s), ho24, ?_⟩))⟩
  · unfold regionD; rw [if_pos (show argI l 0 1 - 1 < argI l 1 s.dat.H - 1 ∧ argI l 1 s.dat.H - 1 < s.dat.H from hna ▸ hr), ← hna]; exact hd25
 have hr : ¬ (n - 1 < argI l 1 s.H - 1 ∧ argI l 1 s.H - 1 < s.H) := by rintro ⟨h7, h8⟩; have h9 := h3; simp at h9; have := h9 (by omega); omega
 refine WC.skip (retK0 rfl (⟨s, _, rfl, St.keepP (L1 := L_s) ((hs2.fr L_s).fb b_s), o_s, ?_⟩))
 · unfold regionD; rw [if_neg (show ¬ (argI l 0 1 - 1 < argI l 1 s.dat.H - 1 ∧ argI l 1 s.dat.H - 1 < s.dat.H) from hna ▸ hr)]
theorem k137_ (u_0 u_1 u_2 u_3 : Value) (b_s : Nat) (s : ScrR) (L_s : Hp) (n : Int) (on : Bool) (w : World) (hb_s : w.heap[b_s]? = some (oS u_0 u_1 u_2 u_3 s)) (o_s : ownScrR s L_s) (h_s : Hh w L_s) (hd_ : (b_s :: L_s.map (·.1)).Nodup) (hf : ScrFine s.dat) (hsmB : smScr 549755813888 s.dat) :
    Calls Tryz.prog 190 #[.pointer (some ⟨b_s, 4, none⟩), i64 n, .bool on] w fun e w' => ∃ r L1, e = .returned (.tuple #[]) ∧ St w (b_s :: L_s.map (·.1)) ([(b_s, oS u_0 u_1 u_2 u_3 r)] ++ L1) w' ∧ ownScrR r L1 ∧ r.dat = modeD s.dat n on := by
 have hwh : (1 ≤ s.W ∧ s.W ≤ 120) ∧ 1 ≤ s.H ∧ s.H ≤ 120 := ⟨(isSize_bnd hf.size).1, (isSize_bnd hf.size).2.1⟩
 have hxy := hf.pos
 simp only [ScrR.dat, GridR.dat] at hxy
 have hsz : isSize s.W s.H = true := hf.size
 refine enter 80 Tryz.func190 rfl Tryz.ntmps190 rfl rfl ?_
 have hs1 := St.takeP w b_s _ L_s hb_s h_s hd_
 refine WC.block (WC.r1 hs1 [] rfl (WC.cq rfl (fun h2 qh2 => ?_) (fun h2 qh2 => ?_)))
 ·have e7 : n = 7 := by have h9 := h2; simpa using h9
  refine WC.region (WL.r 9 hs1 [0] rfl (WL.pA tbk 1 Acts.nil hs1 [] rfl rfl rfl rfl (fun g_ => trivial) (WL.r 2 hs1 [] rfl (WL.st tbk hs1 0 rfl rfl (fun _ hs3 => WL.r 2 hs3 [] rfl (WL.st tbk hs3 0 rfl rfl (fun _ hs4 => WL.nil ?_)))))))
  refine ibN (retK0 rfl ?_)
  obtain ⟨L5, L6, L7, L8, hs13, ho9, ho10, ho11, ho12⟩ := ownScrR.op hs4 o_s
  have hs14 := (hs13.fb b_s)
  obtain ⟨L16, hs15, ho17⟩ := ownScrR.fl hs14 ho9 ho10 ho11 ho12
  have hs18 := (hs15.fb b_s)
  refine ownScrR.retp4 rfl ((hs18.fr L16).fb b_s) ho17 ?_
  · unfold modeD; rw [if_pos e7]; rfl
 have e7 : ¬ n = 7 := by have h9 := h2; simpa using h9
 refine WC.r1 hs1 [] rfl (WC.cq rfl (fun h19 qh19 => ?_) (fun h19 qh19 => ?_))
 ·have e25 : n = 25 := by have h9 := h19; simpa using h9
  refine WC.region (WL.r 5 hs1 [] rfl (WL.st tbk hs1 0 rfl rfl (fun _ hs20 => WL.nil (ibN (retK0 rfl ?_)))))
  obtain ⟨L21, L22, L23, L24, hs29, ho25, ho26, ho27, ho28⟩ := ownScrR.op hs20 o_s
  have hs30 := (hs29.fb b_s)
  obtain ⟨L32, hs31, ho33⟩ := ownScrR.fl hs30 ho25 ho26 ho27 ho28
  have hs34 := (hs31.fb b_s)
  refine ownScrR.retp4 rfl ((hs34.fr L32).fb b_s) ho33 ?_
  · unfold modeD; rw [if_neg e7, if_pos e25]; rfl
 have e25 : ¬ n = 25 := by have h9 := h19; simpa using h9
 refine WC.sr (WL.r 3 hs1 [] rfl (WL.pA tbk 1 Acts.nil hs1 [] rfl rfl rfl rfl (fun g_ => trivial) (WL.r 1 hs1 [] rfl (WL.pA tbk 5 Acts.nil hs1 [0] rfl rfl rfl rfl (fun g_ => ⟨rfl, trivial⟩) (WL.r 1 hs1 [] rfl (WL.nil (WC.cq rfl (fun h35 qh35 => ?_) (fun h35 qh35 => ?_))))))))
 ·have a1 : (n = 1049 ∧ on = true) ∧ s.dat.OnAlt = false := by show (n = 1049 ∧ on = true) ∧ s.OnAlt = false; have h9 := h35; simp at h9; first | exact h9 | exact ⟨⟨h9.1.1, h9.1.2⟩, h9.2⟩ | exact ⟨⟨h9.1, h9.2.1⟩, h9.2.2⟩
  refine WC.sr (WL.r 1 hs1 [] rfl ?_)
  have hF36 := ((hs1.fr L_s).fb b_s)
  refine WL.cl Tryz.call153 rfl (k131_ _ _ _ _ _ s _ _ (St.headP hF36) o_s (St.ownP hF36) (St.nodupP hF36) ?_) ?_
  · first | assumption | rfl | omega
  rintro _ whs37 ⟨r38, L39, rfl, hs37, ho40, hd41⟩
  replace hs37 := St.lendP hF36 hs37
  refine ⟨_, rfl, ?_⟩
  have hrW : r38.W = s.W := congrArg ScrD.W hd41
  have hrH : r38.H = s.H := congrArg ScrD.H hd41
  have hszr : isSize r38.W r38.H = true := by rw [hrW, hrH]; exact hsz
  refine WL.nil (WC.rG 13 hs37.d1 hs37 hs37 (fun _ hs42 => ?_))
  refine WG.rn [0, 1, 2, 3, 4, 5, 6, 7, 8, 9] hs42 [0, 0] rfl rfl (WG.o1 10 rfl rfl (WL.cl Tryz.call215 rfl (k24_ _ _ _ ?_) ?_))
  · first | assumption | rfl | omega
  rintro _ whs43 ⟨r44, L1_45, rfl, hs43, ho46, hd47⟩
  replace hs43 := hs42.callF hs43
  refine ⟨_, rfl, ?_⟩
  replace hs43 := St.back [_] hs43
  refine WL.nil ⟨(hs43.rm L1_45), WG.rn [11, 12] (hs43.rm L1_45) [] rfl rfl (WG.oK rfl (WL.st tbk hs43 0 rfl rfl (fun _ hs48 => WL.nil ⟨(hs48.d1.rm L1_45), WH.rn [14, 15] (hs48.d1.rm L1_45) [] rfl rfl (WH.o1 16 rfl (WL.st tbk hs48 0 rfl rfl (fun _ hs49 => ?_)))⟩)))⟩
  refine WL.nil ⟨(hs49.d1.rm L1_45), WH.dn (ibN (retK0 rfl ?_))⟩
  obtain ⟨L50, L51, L52, L53, hs58, ho54, ho55, ho56, ho57⟩ := ownScrR.op hs49 ho40
  have hs59 := (hs58.fb b_s)
  obtain ⟨L61, hs60, ho62⟩ := ownScrR.fl hs59 ho54 ho46 ho56 ho57
  have hs63 := (hs60.fb b_s)
  refine ownScrR.retp4 rfl ((hs63.fr L61).fb b_s) ho62 ?_
  · unfold modeD; rw [if_neg e7, if_neg e25, if_pos a1]; show _ = ({ saveD s.dat with Alt := gridNew s.W s.H, OnAlt := true } : ScrD); rw [← hrW, ← hrH, ← hd47, ← hd41]; rfl
 have a1 : ¬ ((n = 1049 ∧ on = true) ∧ s.dat.OnAlt = false) := by show ¬ ((n = 1049 ∧ on = true) ∧ s.OnAlt = false); rintro ⟨⟨h1, h2⟩, h3⟩; have h9 := h35; simp [h1, h2, h3] at h9
 refine WC.sr (WL.r 3 hs1 [] rfl (WL.pA tbk 2 Acts.nil hs1 [] rfl rfl rfl rfl (fun g_ => trivial) (WL.r 1 hs1 [] rfl (WL.pA tbk 4 Acts.nil hs1 [0] rfl rfl rfl rfl (fun g_ => ⟨rfl, trivial⟩) (WL.r 1 hs1 [] rfl (WL.nil (WC.cq rfl (fun h64 qh64 => ?_) (fun h64 qh64 => ?_))))))))
 ·have a2 : (n = 1049 ∧ on = false) ∧ s.dat.OnAlt = true := by show (n = 1049 ∧ on = false) ∧ s.OnAlt = true; have h9 := h64; simp at h9; first | exact h9 | exact ⟨⟨h9.1.1, h9.1.2⟩, h9.2⟩ | exact ⟨⟨h9.1, h9.2.1⟩, h9.2.2⟩
  refine WC.sr (WL.r 3 hs1 [] rfl (WL.st tbk hs1 0 rfl rfl (fun _ hs65 => WL.nil (WC.region (WL.r 1 hs65 [] rfl ?_)))))
  obtain ⟨L66, L67, L68, L69, hs74, ho70, ho71, ho72, ho73⟩ := ownScrR.op hs65 o_s
  have hs75 := (hs74.fb b_s)
  obtain ⟨L77, hs76, ho78⟩ := ownScrR.fl hs75 ho70 ho71 ho72 ho73
  have hs79 := (hs76.fb b_s)
  have hF80 := ((hs79.fr L77).fb b_s)
  refine WL.cl Tryz.call154 rfl (k132_ _ _ _ _ _ ⟨s.W, s.H, ⟨s.Main.W, s.Main.H, SlD.of ho70⟩, ⟨s.Alt.W, s.Alt.H, SlD.of ho71⟩, false, s.X, s.Y, s.Wrap, ⟨s.A.Fg, s.A.Bg, s.A.Bold, s.A.Under, s.A.Turn⟩, s.Top, s.Bot, s.NoWrap, s.Hide, s.SaveX, s.SaveY, ⟨s.SaveA.Fg, s.SaveA.Bg, s.SaveA.Bold, s.SaveA.Under, s.SaveA.Turn⟩, SlD.of ho72, s.Limit, SlD.ofN ho73⟩ _ _ (St.headP hF80) (by exact ho78) (St.ownP hF80) (St.nodupP hF80) ?_) ?_
  · first | assumption | rfl | omega
  rintro _ whs81 ⟨r82, L83, rfl, hs81, ho84, hd85⟩
  replace hs81 := St.lendP hF80 hs81
  refine ⟨_, rfl, WL.nil (ibN (retK0 rfl (⟨r82, _, rfl, St.keepP (L1 := L83) ((hs81.fr L83).fb b_s), ho84, ?_⟩)))⟩
  · unfold modeD; rw [if_neg e7, if_neg e25, if_neg a1, if_pos a2]; exact hd85
 have a2 : ¬ ((n = 1049 ∧ on = false) ∧ s.dat.OnAlt = true) := by show ¬ ((n = 1049 ∧ on = false) ∧ s.OnAlt = true); rintro ⟨⟨h1, h2⟩, h3⟩; have h9 := h64; simp [h1, h2, h3] at h9
 refine WC.skip (ibN (retK0 rfl (⟨s, _, rfl, St.keepP (L1 := L_s) ((hs1.fr L_s).fb b_s), o_s, ?_⟩)))
 · unfold modeD; rw [if_neg e7, if_neg e25, if_neg a1, if_neg a2]
theorem k138_ (u_0 u_1 u_2 u_3 : Value) (b_s : Nat) (s : ScrR) (L_s : Hp) (a : Int) (b : Int) (w : World) (hb_s : w.heap[b_s]? = some (oS u_0 u_1 u_2 u_3 s)) (o_s : ownScrR s L_s) (h_s : Hh w L_s) (hd_ : (b_s :: L_s.map (·.1)).Nodup) (hab : 0 ≤ a ∧ b ≤ s.Main.Cells.xs.length ∧ b ≤ 1048576 ∧ -1048576 ≤ b ∧ a ≤ 1048576) (hsmB : smScr 549755813888 s.dat) (hx : s.OnAlt = false) :
    Calls Tryz.prog 236 #[.pointer (some ⟨b_s, 4, none⟩), i64 a, i64 b] w fun e w' => ∃ r L1, e = .returned (.tuple #[]) ∧ St w (b_s :: L_s.map (·.1)) ([(b_s, oS u_0 u_1 u_2 u_3 r)] ++ L1) w' ∧ ownScrR r L1 ∧ r.dat = clearD s.dat a b := by
 refine enter 23 Tryz.func236 rfl Tryz.ntmps236 rfl rfl ?_
 have hs1 := St.takeP w b_s _ L_s hb_s h_s hd_
 refine WC.sr (WL.r 1 hs1 [] rfl ?_)
 have hF2 := ((hs1.fr L_s).fb b_s)
 refine WL.cl Tryz.call223 rfl (k122_ _ _ _ _ _ s _ _ (St.headP hF2) o_s (St.ownP hF2) (St.nodupP hF2) ?_) ?_
 · first | assumption | rfl | omega
 rintro _ whs3 ⟨r4, L5, rfl, hs3, ho6, hd7⟩
 replace hs3 := St.lendP hF2 hs3
 refine ⟨_, rfl, ?_⟩
 have hrl : r4.Main.Cells.xs.length = s.Main.Cells.xs.length := congrArg (fun d : ScrD => d.Main.Cells.length) hd7
 have hln := ownScrR.len ‹ownScrR r4 _›
 refine WL.r 4 hs3 [0] rfl (WL.nil (WC.r1 hs3 [] rfl (WC.block ?_)))
 obtain ⟨L8, L9, L10, L11, hs16, ho12, ho13, ho14, ho15⟩ := ownScrR.op hs3 ho6
 have hs17 := (hs16.fb b_s)
 refine WC.lO [2, 6] rfl (hs17.fr L8) (fun k_ f L_ => ∃ (i : Nat) (zs : List CellD), k_ = (b - a).toNat - i ∧ (i ≤ (b - a).toNat) ∧ (zs.length = r4.Main.Cells.xs.length) ∧ (∀ k, k < r4.Main.Cells.xs.length → cat zs k = partF r4.Main.dat (clearF r4.Main.dat a b) a.toNat i k) ∧ OwnF encCell 75 (.slice r4.Main.Cells.A (r4.Main.Cells.n) r4.Main.Cells.c) (zs) L_ ∧ Sub [(7, .int .i64 (a + i))] f) (((fun (i : Nat) (zs : List CellD) => (b - a).toNat - i) (0) (r4.Main.Cells.xs))) ?_ ?_
 ·refine ⟨0, r4.Main.Cells.xs, rfl, ?_, ?_, ?_, ho12, ⟨?_, trivial⟩⟩
  · omega
  · rfl
  · intro k hk; rw [partF_zero]; rfl
  · (refine congrArg some (congrArg (Value.int _) ?_); omega)
 clear hs17
 rintro _ f w L20 ⟨i, zs, rfl, p0, p1, p2, ho21, hG⟩ hF hs22
 refine WC.sub _ (hG.app hF) ?_
 clear hG hF
 replace hs22 := St.back [_] hs22
 refine WC.seq (fun K23 hK23 => WC.r1 hs22 [] rfl ?_)
 refine WC.cD rfl (fun qh24 => ?_) (fun qh24 => ?_)
 ·refine WC.skip (hK23 _ _ (WC.seq (fun K25 hK25 => WC.block (WC.region (WL.r 2 hs22 [] rfl (WL.cl Tryz.call253 rfl (k19_ _) ?_))))))
  rintro _ whs26 ⟨rfl, hs26⟩
  replace hs26 := hs22.call0 hs26
  refine ⟨_, rfl, WL.val rfl rfl rfl (Run.idx Tryz.runUnderlying26 Tryz.sizeOf75 rfl rfl rfl ?_ ?_ ?_) ?_⟩
  · exact SlF.some_ (SlF.ofOwn ho21 (hs26.ow L20))
  · first | omega | (obtain ⟨h1, h2, _, _⟩ := hln; omega)
  · first | omega | (obtain ⟨h1, h2, _, _⟩ := hln; omega)
  refine WL.storeF1 (x' := blankC) (hs26.fr L20) ho21 Tryz.sizeOf75 rfl rfl rfl rfl rfl rfl rfl rfl rfl ?_ rfl (fun L27 whs28 hs28 ho29 _ => ?_)
  · first | omega | (obtain ⟨h1, h2, _, _⟩ := hln; omega)
  replace hs28 := St.back [_] hs28
  refine WL.nil (hK25 _ _ (WC.region (WL.r 3 hs28 [] rfl (WL.nil (tkN ?_)))))
  refine ⟨sbF rfl, _, (hs28.fr L27), _, ?_, i + 1, _, rfl, ?_, ?_, ?_, ho29, ⟨?_, trivial⟩⟩
  · omega
  · omega
  · rw [List.length_set]; exact p1
  · intro k hk; exact part_next (g := r4.Main.dat) (by omega) (by rw [p1]; omega) (clearF_in ⟨by omega, by omega⟩).symm (p2 k hk)
  · (refine congrArg some (congrArg (Value.int _) ?_); omega)
 refine WC.exit (tkE (tkE (ibE (retK0 rfl ?_))))
 obtain ⟨L31, hs30, ho32⟩ := ownScrR.fl hs22 ho21 ho13 ho14 ho15
 have hs33 := (hs30.fb b_s)
 refine ownScrR.retp4 rfl ((hs33.fr L31).fb b_s) ho32 ?_
 · rw [← hd7]; show _ = clearD r4.dat a b; rw [show clearD r4.dat a b = { r4.dat with Main := gmap r4.Main.dat (clearF r4.Main.dat a b) } from by unfold clearD putD shownD; rw [if_neg (show ¬ r4.dat.OnAlt = true from by have h8 : r4.OnAlt = s.OnAlt := congrArg ScrD.OnAlt hd7; show ¬ r4.OnAlt = true; rw [h8, hx]; decide), if_neg (show ¬ r4.dat.OnAlt = true from by have h8 : r4.OnAlt = s.OnAlt := congrArg ScrD.OnAlt hd7; show ¬ r4.OnAlt = true; rw [h8, hx]; decide)]; rfl]; exact ScrD.ext' rfl rfl (part_done (g := r4.Main.dat) (lo := a.toNat) (a := i) rfl rfl p1 (fun k hk h9 => clearF_out (by omega)) p2) rfl rfl rfl rfl rfl rfl rfl rfl rfl rfl rfl rfl rfl rfl rfl rfl
theorem k139_ (u_0 u_1 u_2 u_3 : Value) (b_s : Nat) (s : ScrR) (L_s : Hp) (a : Int) (b : Int) (w : World) (hb_s : w.heap[b_s]? = some (oS u_0 u_1 u_2 u_3 s)) (o_s : ownScrR s L_s) (h_s : Hh w L_s) (hd_ : (b_s :: L_s.map (·.1)).Nodup) (hab : 0 ≤ a ∧ b ≤ s.Alt.Cells.xs.length ∧ b ≤ 1048576 ∧ -1048576 ≤ b ∧ a ≤ 1048576) (hsmB : smScr 549755813888 s.dat) (hx : s.OnAlt = true) :
    Calls Tryz.prog 236 #[.pointer (some ⟨b_s, 4, none⟩), i64 a, i64 b] w fun e w' => ∃ r L1, e = .returned (.tuple #[]) ∧ St w (b_s :: L_s.map (·.1)) ([(b_s, oS u_0 u_1 u_2 u_3 r)] ++ L1) w' ∧ ownScrR r L1 ∧ r.dat = clearD s.dat a b := by
 refine enter 23 Tryz.func236 rfl Tryz.ntmps236 rfl rfl ?_
 have hs1 := St.takeP w b_s _ L_s hb_s h_s hd_
 refine WC.sr (WL.r 1 hs1 [] rfl ?_)
 have hF2 := ((hs1.fr L_s).fb b_s)
 refine WL.cl Tryz.call223 rfl (k123_ _ _ _ _ _ s _ _ (St.headP hF2) o_s (St.ownP hF2) (St.nodupP hF2) ?_) ?_
 · first | assumption | rfl | omega
 rintro _ whs3 ⟨r4, L5, rfl, hs3, ho6, hd7⟩
 replace hs3 := St.lendP hF2 hs3
 refine ⟨_, rfl, ?_⟩
 have hrl : r4.Alt.Cells.xs.length = s.Alt.Cells.xs.length := congrArg (fun d : ScrD => d.Alt.Cells.length) hd7
 have hln := ownScrR.len ‹ownScrR r4 _›
 refine WL.r 4 hs3 [0] rfl (WL.nil (WC.r1 hs3 [] rfl (WC.block ?_)))
 obtain ⟨L8, L9, L10, L11, hs16, ho12, ho13, ho14, ho15⟩ := ownScrR.op hs3 ho6
 have hs17 := (hs16.fb b_s)
 refine WC.lO [2, 6] rfl (hs17.fr L9) (fun k_ f L_ => ∃ (i : Nat) (zs : List CellD), k_ = (b - a).toNat - i ∧ (i ≤ (b - a).toNat) ∧ (zs.length = r4.Alt.Cells.xs.length) ∧ (∀ k, k < r4.Alt.Cells.xs.length → cat zs k = partF r4.Alt.dat (clearF r4.Alt.dat a b) a.toNat i k) ∧ OwnF encCell 75 (.slice r4.Alt.Cells.A (r4.Alt.Cells.n) r4.Alt.Cells.c) (zs) L_ ∧ Sub [(7, .int .i64 (a + i))] f) (((fun (i : Nat) (zs : List CellD) => (b - a).toNat - i) (0) (r4.Alt.Cells.xs))) ?_ ?_
 ·refine ⟨0, r4.Alt.Cells.xs, rfl, ?_, ?_, ?_, ho13, ⟨?_, trivial⟩⟩
  · omega
  · rfl
  · intro k hk; rw [partF_zero]; rfl
  · (refine congrArg some (congrArg (Value.int _) ?_); omega)
 clear hs17
 rintro _ f w L20 ⟨i, zs, rfl, p0, p1, p2, ho21, hG⟩ hF hs22
 refine WC.sub _ (hG.app hF) ?_
 clear hG hF
 replace hs22 := St.back [_] hs22
 refine WC.seq (fun K23 hK23 => WC.r1 hs22 [] rfl ?_)
 refine WC.cD rfl (fun qh24 => ?_) (fun qh24 => ?_)
 ·refine WC.skip (hK23 _ _ (WC.seq (fun K25 hK25 => WC.block (WC.region (WL.r 2 hs22 [] rfl (WL.cl Tryz.call253 rfl (k19_ _) ?_))))))
  rintro _ whs26 ⟨rfl, hs26⟩
  replace hs26 := hs22.call0 hs26
  refine ⟨_, rfl, WL.val rfl rfl rfl (Run.idx Tryz.runUnderlying26 Tryz.sizeOf75 rfl rfl rfl ?_ ?_ ?_) ?_⟩
  · exact SlF.some_ (SlF.ofOwn ho21 (hs26.ow L20))
  · first | omega | (obtain ⟨h1, h2, _, _⟩ := hln; omega)
  · first | omega | (obtain ⟨h1, h2, _, _⟩ := hln; omega)
  refine WL.storeF1 (x' := blankC) (hs26.fr L20) ho21 Tryz.sizeOf75 rfl rfl rfl rfl rfl rfl rfl rfl rfl ?_ rfl (fun L27 whs28 hs28 ho29 _ => ?_)
  · first | omega | (obtain ⟨h1, h2, _, _⟩ := hln; omega)
  replace hs28 := St.back [_] hs28
  refine WL.nil (hK25 _ _ (WC.region (WL.r 3 hs28 [] rfl (WL.nil (tkN ?_)))))
  refine ⟨sbF rfl, _, (hs28.fr L27), _, ?_, i + 1, _, rfl, ?_, ?_, ?_, ho29, ⟨?_, trivial⟩⟩
  · omega
  · omega
  · rw [List.length_set]; exact p1
  · intro k hk; exact part_next (g := r4.Alt.dat) (by omega) (by rw [p1]; omega) (clearF_in ⟨by omega, by omega⟩).symm (p2 k hk)
  · (refine congrArg some (congrArg (Value.int _) ?_); omega)
 refine WC.exit (tkE (tkE (ibE (retK0 rfl ?_))))
 obtain ⟨L31, hs30, ho32⟩ := ownScrR.fl hs22 ho12 ho21 ho14 ho15
 have hs33 := (hs30.fb b_s)
 refine ownScrR.retp4 rfl ((hs33.fr L31).fb b_s) ho32 ?_
 · rw [← hd7]; show _ = clearD r4.dat a b; rw [show clearD r4.dat a b = { r4.dat with Alt := gmap r4.Alt.dat (clearF r4.Alt.dat a b) } from by unfold clearD putD shownD; rw [if_pos (show  r4.dat.OnAlt = true from by have h8 : r4.OnAlt = s.OnAlt := congrArg ScrD.OnAlt hd7; show  r4.OnAlt = true; rw [h8, hx]), if_pos (show  r4.dat.OnAlt = true from by have h8 : r4.OnAlt = s.OnAlt := congrArg ScrD.OnAlt hd7; show  r4.OnAlt = true; rw [h8, hx])]; rfl]; exact ScrD.ext' rfl rfl rfl (part_done (g := r4.Alt.dat) (lo := a.toNat) (a := i) rfl rfl p1 (fun k hk h9 => clearF_out (by omega)) p2) rfl rfl rfl rfl rfl rfl rfl rfl rfl rfl rfl rfl rfl rfl rfl
theorem k140_ (u_0 u_1 u_2 u_3 : Value) (b_s : Nat) (s : ScrR) (L_s : Hp) (a : Int) (b : Int) (w : World) (hb_s : w.heap[b_s]? = some (oS u_0 u_1 u_2 u_3 s)) (o_s : ownScrR s L_s) (h_s : Hh w L_s) (hd_ : (b_s :: L_s.map (·.1)).Nodup) (hab : 0 ≤ a ∧ a ≤ 1048576 ∧ b ≤ s.W * s.H ∧ -1048576 ≤ b) (hf : ScrFine s.dat) (hsmB : smScr 549755813888 s.dat) :
    Calls Tryz.prog 236 #[.pointer (some ⟨b_s, 4, none⟩), i64 a, i64 b] w fun e w' => ∃ r L1, e = .returned (.tuple #[]) ∧ St w (b_s :: L_s.map (·.1)) ([(b_s, oS u_0 u_1 u_2 u_3 r)] ++ L1) w' ∧ ownScrR r L1 ∧ r.dat = clearD s.dat a b := by
 have hz := isSize_bnd hf.size
 simp only [ScrR.dat] at hz
 have hgm := grid_len hf.gM
 have hga := grid_len hf.gA
 obtain ⟨d1, d2, d3, d4⟩ := hf.dim
 simp only [ScrR.dat, GridR.dat] at hgm hga d1 d2 d3 d4
 rw [d1, d2] at hgm
 rw [d3, d4] at hga
 rcases Bool.eq_false_or_eq_true s.OnAlt with hx_ | hx_
 · exact k139_ u_0 u_1 u_2 u_3 b_s s L_s a b w hb_s o_s h_s hd_ ⟨hab.1, by omega, by omega, by omega, by omega⟩ hsmB hx_
 · exact k138_ u_0 u_1 u_2 u_3 b_s s L_s a b w hb_s o_s h_s hd_ ⟨hab.1, by omega, by omega, by omega, by omega⟩ hsmB hx_
theorem k141_ (u_0 u_1 u_2 u_3 : Value) (b_s : Nat) (s : ScrR) (L_s : Hp) (k : Int) (row : Bool) (w : World) (hb_s : w.heap[b_s]? = some (oS u_0 u_1 u_2 u_3 s)) (o_s : ownScrR s L_s) (h_s : Hh w L_s) (hd_ : (b_s :: L_s.map (·.1)).Nodup) (hf : ScrFine s.dat) (hsmB : smScr 549755813888 s.dat) :
    Calls Tryz.prog 235 #[.pointer (some ⟨b_s, 4, none⟩), i64 k, .bool row] w fun e w' => ∃ r L1, e = .returned (.tuple #[]) ∧ St w (b_s :: L_s.map (·.1)) ([(b_s, oS u_0 u_1 u_2 u_3 r)] ++ L1) w' ∧ ownScrR r L1 ∧ r.dat = eraseD s.dat (if row = true then s.Y * s.W else 0) (if row = true then (s.Y + 1) * s.W else s.W * s.H) k := by
 have hwh : (1 ≤ s.W ∧ s.W ≤ 120) ∧ 1 ≤ s.H ∧ s.H ≤ 120 := ⟨(isSize_bnd hf.size).1, (isSize_bnd hf.size).2.1⟩
 have hxy := hf.pos
 simp only [ScrR.dat, GridR.dat] at hxy
 have hz := isSize_bnd hf.size
 simp only [ScrR.dat] at hz
 have hv0 : 0 ≤ s.Y * s.W := Int.mul_nonneg (by omega) (by omega)
 have hv1 : (s.Y + 1) * s.W = s.Y * s.W + s.W := by rw [Int.add_mul, Int.one_mul]
 have hv2 : (s.Y + 1) * s.W ≤ s.H * s.W := Int.mul_le_mul_of_nonneg_right (by omega) (by omega)
 rw [Int.mul_comm s.H s.W] at hv2
 refine enter 72 Tryz.func235 rfl Tryz.ntmps235 rfl rfl ?_
 have hs1 := St.takeP w b_s _ L_s hb_s h_s hd_
 refine WC.q1 hs1 [0, 0, 0, 0, 0] rfl (fun _ hs2 => WC.seq (fun K3 hK3 => WC.r1 hs2 [] rfl ?_))
 refine WC.cq rfl (fun h4 qh4 => ?_) (fun h4 qh4 => ?_)
 ·have hrow : row = true := by have h9 := h4; simpa using h9
  refine WC.regionQ (fun w' => St _ _ _ w') mixed (by kernel_rfl) hs2.drew (WQ.r 21 [0, 0, 0, 0] rfl (WQ.nil (fun _ (hs5 : St _ _ _ _) => hK3 _ _ (WC.r1 hs5 [] rfl (WC.block (WC.r1 hs5 [] rfl ?_))))))
  refine WC.cq rfl (fun h6 qh6 => ?_) (fun h6 qh6 => ?_)
  ·have e0 : k = 0 := by have h9 := h6; simpa using h9
   refine WC.region (WL.r 3 hs5 [] rfl ?_)
   have hF7 := ((hs5.fr L_s).fb b_s)
   refine WL.cl Tryz.call236 rfl (k140_ _ _ _ _ _ s _ _ _ _ (St.headP hF7) o_s (St.ownP hF7) (St.nodupP hF7) ?_ ?_ ?_) ?_
   iterate 3 first | assumption | rfl | omega | (refine ⟨?_, ?_, ?_, ?_⟩ <;> omega)
   rintro _ whs8 ⟨r9, L10, rfl, hs8, ho11, hd12⟩
   replace hs8 := St.lendP hF7 hs8
   refine ⟨_, rfl, WL.nil (ibN (retK0 rfl (⟨r9, _, rfl, St.keepP (L1 := L10) ((hs8.fr L10).fb b_s), ho11, ?_⟩)))⟩
   · first | rw [if_pos hrow, if_pos hrow] | rw [if_neg hrow, if_neg hrow]
     unfold eraseD; rw [if_pos e0]; exact hd12
  have e0 : ¬ k = 0 := by have h9 := h6; simpa using h9
  refine WC.r1 hs5 [] rfl (WC.cq rfl (fun h13 qh13 => ?_) (fun h13 qh13 => ?_))
  ·have e1 : k = 1 := by have h9 := h13; simpa using h9
   refine WC.region (WL.r 4 hs5 [] rfl ?_)
   have hF14 := ((hs5.fr L_s).fb b_s)
   refine WL.cl Tryz.call236 rfl (k140_ _ _ _ _ _ s _ _ _ _ (St.headP hF14) o_s (St.ownP hF14) (St.nodupP hF14) ?_ ?_ ?_) ?_
   iterate 3 first | assumption | rfl | omega | (refine ⟨?_, ?_, ?_, ?_⟩ <;> omega)
   rintro _ whs15 ⟨r16, L17, rfl, hs15, ho18, hd19⟩
   replace hs15 := St.lendP hF14 hs15
   refine ⟨_, rfl, WL.nil (ibN (retK0 rfl (⟨r16, _, rfl, St.keepP (L1 := L17) ((hs15.fr L17).fb b_s), ho18, ?_⟩)))⟩
   · first | rw [if_pos hrow, if_pos hrow] | rw [if_neg hrow, if_neg hrow]
     unfold eraseD; rw [if_neg e0, if_pos e1]; exact hd19
  have e1 : ¬ k = 1 := by have h9 := h13; simpa using h9
  refine WC.r1 hs5 [] rfl (WC.cq rfl (fun h20 qh20 => ?_) (fun h20 qh20 => ?_))
  ·have e2 : k = 2 := by have h9 := h20; simpa using h9
   refine WC.region (WL.r 3 hs5 [] rfl ?_)
   have hF21 := ((hs5.fr L_s).fb b_s)
   refine WL.cl Tryz.call236 rfl (k140_ _ _ _ _ _ s _ _ _ _ (St.headP hF21) o_s (St.ownP hF21) (St.nodupP hF21) ?_ ?_ ?_) ?_
   iterate 3 first | assumption | rfl | omega | (refine ⟨?_, ?_, ?_, ?_⟩ <;> omega)
   rintro _ whs22 ⟨r23, L24, rfl, hs22, ho25, hd26⟩
   replace hs22 := St.lendP hF21 hs22
   refine ⟨_, rfl, WL.nil (ibN (retK0 rfl (⟨r23, _, rfl, St.keepP (L1 := L24) ((hs22.fr L24).fb b_s), ho25, ?_⟩)))⟩
   · first | rw [if_pos hrow, if_pos hrow] | rw [if_neg hrow, if_neg hrow]
     unfold eraseD; rw [if_neg e0, if_neg e1, if_pos e2]; exact hd26
  have e2 : ¬ k = 2 := by have h9 := h20; simpa using h9
  refine WC.skip (ibN (retK0 rfl (⟨s, _, rfl, St.keepP (L1 := L_s) ((hs5.fr L_s).fb b_s), o_s, ?_⟩)))
  · first | rw [if_pos hrow, if_pos hrow] | rw [if_neg hrow, if_neg hrow]
    unfold eraseD; rw [if_neg e0, if_neg e1, if_neg e2]
 have hrow : ¬ row = true := by have h9 := h4; simpa using h9
 refine WC.skip (hK3 _ _ (WC.r1 hs2 [] rfl (WC.block (WC.r1 hs2 [] rfl ?_))))
 refine WC.cq rfl (fun h27 qh27 => ?_) (fun h27 qh27 => ?_)
 ·have e0 : k = 0 := by have h9 := h27; simpa using h9
  refine WC.region (WL.r 3 hs2 [] rfl ?_)
  have hF28 := ((hs2.fr L_s).fb b_s)
  refine WL.cl Tryz.call236 rfl (k140_ _ _ _ _ _ s _ _ _ _ (St.headP hF28) o_s (St.ownP hF28) (St.nodupP hF28) ?_ ?_ ?_) ?_
  iterate 3 first | assumption | rfl | omega | (refine ⟨?_, ?_, ?_, ?_⟩ <;> omega)
  rintro _ whs29 ⟨r30, L31, rfl, hs29, ho32, hd33⟩
  replace hs29 := St.lendP hF28 hs29
  refine ⟨_, rfl, WL.nil (ibN (retK0 rfl (⟨r30, _, rfl, St.keepP (L1 := L31) ((hs29.fr L31).fb b_s), ho32, ?_⟩)))⟩
  · first | rw [if_pos hrow, if_pos hrow] | rw [if_neg hrow, if_neg hrow]
    unfold eraseD; rw [if_pos e0]; exact hd33
 have e0 : ¬ k = 0 := by have h9 := h27; simpa using h9
 refine WC.r1 hs2 [] rfl (WC.cq rfl (fun h34 qh34 => ?_) (fun h34 qh34 => ?_))
 ·have e1 : k = 1 := by have h9 := h34; simpa using h9
  refine WC.region (WL.r 4 hs2 [] rfl ?_)
  have hF35 := ((hs2.fr L_s).fb b_s)
  refine WL.cl Tryz.call236 rfl (k140_ _ _ _ _ _ s _ _ _ _ (St.headP hF35) o_s (St.ownP hF35) (St.nodupP hF35) ?_ ?_ ?_) ?_
  iterate 3 first | assumption | rfl | omega | (refine ⟨?_, ?_, ?_, ?_⟩ <;> omega)
  rintro _ whs36 ⟨r37, L38, rfl, hs36, ho39, hd40⟩
  replace hs36 := St.lendP hF35 hs36
  refine ⟨_, rfl, WL.nil (ibN (retK0 rfl (⟨r37, _, rfl, St.keepP (L1 := L38) ((hs36.fr L38).fb b_s), ho39, ?_⟩)))⟩
  · first | rw [if_pos hrow, if_pos hrow] | rw [if_neg hrow, if_neg hrow]
    unfold eraseD; rw [if_neg e0, if_pos e1]; exact hd40
 have e1 : ¬ k = 1 := by have h9 := h34; simpa using h9
 refine WC.r1 hs2 [] rfl (WC.cq rfl (fun h41 qh41 => ?_) (fun h41 qh41 => ?_))
 ·have e2 : k = 2 := by have h9 := h41; simpa using h9
  refine WC.region (WL.r 3 hs2 [] rfl ?_)
  have hF42 := ((hs2.fr L_s).fb b_s)
  refine WL.cl Tryz.call236 rfl (k140_ _ _ _ _ _ s _ _ _ _ (St.headP hF42) o_s (St.ownP hF42) (St.nodupP hF42) ?_ ?_ ?_) ?_
  iterate 3 first | assumption | rfl | omega | (refine ⟨?_, ?_, ?_, ?_⟩ <;> omega)
  rintro _ whs43 ⟨r44, L45, rfl, hs43, ho46, hd47⟩
  replace hs43 := St.lendP hF42 hs43
  refine ⟨_, rfl, WL.nil (ibN (retK0 rfl (⟨r44, _, rfl, St.keepP (L1 := L45) ((hs43.fr L45).fb b_s), ho46, ?_⟩)))⟩
  · first | rw [if_pos hrow, if_pos hrow] | rw [if_neg hrow, if_neg hrow]
    unfold eraseD; rw [if_neg e0, if_neg e1, if_pos e2]; exact hd47
 have e2 : ¬ k = 2 := by have h9 := h41; simpa using h9
 refine WC.skip (ibN (retK0 rfl (⟨s, _, rfl, St.keepP (L1 := L_s) ((hs2.fr L_s).fb b_s), o_s, ?_⟩)))
 · first | rw [if_pos hrow, if_pos hrow] | rw [if_neg hrow, if_neg hrow]
   unfold eraseD; rw [if_neg e0, if_neg e1, if_neg e2]
theorem k142_ (u_0 u_1 u_2 u_3 : Value) (b_p b_s : Nat) (s : ScrR) (m : Int) (w : World) (hp : w.heap[b_p]? = some (Obj.cells (List.toArray [.pointer (some ⟨b_s, 4, none⟩)]) 115 (0, 0))) (hq : w.heap[b_s]? = some (oS u_0 u_1 u_2 u_3 s)) (hne : b_p ≠ b_s) :
    Calls Tryz.prog 241 #[i64 m, .pointer (some ⟨b_p, 0, none⟩)] w fun e w' => e = .returned (.bool (decide (m = s.X))) ∧ St w [] [] w' := by
 refine enter 10 Tryz.func241 rfl Tryz.ntmps241 rfl rfl ?_
 have hs1 := St.take w [(b_p, Obj.cells (List.toArray [.pointer (some ⟨b_s, 4, none⟩)]) 115 (0, 0)), (b_s, oS u_0 u_1 u_2 u_3 s)] (fun p hp_ => by rcases List.mem_cons.1 hp_ with rfl | hp_; exact hp; obtain rfl := List.mem_singleton.1 hp_; exact hq) (by simp [hne])
 refine WC.r1 hs1 [] rfl (WC.r1 hs1 [0, 1] rfl (WC.ret (retV1 rfl (resV.tmp rfl) (⟨rfl, St.untouch hs1 (fun k hk => ?_) (fun p hp_ => ?_)⟩))))
 · rcases List.mem_cons.1 hk with rfl | hk
   · exact ⟨_, List.mem_cons_self⟩
   · obtain rfl := List.mem_singleton.1 hk
     exact ⟨_, List.mem_cons_of_mem _ List.mem_cons_self⟩
 · rcases List.mem_cons.1 hp_ with rfl | hp_
   · exact hp
   · obtain rfl := List.mem_singleton.1 hp_
     exact hq
theorem k143_ (u_0 u_1 u_2 u_3 : Value) (b_s : Nat) (s : ScrR) (L_s : Hp) (w : World) (hb_s : w.heap[b_s]? = some (oS u_0 u_1 u_2 u_3 s)) (o_s : ownScrR s L_s) (h_s : Hh w L_s) (hd_ : (b_s :: L_s.map (·.1)).Nodup) :
    Calls Tryz.prog 223 #[.pointer (some ⟨b_s, 4, none⟩)] w fun e w' => ∃ q r L1, e = .returned (.pointer (some ⟨b_s, q, none⟩)) ∧ St w (b_s :: L_s.map (·.1)) ([(b_s, oS u_0 u_1 u_2 u_3 r)] ++ L1) w' ∧ ownScrR r L1 ∧ r.dat = s.dat ∧ (q = 6 ∧ s.OnAlt = false ∨ q = 9 ∧ s.OnAlt = true) := by
 rcases Bool.eq_false_or_eq_true s.OnAlt with hx | hx
 · exact (k123_ u_0 u_1 u_2 u_3 b_s s L_s w hb_s o_s h_s hd_ hx).mono fun e w' ⟨r, L1, h1, h2, h3, h4⟩ => ⟨9, r, L1, h1, h2, h3, h4, .inr ⟨rfl, hx⟩⟩
 · exact (k122_ u_0 u_1 u_2 u_3 b_s s L_s w hb_s o_s h_s hd_ hx).mono fun e w' ⟨r, L1, h1, h2, h3, h4⟩ => ⟨6, r, L1, h1, h2, h3, h4, .inl ⟨rfl, hx⟩⟩
theorem k144_ (u_0 u_1 u_2 u_3 : Value) (b_s : Nat) (s : ScrR) (L_s : Hp) (A_l : Option Addr) (n_l c_l : Nat) (l : List Int) (b : Int) (w : World) (hb_s : w.heap[b_s]? = some (oS u_0 u_1 u_2 u_3 s)) (o_s : ownScrR s L_s) (h_s : Hh w L_s) (f_l : SlF encI w A_l n_l l) (hd_ : (b_s :: L_s.map (·.1)).Nodup) (s_l : 0 < n_l → (adr A_l).block ∉ (b_s :: L_s.map (·.1))) (hf : ScrFine s.dat) (hsm : smScr 1048576 s.dat) (hl : areArgs l = true) (hll : n_l ≤ 549755813888) :
    Calls Tryz.prog 189 #[.pointer (some ⟨b_s, 4, none⟩), .slice A_l n_l c_l, i64 b] w fun e w' => ∃ r L1, e = .returned (.tuple #[]) ∧ St w (b_s :: L_s.map (·.1)) ([(b_s, oS u_0 u_1 u_2 u_3 r)] ++ L1) w' ∧ ownScrR r L1 ∧ r.dat = csiD s.dat l b := by
 have hsmB : smScr 549755813888 s.dat := smScr_mono hsm (by decide)
 have ha0 := argI_pos (k := 0) (d := 1) hl (by omega)
 have ha1 := argI_bnd (k := 1) (d := 1) hl (by omega)
 have hk0 := argI_bnd (k := 0) (d := 0) hl (by omega)
 refine enter 196 Tryz.func189 rfl Tryz.ntmps189 rfl rfl ?_
 have hs1 := St.takeP w b_s _ L_s hb_s h_s hd_
 refine WC.sr (WL.bx hs1 rfl (fun b2 _ hs3 => WL.nil (WC.sr (WL.r 1 hs3 [] rfl ?_))))
 refine WL.cl Tryz.call233 rfl (k94_ _ _ _ _ _ _ (SlF.st f_l hs3 s_l) ?_) ?_
 · first | assumption | rfl | omega | (refine ⟨?_, ?_, ?_, ?_⟩ <;> omega) | (constructor <;> omega)
 rintro _ whs4 ⟨rfl, hs4⟩
 replace hs4 := hs3.call0 hs4
 refine ⟨_, rfl, WL.r 1 hs4 [] rfl (WL.cl Tryz.call233 rfl (k95_ _ _ _ _ _ _ (SlF.st f_l hs4 s_l) ?_) ?_)⟩
 · first | assumption | rfl | omega | (refine ⟨?_, ?_, ?_, ?_⟩ <;> omega) | (constructor <;> omega)
 rintro _ whs5 ⟨rfl, hs5⟩
 replace hs5 := hs4.call0 hs5
 refine ⟨_, rfl, WL.r 1 hs5 [] rfl (WL.cl Tryz.call233 rfl (k94_ _ _ _ _ _ _ (SlF.st f_l hs5 s_l) ?_) ?_)⟩
 · first | assumption | rfl | omega | (refine ⟨?_, ?_, ?_, ?_⟩ <;> omega) | (constructor <;> omega)
 rintro _ whs6 ⟨rfl, hs6⟩
 replace hs6 := hs5.call0 hs6
 refine ⟨_, rfl, WL.r 3 hs6 [] rfl (WL.nil (WC.seq (fun K7 hK7 => WC.sr (WL.r 4 hs6 [0] rfl ?_))))⟩
 have hF8 := ((hs6.fr L_s).fb b_s)
 refine WL.cl Tryz.call234 rfl (k135_ _ _ _ _ _ s _ _ _ _ _ (St.headP hF8) o_s (St.ownP hF8) (St.nodupP hF8) ?_ ?_ ?_) ?_
 iterate 3 first | assumption | rfl | omega | (refine ⟨?_, ?_, ?_, ?_⟩ <;> omega) | (constructor <;> omega)
 rintro _ whs9 ⟨r10, L11, rfl, hs9, ho12, hd13⟩
 replace hs9 := St.lendP hF8 hs9
 refine ⟨_, rfl, ?_⟩
 have hs14 := ((hs9.fb b2).fb b_s)
 refine WL.nil (WC.cq rfl (fun h15 qh15 => ?_) (fun h15 qh15 => ?_))
 ·have hmv : isMove b = true := by have h9 := h15; simpa using h9
  refine WC.ret (tkR ?_)
  clear hK7
  refine retK0' rfl (⟨r10, _, rfl, St.keepP (L1 := L11) ((hs14.fr L11).fb b_s), ho12, ?_⟩)
  · exact hd13.trans (csiD_move hmv).symm
 have hmv : isMove b = false := by have h9 := h15; simpa using h9
 obtain ⟨e65, e66, e67, e68, e71, e100, e7⟩ := isMove_no hmv
 have hr1 : r10.dat = s.dat := hd13.trans (moveByD_no hmv)
 have hs1 : smScr 549755813888 r10.dat := hr1.symm ▸ hsmB
 refine WC.skip (hK7 _ _ (WC.sr (WL.r 1 hs14 [1] rfl ?_)))
 have hF16 := ((hs14.fr L11).fb b_s)
 refine WL.cl Tryz.call223 rfl (k143_ _ _ _ _ _ r10 _ _ (St.headP hF16) ho12 (St.ownP hF16) (St.nodupP hF16)) ?_
 rintro _ whs17 ⟨q22, r18, L19, rfl, hs17, ho20, hd21, hO23⟩
 replace hs17 := St.lendP hF16 hs17
 refine ⟨_, rfl, ?_⟩
 have hs24 := ((hs17.fb b2).fb b_s)
 have hr2 : r18.dat = s.dat := hd21.trans hr1
 have hf2 : ScrFine r18.dat := hr2.symm ▸ hf
 have hsm2 : smScr 1048576 r18.dat := hr2.symm ▸ hsm
 have hsB2 : smScr 549755813888 r18.dat := hr2.symm ▸ hsmB
 skip
 have hwh2 : (1 ≤ r18.W ∧ r18.W ≤ 120) ∧ (1 ≤ r18.H ∧ r18.H ≤ 120) ∧ 1 ≤ r18.W * r18.H ∧ r18.W * r18.H ≤ 4000 := isSize_bnd hf2.size
 have hxy2 : (0 ≤ r18.X ∧ r18.X < r18.W) ∧ 0 ≤ r18.Y ∧ r18.Y < r18.H := hf2.pos
 have hrg2 : (0 ≤ r18.Top ∧ r18.Top ≤ r18.Bot) ∧ r18.Bot < r18.H := ⟨hf2.reg.1, hf2.reg.2.1⟩
 have hv0 : 0 ≤ r18.Y * r18.W := Int.mul_nonneg (by omega) (by omega)
 have hv1 : (r18.Y + 1) * r18.W = r18.Y * r18.W + r18.W := by rw [Int.add_mul, Int.one_mul]
 have hv2 : (r18.Y + 1) * r18.W ≤ r18.H * r18.W := Int.mul_le_mul_of_nonneg_right (by omega) (by omega)
 rw [Int.mul_comm r18.H r18.W] at hv2
 have hgs2 : gridOk (shownD r18.dat) = true := hf2.shown.1
 have hsh2 : (shownD r18.dat).W = r18.W ∧ (shownD r18.dat).H = r18.H := hf2.shown.2
 have hts2 : 0 ≤ r18.Top ∧ r18.Top ≤ r18.Bot ∧ r18.Bot < (shownD r18.dat).H := by rw [hsh2.2]; omega
 have hTs2 : r18.Tabs.xs.length ≤ 1048576 := hsm2.2.2.1
 refine WL.r 1 hs24 [] rfl (WL.nil (WC.r1 hs24 [] rfl (WC.block (WC.seq (fun K25 hK25 => WC.r1 hs24 [] rfl ?_)))))
 refine WC.cq rfl (fun h26 qh26 => ?_) (fun h26 qh26 => ?_)
 ·have e74 : b = 74 := by have h9 := h26; simpa using h9
  refine WC.skip (hK25 _ _ (WC.condT rfl h26 (WC.region (WL.r 4 hs24 [1] rfl ?_))))
  have hF28 := ((hs24.fr L19).fb b_s)
  refine WL.cl Tryz.call235 rfl (k141_ _ _ _ _ _ r18 _ _ _ _ (St.headP hF28) ho20 (St.ownP hF28) (St.nodupP hF28) ?_ ?_) ?_
  iterate 2 first | assumption | rfl | omega | (refine ⟨?_, ?_, ?_, ?_⟩ <;> omega) | (constructor <;> omega)
  rintro _ whs29 ⟨r30, L31, rfl, hs29, ho32, hd33⟩
  replace hs29 := St.lendP hF28 hs29
  refine ⟨_, rfl, ?_⟩
  have hs34 := ((hs29.fb b2).fb b_s)
  refine WL.nil (ibN (retK0 rfl (⟨r30, _, rfl, St.keepP (L1 := L31) ((hs34.fr L31).fb b_s), ho32, ?_⟩)))
  · rw [← hr2]; unfold csiD; rw [if_neg e65, if_neg e66, if_neg e67, if_neg e68, if_neg e71, if_neg e100, if_neg e7, if_pos e74]; exact hd33.trans (by rw [if_neg (by simp; omega), if_neg (by simp; omega)]; rfl)
 have e74 : ¬ b = 74 := by have h9 := h26; simpa using h9
 refine WC.region (WL.r 2 hs24 [] rfl (WL.nil (hK25 _ _ ?_)))
 refine WC.cq rfl (fun h35 qh35 => ?_) (fun h35 qh35 => ?_)
 ·have e75 : b = 75 := by have h9 := h35; simpa using h9
  refine WC.region (WL.r 4 hs24 [1] rfl ?_)
  have hF36 := ((hs24.fr L19).fb b_s)
  refine WL.cl Tryz.call235 rfl (k141_ _ _ _ _ _ r18 _ _ _ _ (St.headP hF36) ho20 (St.ownP hF36) (St.nodupP hF36) ?_ ?_) ?_
  iterate 2 first | assumption | rfl | omega | (refine ⟨?_, ?_, ?_, ?_⟩ <;> omega) | (constructor <;> omega)
  rintro _ whs37 ⟨r38, L39, rfl, hs37, ho40, hd41⟩
  replace hs37 := St.lendP hF36 hs37
  refine ⟨_, rfl, ?_⟩
  have hs42 := ((hs37.fb b2).fb b_s)
  refine WL.nil (ibN (retK0 rfl (⟨r38, _, rfl, St.keepP (L1 := L39) ((hs42.fr L39).fb b_s), ho40, ?_⟩)))
  · rw [← hr2]; unfold csiD; rw [if_neg e65, if_neg e66, if_neg e67, if_neg e68, if_neg e71, if_neg e100, if_neg e7, if_neg e74, if_pos e75]; exact hd41.trans (by rw [if_pos (by simp; omega), if_pos (by simp; omega)]; rfl)
 have e75 : ¬ b = 75 := by have h9 := h35; simpa using h9
 refine WC.r1 hs24 [] rfl (WC.cq rfl (fun h43 qh43 => ?_) (fun h43 qh43 => ?_))
 ·have e88 : b = 88 := by have h9 := h43; simpa using h9
  refine WC.q1 hs24 [1, 0, 1, 0, 1, 0] rfl (fun _ hs44 => WC.rG 16 (hs44.d1.rm L19) hs44 hs44 (fun _ hs45 => ?_))
  refine WG.rn [0, 1, 2, 3, 4, 5, 6, 7, 8, 9, 10, 11, 12, 13, 14, 15] hs45 [1, 1, 0, 1, 0] rfl rfl (WG.oK rfl ?_)
  have hF46 := ((hs45.fr L19).fb b_s)
  refine WL.cl Tryz.call236 rfl (k140_ _ _ _ _ _ r18 _ _ _ _ (St.headP hF46) ho20 (St.ownP hF46) (St.nodupP hF46) ?_ ?_ ?_) ?_
  iterate 3 first | assumption | rfl | omega | (refine ⟨?_, ?_, ?_, ?_⟩ <;> omega) | (constructor <;> omega)
  rintro _ whs47 ⟨r48, L49, rfl, hs47, ho50, hd51⟩
  replace hs47 := St.lendP hF46 hs47
  refine ⟨_, rfl, ?_⟩
  have hs52 := ((hs47.fb b2).fb b_s)
  refine WL.nil ⟨(hs52.d1.rm L49), WH.dn (ibN (retK0 rfl (⟨r48, _, rfl, St.keepP (L1 := L49) ((hs52.fr L49).fb b_s), ho50, ?_⟩)))⟩
  · rw [← hr2]; unfold csiD; rw [if_neg e65, if_neg e66, if_neg e67, if_neg e68, if_neg e71, if_neg e100, if_neg e7, if_neg e74, if_neg e75, if_pos e88]; exact hd51
 have e88 : ¬ b = 88 := by have h9 := h43; simpa using h9
 refine WC.r1 hs24 [] rfl (WC.cq rfl (fun h53 qh53 => ?_) (fun h53 qh53 => ?_))
 ·have e64 : b = 64 := by have h9 := h53; simpa using h9
  rcases hO23 with ⟨rfl, hx1⟩ | ⟨rfl, hx1⟩
  ·have hx2 : r18.OnAlt = false := (congrArg ScrD.OnAlt hd21).trans hx1
   have hfd : shownD r18.dat = r18.Main.dat := by unfold shownD; rw [if_neg (show ¬ r18.dat.OnAlt = true from by show ¬ r18.OnAlt = true; rw [hx2]; decide)]; rfl
   have hgd2 : gridOk r18.Main.dat = true := hfd ▸ hgs2
   have hgw2 : r18.Main.W = r18.W ∧ r18.Main.H = r18.H := ⟨(congrArg GridD.W hfd).symm.trans hsh2.1, (congrArg GridD.H hfd).symm.trans hsh2.2⟩
   refine WC.rG 15 hs24.d1 hs24 hs24 (fun _ hs54 => ?_)
   refine WG.rn [0, 1, 2, 3, 4, 5, 6, 7, 8, 9, 10, 11, 12] hs54 [0, 1, 0, 1, 0] rfl rfl (WG.o1 13 rfl rfl ?_)
   refine WL.cl Tryz.call237 rfl (k96_ r18.Main _ _ _ _ (ownScrR.ok (B := 549755813888) ho20 (hs54.ow L19) (by rw [hd21]; assumption)).Main ?_ ?_ ?_ ?_) ?_
   iterate 4 first | assumption | rfl | omega | (refine ⟨?_, ?_, ?_, ?_⟩ <;> omega) | (constructor <;> omega)
   rintro _ whs55 ⟨r56, L1_57, rfl, hs55, ho58, hd59⟩
   replace hs55 := hs54.callF hs55
   refine ⟨_, rfl, ?_⟩
   replace hs55 := St.back [_, _] hs55
   have hsf := hd59
   refine WL.nil ⟨(hs55.rm L1_57), WG.rn [14] (hs55.rm L1_57) [] rfl rfl (WG.oK rfl (WL.st tbk hs55 0 rfl rfl (fun _ hs60 => WL.nil ⟨(hs60.d1.rm L1_57), WH.dn (ibN (retK0 rfl ?_))⟩)))⟩
   obtain ⟨L61, L62, L63, L64, hs69, ho65, ho66, ho67, ho68⟩ := ownScrR.op hs60 ho20
   have hs70 := ((hs69.fb b2).fb b_s)
   obtain ⟨L72, hs71, ho73⟩ := ownScrR.fl hs70 ho58 ho66 ho67 ho68
   have hs74 := ((hs71.fb b2).fb b_s)
   refine ownScrR.retp4 rfl ((hs74.fr L72).fb b_s) ho73 ?_
   · rw [← hr2]; unfold csiD; rw [if_neg e65, if_neg e66, if_neg e67, if_neg e68, if_neg e71, if_neg e100, if_neg e7, if_neg e74, if_neg e75, if_neg e88, if_pos e64]; show _ = putD r18.dat (gShift (shownD r18.dat) r18.X r18.Y (argI l 0 1)); rw [show putD r18.dat (gShift (shownD r18.dat) r18.X r18.Y (argI l 0 1)) = { r18.dat with Main := gShift r18.Main.dat r18.X r18.Y (argI l 0 1) } from by rw [hfd]; unfold putD; rw [if_neg (show ¬ r18.dat.OnAlt = true from by show ¬ r18.OnAlt = true; rw [hx2]; decide)]]; exact ScrD.ext' rfl rfl (hsf) rfl rfl rfl rfl rfl rfl rfl rfl rfl rfl rfl rfl rfl rfl rfl rfl
  have hx2 : r18.OnAlt = true := (congrArg ScrD.OnAlt hd21).trans hx1
  have hfd : shownD r18.dat = r18.Alt.dat := by unfold shownD; rw [if_pos (show  r18.dat.OnAlt = true from by show  r18.OnAlt = true; rw [hx2])]; rfl
  have hgd2 : gridOk r18.Alt.dat = true := hfd ▸ hgs2
  have hgw2 : r18.Alt.W = r18.W ∧ r18.Alt.H = r18.H := ⟨(congrArg GridD.W hfd).symm.trans hsh2.1, (congrArg GridD.H hfd).symm.trans hsh2.2⟩
  refine WC.rG 15 hs24.d1 hs24 hs24 (fun _ hs75 => ?_)
  refine WG.rn [0, 1, 2, 3, 4, 5, 6, 7, 8, 9, 10, 11, 12] hs75 [0, 1, 0, 1, 0] rfl rfl (WG.o1 13 rfl rfl ?_)
  refine WL.cl Tryz.call237 rfl (k96_ r18.Alt _ _ _ _ (ownScrR.ok (B := 549755813888) ho20 (hs75.ow L19) (by rw [hd21]; assumption)).Alt ?_ ?_ ?_ ?_) ?_
  iterate 4 first | assumption | rfl | omega | (refine ⟨?_, ?_, ?_, ?_⟩ <;> omega) | (constructor <;> omega)
  rintro _ whs76 ⟨r77, L1_78, rfl, hs76, ho79, hd80⟩
  replace hs76 := hs75.callF hs76
  refine ⟨_, rfl, ?_⟩
  replace hs76 := St.back [_, _] hs76
  have hsf := hd80
  refine WL.nil ⟨(hs76.rm L1_78), WG.rn [14] (hs76.rm L1_78) [] rfl rfl (WG.oK rfl (WL.st tbk hs76 0 rfl rfl (fun _ hs81 => WL.nil ⟨(hs81.d1.rm L1_78), WH.dn (ibN (retK0 rfl ?_))⟩)))⟩
  obtain ⟨L82, L83, L84, L85, hs90, ho86, ho87, ho88, ho89⟩ := ownScrR.op hs81 ho20
  have hs91 := ((hs90.fb b2).fb b_s)
  obtain ⟨L93, hs92, ho94⟩ := ownScrR.fl hs91 ho86 ho79 ho88 ho89
  have hs95 := ((hs92.fb b2).fb b_s)
  refine ownScrR.retp4 rfl ((hs95.fr L93).fb b_s) ho94 ?_
  · rw [← hr2]; unfold csiD; rw [if_neg e65, if_neg e66, if_neg e67, if_neg e68, if_neg e71, if_neg e100, if_neg e7, if_neg e74, if_neg e75, if_neg e88, if_pos e64]; show _ = putD r18.dat (gShift (shownD r18.dat) r18.X r18.Y (argI l 0 1)); rw [show putD r18.dat (gShift (shownD r18.dat) r18.X r18.Y (argI l 0 1)) = { r18.dat with Alt := gShift r18.Alt.dat r18.X r18.Y (argI l 0 1) } from by rw [hfd]; unfold putD; rw [if_pos (show  r18.dat.OnAlt = true from by show  r18.OnAlt = true; rw [hx2])]]; exact ScrD.ext' rfl rfl rfl (hsf) rfl rfl rfl rfl rfl rfl rfl rfl rfl rfl rfl rfl rfl rfl rfl
 have e64 : ¬ b = 64 := by have h9 := h53; simpa using h9
 refine WC.r1 hs24 [] rfl (WC.cq rfl (fun h96 qh96 => ?_) (fun h96 qh96 => ?_))
 ·have e80 : b = 80 := by have h9 := h96; simpa using h9
  rcases hO23 with ⟨rfl, hx1⟩ | ⟨rfl, hx1⟩
  ·have hx2 : r18.OnAlt = false := (congrArg ScrD.OnAlt hd21).trans hx1
   have hfd : shownD r18.dat = r18.Main.dat := by unfold shownD; rw [if_neg (show ¬ r18.dat.OnAlt = true from by show ¬ r18.OnAlt = true; rw [hx2]; decide)]; rfl
   have hgd2 : gridOk r18.Main.dat = true := hfd ▸ hgs2
   have hgw2 : r18.Main.W = r18.W ∧ r18.Main.H = r18.H := ⟨(congrArg GridD.W hfd).symm.trans hsh2.1, (congrArg GridD.H hfd).symm.trans hsh2.2⟩
   refine WC.rG 16 hs24.d1 hs24 hs24 (fun _ hs97 => ?_)
   refine WG.rn [0, 1, 2, 3, 4, 5, 6, 7, 8, 9, 10, 11, 12, 13] hs97 [0, 1, 0, 1, 0] rfl rfl (WG.o1 14 rfl rfl ?_)
   refine WL.cl Tryz.call237 rfl (k96_ r18.Main _ _ _ _ (ownScrR.ok (B := 549755813888) ho20 (hs97.ow L19) (by rw [hd21]; assumption)).Main ?_ ?_ ?_ ?_) ?_
   iterate 4 first | assumption | rfl | omega | (refine ⟨?_, ?_, ?_, ?_⟩ <;> omega) | (constructor <;> omega)
   rintro _ whs98 ⟨r99, L1_100, rfl, hs98, ho101, hd102⟩
   replace hs98 := hs97.callF hs98
   refine ⟨_, rfl, ?_⟩
   replace hs98 := St.back [_, _] hs98
   have hsf := hd102
   refine WL.nil ⟨(hs98.rm L1_100), WG.rn [15] (hs98.rm L1_100) [] rfl rfl (WG.oK rfl (WL.st tbk hs98 0 rfl rfl (fun _ hs103 => WL.nil ⟨(hs103.d1.rm L1_100), WH.dn (ibN (retK0 rfl ?_))⟩)))⟩
   obtain ⟨L104, L105, L106, L107, hs112, ho108, ho109, ho110, ho111⟩ := ownScrR.op hs103 ho20
   have hs113 := ((hs112.fb b2).fb b_s)
   obtain ⟨L115, hs114, ho116⟩ := ownScrR.fl hs113 ho101 ho109 ho110 ho111
   have hs117 := ((hs114.fb b2).fb b_s)
   refine ownScrR.retp4 rfl ((hs117.fr L115).fb b_s) ho116 ?_
   · rw [← hr2]; unfold csiD; rw [if_neg e65, if_neg e66, if_neg e67, if_neg e68, if_neg e71, if_neg e100, if_neg e7, if_neg e74, if_neg e75, if_neg e88, if_neg e64, if_pos e80]; show _ = putD r18.dat (gShift (shownD r18.dat) r18.X r18.Y (-argI l 0 1)); rw [show putD r18.dat (gShift (shownD r18.dat) r18.X r18.Y (-argI l 0 1)) = { r18.dat with Main := gShift r18.Main.dat r18.X r18.Y (-argI l 0 1) } from by rw [hfd]; unfold putD; rw [if_neg (show ¬ r18.dat.OnAlt = true from by show ¬ r18.OnAlt = true; rw [hx2]; decide)]]; exact ScrD.ext' rfl rfl (hsf) rfl rfl rfl rfl rfl rfl rfl rfl rfl rfl rfl rfl rfl rfl rfl rfl
  have hx2 : r18.OnAlt = true := (congrArg ScrD.OnAlt hd21).trans hx1
  have hfd : shownD r18.dat = r18.Alt.dat := by unfold shownD; rw [if_pos (show  r18.dat.OnAlt = true from by show  r18.OnAlt = true; rw [hx2])]; rfl
  have hgd2 : gridOk r18.Alt.dat = true := hfd ▸ hgs2
  have hgw2 : r18.Alt.W = r18.W ∧ r18.Alt.H = r18.H := ⟨(congrArg GridD.W hfd).symm.trans hsh2.1, (congrArg GridD.H hfd).symm.trans hsh2.2⟩
  refine WC.rG 16 hs24.d1 hs24 hs24 (fun _ hs118 => ?_)
  refine WG.rn [0, 1, 2, 3, 4, 5, 6, 7, 8, 9, 10, 11, 12, 13] hs118 [0, 1, 0, 1, 0] rfl rfl (WG.o1 14 rfl rfl ?_)
  refine WL.cl Tryz.call237 rfl (k96_ r18.Alt _ _ _ _ (ownScrR.ok (B := 549755813888) ho20 (hs118.ow L19) (by rw [hd21]; assumption)).Alt ?_ ?_ ?_ ?_) ?_
  iterate 4 first | assumption | rfl | omega | (refine ⟨?_, ?_, ?_, ?_⟩ <;> omega) | (constructor <;> omega)
  rintro _ whs119 ⟨r120, L1_121, rfl, hs119, ho122, hd123⟩
  replace hs119 := hs118.callF hs119
  refine ⟨_, rfl, ?_⟩
  replace hs119 := St.back [_, _] hs119
  have hsf := hd123
  refine WL.nil ⟨(hs119.rm L1_121), WG.rn [15] (hs119.rm L1_121) [] rfl rfl (WG.oK rfl (WL.st tbk hs119 0 rfl rfl (fun _ hs124 => WL.nil ⟨(hs124.d1.rm L1_121), WH.dn (ibN (retK0 rfl ?_))⟩)))⟩
  obtain ⟨L125, L126, L127, L128, hs133, ho129, ho130, ho131, ho132⟩ := ownScrR.op hs124 ho20
  have hs134 := ((hs133.fb b2).fb b_s)
  obtain ⟨L136, hs135, ho137⟩ := ownScrR.fl hs134 ho129 ho122 ho131 ho132
  have hs138 := ((hs135.fb b2).fb b_s)
  refine ownScrR.retp4 rfl ((hs138.fr L136).fb b_s) ho137 ?_
  · rw [← hr2]; unfold csiD; rw [if_neg e65, if_neg e66, if_neg e67, if_neg e68, if_neg e71, if_neg e100, if_neg e7, if_neg e74, if_neg e75, if_neg e88, if_neg e64, if_pos e80]; show _ = putD r18.dat (gShift (shownD r18.dat) r18.X r18.Y (-argI l 0 1)); rw [show putD r18.dat (gShift (shownD r18.dat) r18.X r18.Y (-argI l 0 1)) = { r18.dat with Alt := gShift r18.Alt.dat r18.X r18.Y (-argI l 0 1) } from by rw [hfd]; unfold putD; rw [if_pos (show  r18.dat.OnAlt = true from by show  r18.OnAlt = true; rw [hx2])]]; exact ScrD.ext' rfl rfl rfl (hsf) rfl rfl rfl rfl rfl rfl rfl rfl rfl rfl rfl rfl rfl rfl rfl
 have e80 : ¬ b = 80 := by have h9 := h96; simpa using h9
 refine WC.seq (fun K139 hK139 => WC.r1 hs24 [] rfl ?_)
 refine WC.cq rfl (fun h140 qh140 => ?_) (fun h140 qh140 => ?_)
 ·have e76 : b = 76 := by have h9 := h140; simpa using h9
  refine WC.skip (hK139 _ _ (WC.condT rfl h140 (WC.sq1 hs24 (WQ.r 12 [1, 0, 1, 0, 1, 0] rfl ?_))))
  refine WQ.call rfl rfl rfl (fun w_ hs_ => (Run.call Tryz.call97 rfl rfl rfl)) (fun w_ hs_ => (k0_ _ _ _ _).mono fun e_ w_ h_ => ⟨h_.1, (hs_ : St _ _ _ _).call0 h_.2⟩) ?_
  refine WQ.nil (fun _ (hs142 : St _ _ _ _) => ?_)
  refine WC.cq rfl (fun h143 qh143 => ?_) (fun h143 qh143 => ?_)
  ·have hwi : within r18.dat.Y r18.dat.Top r18.dat.Bot = true := h143
   have hwj := within_iff.1 hwi
   have htl : 0 ≤ r18.Y ∧ r18.Y ≤ r18.Bot ∧ r18.Bot < (shownD r18.dat).H := by rw [hsh2.2]; simp only [ScrR.dat] at hwj; omega
   refine WC.seq (fun K144 hK144 => WC.rG 19 (hs142.d1.rm L19) hs142 hs142 (fun _ hs145 => ?_))
   refine WG.rn [0, 1, 2, 3, 4, 5, 6, 7, 8, 10, 11, 13, 16, 17] hs145 [1, 1, 0, 1, 0] rfl rfl (WG.o1 9 rfl rfl (WL.makeMap hs145 rfl rfl rfl rfl (fun b146 whs147 hs147 => WL.nil ⟨hs147.d1, ?_⟩)))
   refine WG.all [12, 14] (by kernel_rfl) rfl (WGs.cons (i := 12) rfl rfl ?_ (WGs.cons (i := 14) rfl rfl ?_ WGs.nil))
   ·refine WL.mapPut hs147 0 rfl Tryz.underlying230 Tryz.underlying4 rfl rfl rfl rfl rfl rfl rfl ?_ ?_ (fun whs148 hs148 => ?_)
    · trivial
    · rfl
    refine WL.nil ⟨hs148.d1, WG.o1 14 rfl rfl (WL.mapPut hs148 0 rfl Tryz.underlying230 Tryz.underlying4 rfl rfl rfl rfl rfl rfl rfl ?_ ?_ (fun whs149 hs149 => ?_))⟩
    · trivial
    · rfl
    refine WL.nil ⟨hs149.d1, WG.rn [15] hs149.d1 [] rfl rfl (WG.o1 18 rfl rfl (WL.val rfl rfl rfl (Run.mapGet (v := i64 (-argI l 0 1)) Tryz.underlying230 Tryz.underlying4 rfl rfl rfl (hs149.own _ (nthL_mem (i := 0) rfl)).1 ?_ ?_) ?_))⟩
    · trivial
    · rw [show decide (b = 76) = true from decide_eq_true e76]; exact ⟨_, rfl⟩
    refine WL.nil ⟨hs149.d1, WG.oK rfl ?_⟩
    have hF150 := ((hs149.fr L19).fb b_s)
    refine WL.cl Tryz.call210 rfl (k127_ _ _ _ _ _ r18 _ _ _ _ _ (St.headP hF150) ho20 (St.ownP hF150) (St.nodupP hF150) ?_ ?_ ?_ ?_) ?_
    iterate 4 first | assumption | rfl | omega | (refine ⟨?_, ?_, ?_, ?_⟩ <;> omega) | (constructor <;> omega)
    rintro _ whs151 ⟨r152, L153, rfl, hs151, ho154, hd155⟩
    replace hs151 := St.lendP hF150 hs151
    refine ⟨_, rfl, ?_⟩
    have hs156 := (((hs151.fb b2).fb b146).fb b_s)
    have hrl := hd155
    refine WL.nil ⟨(hs156.d1.d1.rm L153), WH.dn (hK144 _ _ (WC.rG 4 hs156.d1 hs156 hs156 (fun _ hs157 => ?_)))⟩
    refine WG.rn [0, 2, 3] hs157 [2] rfl rfl (WG.all [1, 4] (by kernel_rfl) rfl (WGs.cons (i := 1) rfl rfl ?_ (WGs.consK rfl ?_ WGs.nil)))
    ·refine WL.r 1 hs157 [2] rfl (WL.nil ⟨hs157, WG.oK rfl (WL.st tbk hs157 0 rfl rfl (fun _ hs158 => WL.nil ⟨hs158.d1, WH.rn [5, 6] hs158.d1 [] rfl rfl (WH.o1 7 rfl (WL.st tbk hs158 0 rfl rfl (fun _ hs159 => ?_)))⟩))⟩)
     refine WL.nil ⟨hs159.d1, WH.dn (ibN (retK0 rfl ?_))⟩
     obtain ⟨L160, L161, L162, L163, hs168, ho164, ho165, ho166, ho167⟩ := ownScrR.op hs159 ho154
     have hs169 := (((hs168.fb b2).fb b146).fb b_s)
     obtain ⟨L171, hs170, ho172⟩ := ownScrR.fl hs169 ho164 ho165 ho166 ho167
     have hs173 := (((hs170.fb b2).fb b146).fb b_s)
     refine ownScrR.retp4 rfl ((hs173.fr L171).fb b_s) ho172 ?_
     · rw [← hr2]; unfold csiD; rw [if_neg e65, if_neg e66, if_neg e67, if_neg e68, if_neg e71, if_neg e100, if_neg e7, if_neg e74, if_neg e75, if_neg e88, if_neg e64, if_neg e80, if_pos e76]; unfold linesD; rw [if_pos hwi]; show _ = ({ rollD r18.dat r18.Y r18.Bot (-argI l 0 1) with X := 0, Wrap := false } : ScrD); rw [← hrl]; rfl
    refine WL.st tbk hs157 0 rfl rfl (fun _ hs174 => WL.nil ⟨hs174.d1, WH.rn [1, 5, 6] hs174.d1 [1] rfl rfl (WH.o1 7 rfl (WL.st tbk hs174 0 rfl rfl (fun _ hs175 => WL.nil ⟨hs175.d1, WH.dn (ibN ?_)⟩)))⟩)
    refine retK0 rfl ?_
    obtain ⟨L176, L177, L178, L179, hs184, ho180, ho181, ho182, ho183⟩ := ownScrR.op hs175 ho154
    have hs185 := (((hs184.fb b2).fb b146).fb b_s)
    obtain ⟨L187, hs186, ho188⟩ := ownScrR.fl hs185 ho180 ho181 ho182 ho183
    have hs189 := (((hs186.fb b2).fb b146).fb b_s)
    refine ownScrR.retp4 rfl ((hs189.fr L187).fb b_s) ho188 ?_
    · rw [← hr2]; unfold csiD; rw [if_neg e65, if_neg e66, if_neg e67, if_neg e68, if_neg e71, if_neg e100, if_neg e7, if_neg e74, if_neg e75, if_neg e88, if_neg e64, if_neg e80, if_pos e76]; unfold linesD; rw [if_pos hwi]; show _ = ({ rollD r18.dat r18.Y r18.Bot (-argI l 0 1) with X := 0, Wrap := false } : ScrD); rw [← hrl]; rfl
   refine WL.mapPut hs147 0 rfl Tryz.underlying230 Tryz.underlying4 rfl rfl rfl rfl rfl rfl rfl ?_ ?_ (fun whs190 hs190 => ?_)
   · trivial
   · rfl
   refine WL.nil ⟨hs190.d1, WG.o1 12 rfl rfl (WL.mapPut hs190 0 rfl Tryz.underlying230 Tryz.underlying4 rfl rfl rfl rfl rfl rfl rfl ?_ ?_ (fun whs191 hs191 => ?_))⟩
   · trivial
   · rfl
   refine WL.nil ⟨hs191.d1, WG.rn [15] hs191.d1 [] rfl rfl (WG.o1 18 rfl rfl (WL.val rfl rfl rfl (Run.mapGet (v := i64 (-argI l 0 1)) Tryz.underlying230 Tryz.underlying4 rfl rfl rfl (hs191.own _ (nthL_mem (i := 0) rfl)).1 ?_ ?_) ?_))⟩
   · trivial
   · rw [show decide (b = 76) = true from decide_eq_true e76]; exact ⟨_, rfl⟩
   refine WL.nil ⟨hs191.d1, WG.oK rfl ?_⟩
   have hF192 := ((hs191.fr L19).fb b_s)
   refine WL.cl Tryz.call210 rfl (k127_ _ _ _ _ _ r18 _ _ _ _ _ (St.headP hF192) ho20 (St.ownP hF192) (St.nodupP hF192) ?_ ?_ ?_ ?_) ?_
   iterate 4 first | assumption | rfl | omega | (refine ⟨?_, ?_, ?_, ?_⟩ <;> omega) | (constructor <;> omega)
   rintro _ whs193 ⟨r194, L195, rfl, hs193, ho196, hd197⟩
   replace hs193 := St.lendP hF192 hs193
   refine ⟨_, rfl, ?_⟩
   have hs198 := (((hs193.fb b2).fb b146).fb b_s)
   have hrl := hd197
   refine WL.nil ⟨(hs198.d1.d1.rm L195), WH.dn (hK144 _ _ (WC.rG 4 hs198.d1 hs198 hs198 (fun _ hs199 => ?_)))⟩
   refine WG.rn [0, 2, 3] hs199 [2] rfl rfl (WG.all [1, 4] (by kernel_rfl) rfl (WGs.cons (i := 1) rfl rfl ?_ (WGs.consK rfl ?_ WGs.nil)))
   ·refine WL.r 1 hs199 [2] rfl (WL.nil ⟨hs199, WG.oK rfl (WL.st tbk hs199 0 rfl rfl (fun _ hs200 => WL.nil ⟨hs200.d1, WH.rn [5, 6] hs200.d1 [] rfl rfl (WH.o1 7 rfl (WL.st tbk hs200 0 rfl rfl (fun _ hs201 => ?_)))⟩))⟩)
    refine WL.nil ⟨hs201.d1, WH.dn (ibN (retK0 rfl ?_))⟩
    obtain ⟨L202, L203, L204, L205, hs210, ho206, ho207, ho208, ho209⟩ := ownScrR.op hs201 ho196
    have hs211 := (((hs210.fb b2).fb b146).fb b_s)
    obtain ⟨L213, hs212, ho214⟩ := ownScrR.fl hs211 ho206 ho207 ho208 ho209
    have hs215 := (((hs212.fb b2).fb b146).fb b_s)
    refine ownScrR.retp4 rfl ((hs215.fr L213).fb b_s) ho214 ?_
    · rw [← hr2]; unfold csiD; rw [if_neg e65, if_neg e66, if_neg e67, if_neg e68, if_neg e71, if_neg e100, if_neg e7, if_neg e74, if_neg e75, if_neg e88, if_neg e64, if_neg e80, if_pos e76]; unfold linesD; rw [if_pos hwi]; show _ = ({ rollD r18.dat r18.Y r18.Bot (-argI l 0 1) with X := 0, Wrap := false } : ScrD); rw [← hrl]; rfl
   refine WL.st tbk hs199 0 rfl rfl (fun _ hs216 => WL.nil ⟨hs216.d1, WH.rn [1, 5, 6] hs216.d1 [1] rfl rfl (WH.o1 7 rfl (WL.st tbk hs216 0 rfl rfl (fun _ hs217 => WL.nil ⟨hs217.d1, WH.dn (ibN ?_)⟩)))⟩)
   refine retK0 rfl ?_
   obtain ⟨L218, L219, L220, L221, hs226, ho222, ho223, ho224, ho225⟩ := ownScrR.op hs217 ho196
   have hs227 := (((hs226.fb b2).fb b146).fb b_s)
   obtain ⟨L229, hs228, ho230⟩ := ownScrR.fl hs227 ho222 ho223 ho224 ho225
   have hs231 := (((hs228.fb b2).fb b146).fb b_s)
   refine ownScrR.retp4 rfl ((hs231.fr L229).fb b_s) ho230 ?_
   · rw [← hr2]; unfold csiD; rw [if_neg e65, if_neg e66, if_neg e67, if_neg e68, if_neg e71, if_neg e100, if_neg e7, if_neg e74, if_neg e75, if_neg e88, if_neg e64, if_neg e80, if_pos e76]; unfold linesD; rw [if_pos hwi]; show _ = ({ rollD r18.dat r18.Y r18.Bot (-argI l 0 1) with X := 0, Wrap := false } : ScrD); rw [← hrl]; rfl
  have hwi : ¬ within r18.dat.Y r18.dat.Top r18.dat.Bot = true := by have h9 := h143; show ¬ within r18.Y r18.Top r18.Bot = true; rw [h9]; decide
  refine WC.skip (ibN (retK0 rfl (⟨r18, _, rfl, St.keepP (L1 := L19) ((hs142.fr L19).fb b_s), ho20, ?_⟩)))
  · rw [← hr2]; unfold csiD; rw [if_neg e65, if_neg e66, if_neg e67, if_neg e68, if_neg e71, if_neg e100, if_neg e7, if_neg e74, if_neg e75, if_neg e88, if_neg e64, if_neg e80, if_pos e76]; unfold linesD; rw [if_neg hwi]
 have e76 : ¬ b = 76 := by have h9 := h140; simpa using h9
 refine WC.region (WL.r 2 hs24 [] rfl (WL.nil (hK139 _ _ ?_)))
 refine WC.cq rfl (fun h232 qh232 => ?_) (fun h232 qh232 => ?_)
 ·have e77 : b = 77 := by have h9 := h232; simpa using h9
  refine WC.sq1 hs24 (WQ.r 12 [1, 0, 1, 0, 1, 0] rfl ?_)
  refine WQ.call rfl rfl rfl (fun w_ hs_ => (Run.call Tryz.call97 rfl rfl rfl)) (fun w_ hs_ => (k0_ _ _ _ _).mono fun e_ w_ h_ => ⟨h_.1, (hs_ : St _ _ _ _).call0 h_.2⟩) ?_
  refine WQ.nil (fun _ (hs233 : St _ _ _ _) => ?_)
  refine WC.cq rfl (fun h234 qh234 => ?_) (fun h234 qh234 => ?_)
  ·have hwi : within r18.dat.Y r18.dat.Top r18.dat.Bot = true := h234
   have hwj := within_iff.1 hwi
   have htl : 0 ≤ r18.Y ∧ r18.Y ≤ r18.Bot ∧ r18.Bot < (shownD r18.dat).H := by rw [hsh2.2]; simp only [ScrR.dat] at hwj; omega
   refine WC.seq (fun K235 hK235 => WC.rG 19 (hs233.d1.rm L19) hs233 hs233 (fun _ hs236 => ?_))
   refine WG.rn [0, 1, 2, 3, 4, 5, 6, 7, 8, 10, 11, 13, 16, 17] hs236 [1, 1, 0, 1, 0] rfl rfl (WG.o1 9 rfl rfl (WL.makeMap hs236 rfl rfl rfl rfl (fun b237 whs238 hs238 => WL.nil ⟨hs238.d1, ?_⟩)))
   refine WG.all [12, 14] (by kernel_rfl) rfl (WGs.cons (i := 12) rfl rfl ?_ (WGs.cons (i := 14) rfl rfl ?_ WGs.nil))
   ·refine WL.mapPut hs238 0 rfl Tryz.underlying230 Tryz.underlying4 rfl rfl rfl rfl rfl rfl rfl ?_ ?_ (fun whs239 hs239 => ?_)
    · trivial
    · rfl
    refine WL.nil ⟨hs239.d1, WG.o1 14 rfl rfl (WL.mapPut hs239 0 rfl Tryz.underlying230 Tryz.underlying4 rfl rfl rfl rfl rfl rfl rfl ?_ ?_ (fun whs240 hs240 => ?_))⟩
    · trivial
    · rfl
    refine WL.nil ⟨hs240.d1, WG.rn [15] hs240.d1 [] rfl rfl (WG.o1 18 rfl rfl (WL.val rfl rfl rfl (Run.mapGet (v := i64 (argI l 0 1)) Tryz.underlying230 Tryz.underlying4 rfl rfl rfl (hs240.own _ (nthL_mem (i := 0) rfl)).1 ?_ ?_) ?_))⟩
    · trivial
    · rw [show decide (b = 76) = false from decide_eq_false e76]; exact ⟨_, rfl⟩
    refine WL.nil ⟨hs240.d1, WG.oK rfl ?_⟩
    have hF241 := ((hs240.fr L19).fb b_s)
    refine WL.cl Tryz.call210 rfl (k127_ _ _ _ _ _ r18 _ _ _ _ _ (St.headP hF241) ho20 (St.ownP hF241) (St.nodupP hF241) ?_ ?_ ?_ ?_) ?_
    iterate 4 first | assumption | rfl | omega | (refine ⟨?_, ?_, ?_, ?_⟩ <;> omega) | (constructor <;> omega)
    rintro _ whs242 ⟨r243, L244, rfl, hs242, ho245, hd246⟩
    replace hs242 := St.lendP hF241 hs242
    refine ⟨_, rfl, ?_⟩
    have hs247 := (((hs242.fb b2).fb b237).fb b_s)
    have hrl := hd246
    refine WL.nil ⟨(hs247.d1.d1.rm L244), WH.dn (hK235 _ _ (WC.rG 4 hs247.d1 hs247 hs247 (fun _ hs248 => ?_)))⟩
    refine WG.rn [0, 2, 3] hs248 [2] rfl rfl (WG.all [1, 4] (by kernel_rfl) rfl (WGs.cons (i := 1) rfl rfl ?_ (WGs.consK rfl ?_ WGs.nil)))
    ·refine WL.r 1 hs248 [2] rfl (WL.nil ⟨hs248, WG.oK rfl (WL.st tbk hs248 0 rfl rfl (fun _ hs249 => WL.nil ⟨hs249.d1, WH.rn [5, 6] hs249.d1 [] rfl rfl (WH.o1 7 rfl (WL.st tbk hs249 0 rfl rfl (fun _ hs250 => ?_)))⟩))⟩)
     refine WL.nil ⟨hs250.d1, WH.dn (ibN (retK0 rfl ?_))⟩
     obtain ⟨L251, L252, L253, L254, hs259, ho255, ho256, ho257, ho258⟩ := ownScrR.op hs250 ho245
     have hs260 := (((hs259.fb b2).fb b237).fb b_s)
     obtain ⟨L262, hs261, ho263⟩ := ownScrR.fl hs260 ho255 ho256 ho257 ho258
     have hs264 := (((hs261.fb b2).fb b237).fb b_s)
     refine ownScrR.retp4 rfl ((hs264.fr L262).fb b_s) ho263 ?_
     · rw [← hr2]; unfold csiD; rw [if_neg e65, if_neg e66, if_neg e67, if_neg e68, if_neg e71, if_neg e100, if_neg e7, if_neg e74, if_neg e75, if_neg e88, if_neg e64, if_neg e80, if_neg e76, if_pos e77]; unfold linesD; rw [if_pos hwi]; show _ = ({ rollD r18.dat r18.Y r18.Bot (argI l 0 1) with X := 0, Wrap := false } : ScrD); rw [← hrl]; rfl
    refine WL.st tbk hs248 0 rfl rfl (fun _ hs265 => WL.nil ⟨hs265.d1, WH.rn [1, 5, 6] hs265.d1 [1] rfl rfl (WH.o1 7 rfl (WL.st tbk hs265 0 rfl rfl (fun _ hs266 => WL.nil ⟨hs266.d1, WH.dn (ibN ?_)⟩)))⟩)
    refine retK0 rfl ?_
    obtain ⟨L267, L268, L269, L270, hs275, ho271, ho272, ho273, ho274⟩ := ownScrR.op hs266 ho245
    have hs276 := (((hs275.fb b2).fb b237).fb b_s)
    obtain ⟨L278, hs277, ho279⟩ := ownScrR.fl hs276 ho271 ho272 ho273 ho274
    have hs280 := (((hs277.fb b2).fb b237).fb b_s)
    refine ownScrR.retp4 rfl ((hs280.fr L278).fb b_s) ho279 ?_
    · rw [← hr2]; unfold csiD; rw [if_neg e65, if_neg e66, if_neg e67, if_neg e68, if_neg e71, if_neg e100, if_neg e7, if_neg e74, if_neg e75, if_neg e88, if_neg e64, if_neg e80, if_neg e76, if_pos e77]; unfold linesD; rw [if_pos hwi]; show _ = ({ rollD r18.dat r18.Y r18.Bot (argI l 0 1) with X := 0, Wrap := false } : ScrD); rw [← hrl]; rfl
   refine WL.mapPut hs238 0 rfl Tryz.underlying230 Tryz.underlying4 rfl rfl rfl rfl rfl rfl rfl ?_ ?_ (fun whs281 hs281 => ?_)
   · trivial
   · rfl
   refine WL.nil ⟨hs281.d1, WG.o1 12 rfl rfl (WL.mapPut hs281 0 rfl Tryz.underlying230 Tryz.underlying4 rfl rfl rfl rfl rfl rfl rfl ?_ ?_ (fun whs282 hs282 => ?_))⟩
   · trivial
   · rfl
   refine WL.nil ⟨hs282.d1, WG.rn [15] hs282.d1 [] rfl rfl (WG.o1 18 rfl rfl (WL.val rfl rfl rfl (Run.mapGet (v := i64 (argI l 0 1)) Tryz.underlying230 Tryz.underlying4 rfl rfl rfl (hs282.own _ (nthL_mem (i := 0) rfl)).1 ?_ ?_) ?_))⟩
   · trivial
   · rw [show decide (b = 76) = false from decide_eq_false e76]; exact ⟨_, rfl⟩
   refine WL.nil ⟨hs282.d1, WG.oK rfl ?_⟩
   have hF283 := ((hs282.fr L19).fb b_s)
   refine WL.cl Tryz.call210 rfl (k127_ _ _ _ _ _ r18 _ _ _ _ _ (St.headP hF283) ho20 (St.ownP hF283) (St.nodupP hF283) ?_ ?_ ?_ ?_) ?_
   iterate 4 first | assumption | rfl | omega | (refine ⟨?_, ?_, ?_, ?_⟩ <;> omega) | (constructor <;> omega)
   rintro _ whs284 ⟨r285, L286, rfl, hs284, ho287, hd288⟩
   replace hs284 := St.lendP hF283 hs284
   refine ⟨_, rfl, ?_⟩
   have hs289 := (((hs284.fb b2).fb b237).fb b_s)
   have hrl := hd288
   refine WL.nil ⟨(hs289.d1.d1.rm L286), WH.dn (hK235 _ _ (WC.rG 4 hs289.d1 hs289 hs289 (fun _ hs290 => ?_)))⟩
   refine WG.rn [0, 2, 3] hs290 [2] rfl rfl (WG.all [1, 4] (by kernel_rfl) rfl (WGs.cons (i := 1) rfl rfl ?_ (WGs.consK rfl ?_ WGs.nil)))
   ·refine WL.r 1 hs290 [2] rfl (WL.nil ⟨hs290, WG.oK rfl (WL.st tbk hs290 0 rfl rfl (fun _ hs291 => WL.nil ⟨hs291.d1, WH.rn [5, 6] hs291.d1 [] rfl rfl (WH.o1 7 rfl (WL.st tbk hs291 0 rfl rfl (fun _ hs292 => ?_)))⟩))⟩)
    refine WL.nil ⟨hs292.d1, WH.dn (ibN (retK0 rfl ?_))⟩
    obtain ⟨L293, L294, L295, L296, hs301, ho297, ho298, ho299, ho300⟩ := ownScrR.op hs292 ho287
    have hs302 := (((hs301.fb b2).fb b237).fb b_s)
    obtain ⟨L304, hs303, ho305⟩ := ownScrR.fl hs302 ho297 ho298 ho299 ho300
    have hs306 := (((hs303.fb b2).fb b237).fb b_s)
    refine ownScrR.retp4 rfl ((hs306.fr L304).fb b_s) ho305 ?_
    · rw [← hr2]; unfold csiD; rw [if_neg e65, if_neg e66, if_neg e67, if_neg e68, if_neg e71, if_neg e100, if_neg e7, if_neg e74, if_neg e75, if_neg e88, if_neg e64, if_neg e80, if_neg e76, if_pos e77]; unfold linesD; rw [if_pos hwi]; show _ = ({ rollD r18.dat r18.Y r18.Bot (argI l 0 1) with X := 0, Wrap := false } : ScrD); rw [← hrl]; rfl
   refine WL.st tbk hs290 0 rfl rfl (fun _ hs307 => WL.nil ⟨hs307.d1, WH.rn [1, 5, 6] hs307.d1 [1] rfl rfl (WH.o1 7 rfl (WL.st tbk hs307 0 rfl rfl (fun _ hs308 => WL.nil ⟨hs308.d1, WH.dn (ibN ?_)⟩)))⟩)
   refine retK0 rfl ?_
   obtain ⟨L309, L310, L311, L312, hs317, ho313, ho314, ho315, ho316⟩ := ownScrR.op hs308 ho287
   have hs318 := (((hs317.fb b2).fb b237).fb b_s)
   obtain ⟨L320, hs319, ho321⟩ := ownScrR.fl hs318 ho313 ho314 ho315 ho316
   have hs322 := (((hs319.fb b2).fb b237).fb b_s)
   refine ownScrR.retp4 rfl ((hs322.fr L320).fb b_s) ho321 ?_
   · rw [← hr2]; unfold csiD; rw [if_neg e65, if_neg e66, if_neg e67, if_neg e68, if_neg e71, if_neg e100, if_neg e7, if_neg e74, if_neg e75, if_neg e88, if_neg e64, if_neg e80, if_neg e76, if_pos e77]; unfold linesD; rw [if_pos hwi]; show _ = ({ rollD r18.dat r18.Y r18.Bot (argI l 0 1) with X := 0, Wrap := false } : ScrD); rw [← hrl]; rfl
  have hwi : ¬ within r18.dat.Y r18.dat.Top r18.dat.Bot = true := by have h9 := h234; show ¬ within r18.Y r18.Top r18.Bot = true; rw [h9]; decide
  refine WC.skip (ibN (retK0 rfl (⟨r18, _, rfl, St.keepP (L1 := L19) ((hs233.fr L19).fb b_s), ho20, ?_⟩)))
  · rw [← hr2]; unfold csiD; rw [if_neg e65, if_neg e66, if_neg e67, if_neg e68, if_neg e71, if_neg e100, if_neg e7, if_neg e74, if_neg e75, if_neg e88, if_neg e64, if_neg e80, if_neg e76, if_pos e77]; unfold linesD; rw [if_neg hwi]
 have e77 : ¬ b = 77 := by have h9 := h232; simpa using h9
 refine WC.r1 hs24 [] rfl (WC.cq rfl (fun h323 qh323 => ?_) (fun h323 qh323 => ?_))
 ·have e83 : b = 83 := by have h9 := h323; simpa using h9
  refine WC.region (WL.r 2 hs24 [1] rfl ?_)
  have hF324 := ((hs24.fr L19).fb b_s)
  refine WL.cl Tryz.call209 rfl (k128_ _ _ _ _ _ r18 _ _ _ (St.headP hF324) ho20 (St.ownP hF324) (St.nodupP hF324) ?_ ?_ ?_) ?_
  iterate 3 first | assumption | rfl | omega | (refine ⟨?_, ?_, ?_, ?_⟩ <;> omega) | (constructor <;> omega)
  rintro _ whs325 ⟨r326, L327, rfl, hs325, ho328, hd329⟩
  replace hs325 := St.lendP hF324 hs325
  refine ⟨_, rfl, ?_⟩
  have hs330 := ((hs325.fb b2).fb b_s)
  refine WL.nil (ibN (retK0 rfl (⟨r326, _, rfl, St.keepP (L1 := L327) ((hs330.fr L327).fb b_s), ho328, ?_⟩)))
  · rw [← hr2]; unfold csiD; rw [if_neg e65, if_neg e66, if_neg e67, if_neg e68, if_neg e71, if_neg e100, if_neg e7, if_neg e74, if_neg e75, if_neg e88, if_neg e64, if_neg e80, if_neg e76, if_neg e77, if_pos e83]; exact hd329
 have e83 : ¬ b = 83 := by have h9 := h323; simpa using h9
 refine WC.r1 hs24 [] rfl (WC.cq rfl (fun h331 qh331 => ?_) (fun h331 qh331 => ?_))
 ·have e84 : b = 84 := by have h9 := h331; simpa using h9
  refine WC.rG 11 (hs24.d1.rm L19) hs24 hs24 (fun _ hs332 => ?_)
  refine WG.rn [0, 1, 2, 3, 4, 5, 6, 7, 8, 9, 10] hs332 [1, 1, 0, 1, 0] rfl rfl (WG.oK rfl ?_)
  have hF333 := ((hs332.fr L19).fb b_s)
  refine WL.cl Tryz.call210 rfl (k127_ _ _ _ _ _ r18 _ _ _ _ _ (St.headP hF333) ho20 (St.ownP hF333) (St.nodupP hF333) ?_ ?_ ?_ ?_) ?_
  iterate 4 first | assumption | rfl | omega | (refine ⟨?_, ?_, ?_, ?_⟩ <;> omega) | (constructor <;> omega)
  rintro _ whs334 ⟨r335, L336, rfl, hs334, ho337, hd338⟩
  replace hs334 := St.lendP hF333 hs334
  refine ⟨_, rfl, ?_⟩
  have hs339 := ((hs334.fb b2).fb b_s)
  refine WL.nil ⟨(hs339.d1.rm L336), WH.dn (ibN (retK0 rfl (⟨r335, _, rfl, St.keepP (L1 := L336) ((hs339.fr L336).fb b_s), ho337, ?_⟩)))⟩
  · rw [← hr2]; unfold csiD; rw [if_neg e65, if_neg e66, if_neg e67, if_neg e68, if_neg e71, if_neg e100, if_neg e7, if_neg e74, if_neg e75, if_neg e88, if_neg e64, if_neg e80, if_neg e76, if_neg e77, if_neg e83, if_pos e84]; exact hd338
 have e84 : ¬ b = 84 := by have h9 := h331; simpa using h9
 refine WC.r1 hs24 [] rfl (WC.cq rfl (fun h340 qh340 => ?_) (fun h340 qh340 => ?_))
 ·have e109 : b = 109 := by have h9 := h340; simpa using h9
  refine WC.rG 9 hs24.d1 hs24 hs24 (fun _ hs341 => ?_)
  refine WG.rn [0, 1, 2, 3, 4, 5] hs341 [1, 1, 0] rfl rfl (WG.o1 6 rfl rfl (WL.cl Tryz.call238 rfl (k74_ _ _ _ _ _ _ _ _ _ _ (SlF.st f_l hs341 s_l) ?_ ?_) ?_))
  iterate 2 first | assumption | rfl | omega | (refine ⟨?_, ?_, ?_, ?_⟩ <;> omega) | (constructor <;> omega)
  rintro _ whs342 ⟨r343, rfl, hs342, hr344⟩
  replace hs342 := hs341.callF hs342
  refine ⟨_, rfl, ?_⟩
  rw [List.nil_append] at hs342
  replace hs342 := St.perm hs342 (L' := [_, _] ++ _) pR
  have hsg : r343 = sgrRes r18.A l := hr344
  refine WL.nil ⟨hs342, WG.rn [7, 8] hs342 [] rfl rfl (WG.oK rfl (WL.st tbk hs342 0 rfl rfl (fun _ hs345 => WL.nil ⟨hs345.d1, WH.dn (ibN (retK0 rfl ?_))⟩)))⟩
  obtain ⟨L346, L347, L348, L349, hs354, ho350, ho351, ho352, ho353⟩ := ownScrR.op hs345 ho20
  have hs355 := ((hs354.fb b2).fb b_s)
  obtain ⟨L357, hs356, ho358⟩ := ownScrR.fl hs355 ho350 ho351 ho352 ho353
  have hs359 := ((hs356.fb b2).fb b_s)
  refine ownScrR.retp4 rfl ((hs359.fr L357).fb b_s) ho358 ?_
  · rw [← hr2]; unfold csiD; rw [if_neg e65, if_neg e66, if_neg e67, if_neg e68, if_neg e71, if_neg e100, if_neg e7, if_neg e74, if_neg e75, if_neg e88, if_neg e64, if_neg e80, if_neg e76, if_neg e77, if_neg e83, if_neg e84, if_pos e109]; show _ = ({ r18.dat with A := sgrRes r18.A l } : ScrD); rw [← hsg]; rfl
 have e109 : ¬ b = 109 := by have h9 := h340; simpa using h9
 refine WC.r1 hs24 [] rfl (WC.cq rfl (fun h360 qh360 => ?_) (fun h360 qh360 => ?_))
 ·have e114 : b = 114 := by have h9 := h360; simpa using h9
  refine WC.region (WL.r 3 hs24 [1] rfl ?_)
  have hF361 := ((hs24.fr L19).fb b_s)
  refine WL.cl Tryz.call239 rfl (k136_ _ _ _ _ _ r18 _ _ _ _ _ _ _ (St.headP hF361) ho20 (St.ownP hF361) (SlF.st f_l hs24 s_l) (St.nodupP hF361) (St.sepTP hF361 f_l s_l) ?_ ?_ ?_ ?_) ?_
  iterate 4 first | assumption | rfl | omega | (refine ⟨?_, ?_, ?_, ?_⟩ <;> omega) | (constructor <;> omega)
  rintro _ whs362 ⟨r363, L364, rfl, hs362, ho365, hd366⟩
  replace hs362 := St.lendP hF361 hs362
  refine ⟨_, rfl, ?_⟩
  have hs367 := ((hs362.fb b2).fb b_s)
  refine WL.nil (ibN (retK0 rfl (⟨r363, _, rfl, St.keepP (L1 := L364) ((hs367.fr L364).fb b_s), ho365, ?_⟩)))
  · rw [← hr2]; unfold csiD; rw [if_neg e65, if_neg e66, if_neg e67, if_neg e68, if_neg e71, if_neg e100, if_neg e7, if_neg e74, if_neg e75, if_neg e88, if_neg e64, if_neg e80, if_neg e76, if_neg e77, if_neg e83, if_neg e84, if_neg e109, if_pos e114]; exact hd366
 have e114 : ¬ b = 114 := by have h9 := h360; simpa using h9
 refine WC.r1 hs24 [] rfl (WC.cq rfl (fun h368 qh368 => ?_) (fun h368 qh368 => ?_))
 ·have e103 : b = 103 := by have h9 := h368; simpa using h9
  refine WC.r1 hs24 [] rfl (WC.block (WC.r1 hs24 [] rfl (WC.cq rfl (fun h369 qh369 => ?_) (fun h369 qh369 => ?_))))
  ·have ek0 : argI l 0 0 = 0 := by have h9 := h369; simpa using h9
   refine WC.rG 9 (hs24.d1.rm L19) (hs24.rm L19) hs24 (fun _ hs370 => ?_)
   refine WG.rn [0, 1, 2, 3, 4] (hs370.rm L19) [1, 1, 0] rfl rfl ?_
   refine WG.tk 5 rfl (by kernel_rfl) rfl rfl rfl (hs370.rm L19) (fun w_ hs_ => (Run.makeFunc rfl rfl)) ?_
   refine WG.o1 6 rfl rfl ?_
   obtain ⟨L372, L373, L374, L375, hs380, ho376, ho377, ho378, ho379⟩ := ownScrR.op hs370 ho20
   have hs381 := ((hs380.fb b2).fb b_s)
   refine WL.cl Tryz.call240 rfl (k83_ _ _ _ _ _ _ ho378 (hs381.ow L374) (fun w_ Lx_ hx_ m_ => k142_ _ _ _ _ b2 b_s r18 m_ w_ ((hx_.keep _ (lt_of_heap (hs381.own _ (nthL_mem (i := 1) rfl)).1) (St.sepOwn (hs381.fr L374) (nthL_mem (i := 1) rfl))).trans (hs381.own _ (nthL_mem (i := 1) rfl)).1) ((hx_.keep _ (lt_of_heap (hs381.own _ (nthL_mem (i := 0) rfl)).1) (St.sepOwn (hs381.fr L374) (nthL_mem (i := 0) rfl))).trans (hs381.own _ (nthL_mem (i := 0) rfl)).1) (St.neq hs381 (i := 1) (j := 0) rfl rfl (by decide))) ?_) ?_
   · first | assumption | rfl | omega | (refine ⟨?_, ?_, ?_, ?_⟩ <;> omega) | (constructor <;> omega)
   rintro _ whs371 ⟨A382, c383, n384, xs385, L1_386, rfl, hs371, ho387, hd388⟩
   replace hs371 := St.lend (hs381.fr L374) hs371
   refine ⟨_, rfl, ?_⟩
   replace hs371 := St.back [_, _] hs371
   have hdl := hd388
   refine WL.nil ⟨((((hs371.rm L1_386).rm L372).rm L373).rm L375), WG.rn [7, 8] ((((hs371.rm L1_386).rm L372).rm L373).rm L375) [] rfl rfl (WG.oK rfl (WL.st tbk hs371 0 rfl rfl (fun _ hs389 => WL.nil ⟨((((hs389.d1.rm L1_386).rm L372).rm L373).rm L375), WH.dn (ibN (ibN ?_))⟩)))⟩
   refine retK0 rfl ?_
   obtain ⟨L391, hs390, ho392⟩ := ownScrR.fl hs389 ho376 ho377 ho387 ho379
   have hs393 := ((hs390.fb b2).fb b_s)
   refine ownScrR.retp4 rfl ((hs393.fr L391).fb b_s) ho392 ?_
   · rw [← hr2]; unfold csiD; rw [if_neg e65, if_neg e66, if_neg e67, if_neg e68, if_neg e71, if_neg e100, if_neg e7, if_neg e74, if_neg e75, if_neg e88, if_neg e64, if_neg e80, if_neg e76, if_neg e77, if_neg e83, if_neg e84, if_neg e109, if_neg e114, if_pos e103]; rw [ek0, tabsD_0]; show _ = ({ r18.dat with Tabs := r18.Tabs.xs.filter fun x => !decide (x = r18.X) } : ScrD); rw [← hdl]; rfl
  have ek0 : ¬ argI l 0 0 = 0 := by have h9 := h369; simpa using h9
  refine WC.r1 hs24 [] rfl (WC.cq rfl (fun h394 qh394 => ?_) (fun h394 qh394 => ?_))
  ·have ek3 : argI l 0 0 = 3 := by have h9 := h394; simpa using h9
   refine WC.region (WL.r 3 hs24 [1] rfl (WL.st tbk hs24 0 rfl rfl (fun _ hs395 => WL.nil (ibN (ibN (retK0 rfl ?_))))))
   obtain ⟨L396, L397, L398, L399, hs404, ho400, ho401, ho402, ho403⟩ := ownScrR.op hs395 ho20
   have hs405 := ((hs404.fb b2).fb b_s)
   obtain ⟨L408, hs407, ho409⟩ := ownScrR.fl hs405 ho400 ho401 (OwnF.nil _ _) ho403
   have hs410 := ((hs407.fb b2).fb b_s)
   refine ownScrR.retp4 rfl ((hs410.fr L408).fb b_s) ho409 ?_
   · rw [← hr2]; unfold csiD; rw [if_neg e65, if_neg e66, if_neg e67, if_neg e68, if_neg e71, if_neg e100, if_neg e7, if_neg e74, if_neg e75, if_neg e88, if_neg e64, if_neg e80, if_neg e76, if_neg e77, if_neg e83, if_neg e84, if_neg e109, if_neg e114, if_pos e103]; rw [ek3, tabsD_3]; rfl
  have ek3 : ¬ argI l 0 0 = 3 := by have h9 := h394; simpa using h9
  refine WC.skip (ibN (ibN (retK0 rfl (⟨r18, _, rfl, St.keepP (L1 := L19) ((hs24.fr L19).fb b_s), ho20, ?_⟩))))
  · rw [← hr2]; unfold csiD; rw [if_neg e65, if_neg e66, if_neg e67, if_neg e68, if_neg e71, if_neg e100, if_neg e7, if_neg e74, if_neg e75, if_neg e88, if_neg e64, if_neg e80, if_neg e76, if_neg e77, if_neg e83, if_neg e84, if_neg e109, if_neg e114, if_pos e103]; rw [tabsD_o ek0 ek3]
 have e103 : ¬ b = 103 := by have h9 := h368; simpa using h9
 refine WC.skip (ibN (retK0 rfl (⟨r18, _, rfl, St.keepP (L1 := L19) ((hs24.fr L19).fb b_s), ho20, ?_⟩)))
 · rw [← hr2]; unfold csiD; rw [if_neg e65, if_neg e66, if_neg e67, if_neg e68, if_neg e71, if_neg e100, if_neg e7, if_neg e74, if_neg e75, if_neg e88, if_neg e64, if_neg e80, if_neg e76, if_neg e77, if_neg e83, if_neg e84, if_neg e109, if_neg e114, if_neg e103]
theorem k145_ (u_0 u_1 u_2 u_3 : Value) (b_s : Nat) (s : ScrR) (L_s : Hp) (mark : Bool) (A_l : Option Addr) (n_l c_l : Nat) (l : List Int) (b : Int) (w : World) (hb_s : w.heap[b_s]? = some (oS u_0 u_1 u_2 u_3 s)) (o_s : ownScrR s L_s) (h_s : Hh w L_s) (f_l : SlF encI w A_l n_l l) (hd_ : (b_s :: L_s.map (·.1)).Nodup) (s_l : 0 < n_l → (adr A_l).block ∉ (b_s :: L_s.map (·.1))) (hf : ScrFine s.dat) (hsm : smScr 1048576 s.dat) (hl : areArgs l = true) (hll : n_l ≤ 549755813888) :
    Calls Tryz.prog 103 #[.pointer (some ⟨b_s, 4, none⟩), .bool mark, .slice A_l n_l c_l, i64 b] w fun e w' => ∃ r L1, e = .returned (.tuple #[]) ∧ St w (b_s :: L_s.map (·.1)) ([(b_s, oS u_0 u_1 u_2 u_3 r)] ++ L1) w' ∧ ownScrR r L1 ∧ r.dat = seqD s.dat mark l b := by
 have hsmB : smScr 549755813888 s.dat := smScr_mono hsm (by decide)
 have hln := f_l.len
 refine enter 36 Tryz.func103 rfl Tryz.ntmps103 rfl rfl ?_
 have hs1 := St.takeP w b_s _ L_s hb_s h_s hd_
 refine WC.block (WC.r1 hs1 [] rfl (WC.cq rfl (fun h2 qh2 => ?_) (fun h2 qh2 => ?_)))
 ·have hmk : mark = false := by have h9 := h2; simpa using h9
  refine WC.region (WL.r 3 hs1 [] rfl ?_)
  have hF3 := ((hs1.fr L_s).fb b_s)
  refine WL.cl Tryz.call189 rfl (k144_ _ _ _ _ _ s _ _ _ _ _ _ _ (St.headP hF3) o_s (St.ownP hF3) (SlF.st f_l hs1 s_l) (St.nodupP hF3) (St.sepTP hF3 f_l s_l) ?_ ?_ ?_ ?_) ?_
  iterate 4 first | assumption | omega
  rintro _ whs4 ⟨r5, L6, rfl, hs4, ho7, hd8⟩
  replace hs4 := St.lendP hF3 hs4
  refine ⟨_, rfl, WL.nil (ibN (retK0 rfl (⟨r5, _, rfl, St.keepP (L1 := L6) ((hs4.fr L6).fb b_s), ho7, ?_⟩)))⟩
  · unfold seqD; rw [if_pos hmk]; exact hd8
 have hmk : ¬ mark = false := by have h9 := h2; simpa using h9
 refine WC.sr (WL.r 3 hs1 [] rfl (WL.pO tbk 2 Acts.nil hs1 [] rfl rfl rfl rfl (fun g_ => trivial) (WL.r 1 hs1 [] rfl (WL.nil (WC.cq rfl (fun h9 qh9 => ?_) (fun h9 qh9 => ?_))))))
 ·have hbb : b = 104 ∨ b = 108 := by have h9 := h9; simp at h9; exact h9
  refine WC.r1 hs1 [] rfl (WC.block ?_)
  have hM14 := (St.grp1 (L1 := L_s) [_] ((hs1.fr L_s).fb b_s))
  refine WC.lV [0, 3, 10, 17, 24, 25] rfl hM14 (fun k_ (a_ : Hp) f => ∃ (i : Nat) (r : ScrR) (L12 : Hp), k_ = n_l - i ∧ a_ = [(b_s, oS u_0 u_1 u_2 u_3 r)] ++ L12 ∧ (i ≤ n_l) ∧ (r.dat = modesD s.dat (l.take i) (decide (b = 104))) ∧ ownScrR r L12 ∧ Sub [(26, .int .i64 i)] f) (((fun (i : Nat) => n_l - i) (0))) ?_ ?_
  ·refine ⟨0, s, L_s, rfl, rfl, ?_, ?_, o_s, ⟨rfl, trivial⟩⟩
   · exact Nat.zero_le _
   · rfl
  rintro _ _ f w ⟨i, r, L12, rfl, rfl, p0, p1, ho13, hG⟩ hF hs15
  refine WC.sub _ (hG.app hF) ?_
  clear hG hF
  replace hs15 := St.ungrp1 [_] hs15
  have hfr : ScrFine r.dat := by rw [p1]; exact hf.modes
  have hsmr : smScr 549755813888 r.dat := fine_smB hfr (by decide)
  refine WC.r1 hs15 [] rfl (WC.seq (fun K16 hK16 => ?_))
  refine WC.cq rfl (fun h17 qh17 => ?_) (fun h17 qh17 => ?_)
  ·refine WC.skip (hK16 _ _ (WC.seq (fun K18 hK18 => WC.block (WC.sr ?_))))
   refine WL.val rfl rfl rfl (Run.idxN Tryz.runUnderlying23 Tryz.sizeOf3 rfl rfl rfl ?_ ?_ ?_) ?_
   · exact SlF.some_ (SlF.st f_l hs15 s_l)
   · omega
   · omega
   refine WL.val rfl rfl rfl (Run.load Tryz.isAgg3 rfl rfl (SlF.one1 (SlF.st f_l hs15 s_l) ?_ rfl)) ?_
   · omega
   refine WL.r 1 hs15 [] rfl (WL.nil (WC.region (WL.r 4 hs15 [] rfl ?_)))
   have hF19 := ((hs15.fr L12).fb b_s)
   refine WL.cl Tryz.call190 rfl (k137_ _ _ _ _ _ r _ _ _ _ (St.headP hF19) ho13 (St.ownP hF19) (St.nodupP hF19) ?_ ?_) ?_
   iterate 2 first | assumption | rfl | omega
   rintro _ whs20 ⟨r21, L22, rfl, hs20, ho23, hd24⟩
   replace hs20 := St.lendP hF19 hs20
   refine ⟨_, rfl, WL.nil (hK18 _ _ (WC.region (WL.r 2 hs20 [] rfl (WL.nil (tkN ?_)))))⟩
   have hF25 := (St.grp1 (L1 := L22) [_] ((hs20.fr L22).fb b_s))
   refine ⟨sbF rfl, _, hF25, _, ?_, i + 1, r21, L22, rfl, rfl, ?_, ?_, ho23, ⟨rfl, trivial⟩⟩
   · omega
   · omega
   · rw [hd24, p1]; exact (modesD_take (by omega)).symm
  refine WC.exit (tkE (tkE (ibE (ibN (retK0 rfl (⟨r, _, rfl, St.keepP (L1 := L12) ((hs15.fr L12).fb b_s), ho13, ?_⟩))))))
  · unfold seqD; rw [if_neg hmk, if_pos hbb]; rw [p1, List.take_of_length_le (by omega)]; rfl
 have hbb : ¬ (b = 104 ∨ b = 108) := by have h9 := h9; simp at h9; omega
 refine WC.skip (ibN (retK0 rfl (⟨s, _, rfl, St.keepP (L1 := L_s) ((hs1.fr L_s).fb b_s), o_s, ?_⟩)))
 · unfold seqD; rw [if_neg hmk, if_neg hbb]
theorem k146_ (b_s : Nat) (u_0 u_1 u_2 u_3 u_4 u_5 u_6 u_7 u_8 u_9 u_10 u_11 u_13 u_14 u_15 u_16 u_17 u_18 u_19 u_20 u_21 u_22 u_23 u_24 u_25 u_26 u_27 u_28 u_29 u_30 u_31 u_32 u_33 u_34 : Value) (x : Bool) (w : World) (hb : w.heap[b_s]? = some (Obj.cells (List.toArray (u_0 :: u_1 :: u_2 :: u_3 :: [u_4, u_5, u_6, u_7, u_8, u_9, u_10, u_11, .bool x, u_13, u_14, u_15, u_16, u_17, u_18, u_19, u_20, u_21, u_22, u_23, u_24, u_25, u_26, u_27, u_28, u_29, u_30, u_31, u_32, u_33, u_34])) 35 (0, 0))) (hx : x = false) :
    Calls Tryz.prog 223 #[.pointer (some ⟨b_s, 4, none⟩)] w fun e w' => e = .returned (.pointer (some ⟨b_s, 6, none⟩)) ∧ St w [] [] w' := by
 refine enter 13 Tryz.func223 rfl Tryz.ntmps223 rfl rfl ?_
 have hs1 := St.take1 w b_s _ hb
 refine WC.r1 hs1 [] rfl ?_
 refine WC.seq (fun K2 hK2 => ?_)
 refine WC.r1 hs1 [0] rfl ?_
 refine WC.cq rfl (fun h3 qh3 => ?_) (fun h3 qh3 => ?_)
 ·exfalso; have h9 := h3; rw [hx] at h9; revert h9; decide
 refine WC.skip ?_
 refine hK2 _ _ ?_
 refine WC.r1 hs1 [] rfl ?_
 refine WC.ret ?_
 refine retV1 rfl (resV.tmp rfl) ?_
 refine ⟨rfl, St.untouch hs1 (fun k hk => ?_) (fun p hp_ => ?_)⟩
 · obtain rfl := List.mem_singleton.1 hk; exact ⟨_, List.mem_cons_self⟩
 · obtain rfl := List.mem_singleton.1 hp_; exact hb
theorem k147_ (b_s : Nat) (u_0 u_1 u_2 u_3 u_4 u_5 u_6 u_7 u_8 u_9 u_10 u_11 u_13 u_14 u_15 u_16 u_17 u_18 u_19 u_20 u_21 u_22 u_23 u_24 u_25 u_26 u_27 u_28 u_29 u_30 u_31 u_32 u_33 u_34 : Value) (x : Bool) (w : World) (hb : w.heap[b_s]? = some (Obj.cells (List.toArray (u_0 :: u_1 :: u_2 :: u_3 :: [u_4, u_5, u_6, u_7, u_8, u_9, u_10, u_11, .bool x, u_13, u_14, u_15, u_16, u_17, u_18, u_19, u_20, u_21, u_22, u_23, u_24, u_25, u_26, u_27, u_28, u_29, u_30, u_31, u_32, u_33, u_34])) 35 (0, 0))) (hx : x = true) :
    Calls Tryz.prog 223 #[.pointer (some ⟨b_s, 4, none⟩)] w fun e w' => e = .returned (.pointer (some ⟨b_s, 9, none⟩)) ∧ St w [] [] w' := by
 refine enter 13 Tryz.func223 rfl Tryz.ntmps223 rfl rfl ?_
 have hs1 := St.take1 w b_s _ hb
 refine WC.r1 hs1 [] rfl ?_
 refine WC.seq (fun K2 hK2 => ?_)
 refine WC.r1 hs1 [0] rfl ?_
 refine WC.cq rfl (fun h3 qh3 => ?_) (fun h3 qh3 => ?_)
 ·refine WC.r1 hs1 [] rfl ?_
  refine WC.ret ?_
  refine tkR ?_
  clear hK2
  refine retV1 rfl (resV.tmp rfl) ?_
  refine ⟨rfl, St.untouch hs1 (fun k hk => ?_) (fun p hp_ => ?_)⟩
  · obtain rfl := List.mem_singleton.1 hk; exact ⟨_, List.mem_cons_self⟩
  · obtain rfl := List.mem_singleton.1 hp_; exact hb
 exfalso; have h9 := h3; rw [hx] at h9; revert h9; decide
set_option maxHeartbeats 1000000 in
set_option maxRecDepth 2000 in
theorem k148_ (u_0 u_1 u_2 u_3 : Value) (b_s : Nat) (s : ScrR) (L_s : Hp) (q : Int) (w : World) (hb_s : w.heap[b_s]? = some (oS u_0 u_1 u_2 u_3 s)) (o_s : ownScrR s L_s) (h_s : Hh w L_s) (hd_ : (b_s :: L_s.map (·.1)).Nodup) (hf : ScrFine s.dat) (hsm : smScr 1048576 s.dat) :
    Calls Tryz.prog 172 #[.pointer (some ⟨b_s, 4, none⟩), i64 q] w fun e w' => ∃ r L1, e = .returned (.tuple #[]) ∧ St w (b_s :: L_s.map (·.1)) ([(b_s, oS u_0 u_1 u_2 u_3 r)] ++ L1) w' ∧ ownScrR r L1 ∧ r.dat = runeD s.dat q := by
 have hsmB : smScr 549755813888 s.dat := by first | assumption | exact smScr_mono hsm (by decide)
 refine enter 58 Tryz.func172 rfl Tryz.ntmps172 rfl rfl ?_
 have hs1 := St.takeP w b_s _ L_s hb_s h_s hd_
 refine WC.seq (fun K2 hK2 => WC.r1 hs1 [0] rfl ?_)
 refine WC.jPK [0, 1, 4, 5, 6, 7] rfl ((hs1.fr L_s).fb b_s) (fun o_ L_ => ∃ r : ScrR, o_ = oS u_0 u_1 u_2 u_3 r ∧ ownScrR r L_ ∧ r.dat = (if s.Wrap = true then { downD s.dat with X := 0 } else s.dat)) ?_ ?_
 ·refine WC.cq rfl (fun h3 qh3 => ?_) (fun h3 qh3 => ?_)
  ·have hwr : s.Wrap = true := h3
   refine WC.sr (WL.r 1 hs1 [] rfl ?_)
   have hF4 := ((hs1.fr L_s).fb b_s)
   refine WL.cl Tryz.call151 rfl (k129_ _ _ _ _ _ s _ _ (St.headP hF4) o_s (St.ownP hF4) (St.nodupP hF4) ?_ ?_) ?_
   iterate 2 first | assumption | rfl | omega
   rintro _ whs5 ⟨r6, L7, rfl, hs5, ho8, hd9⟩
   replace hs5 := St.lendP hF4 hs5
   refine ⟨_, rfl, WL.nil (WC.region (WL.r 3 hs5 [] rfl (WL.st tbk hs5 0 rfl rfl (fun _ hs10 => WL.nil ?_))))⟩
   obtain ⟨L11, L12, L13, L14, hs19, ho15, ho16, ho17, ho18⟩ := ownScrR.op hs10 ho8
   have hs20 := (hs19.fb b_s)
   obtain ⟨L22, hs21, ho23⟩ := ownScrR.fl hs20 ho15 ho16 ho17 ho18
   have hs24 := (hs21.fb b_s)
   refine tkN ⟨_, _, ((hs24.fr L22).fb b_s), ⟨⟨r6.W, r6.H, ⟨r6.Main.W, r6.Main.H, SlD.of ho15⟩, ⟨r6.Alt.W, r6.Alt.H, SlD.of ho16⟩, r6.OnAlt, (0), r6.Y, r6.Wrap, ⟨r6.A.Fg, r6.A.Bg, r6.A.Bold, r6.A.Under, r6.A.Turn⟩, r6.Top, r6.Bot, r6.NoWrap, r6.Hide, r6.SaveX, r6.SaveY, ⟨r6.SaveA.Fg, r6.SaveA.Bg, r6.SaveA.Bold, r6.SaveA.Under, r6.SaveA.Turn⟩, SlD.of ho17, r6.Limit, SlD.ofN ho18⟩, rfl, (by exact ho23), ?_⟩, sbF rfl⟩
   · rw [if_pos hwr]; show _ = ({ downD s.dat with X := 0 } : ScrD); rw [← hd9]; rfl
  have hwr : ¬ s.Wrap = true := by have h9 := h3; rw [h9]; decide
  refine WC.skip (tkN ⟨_, _, ((hs1.fr L_s).fb b_s), ⟨s, rfl, o_s, ?_⟩, sbF rfl⟩)
  · rw [if_neg hwr]
 rintro _ L25 _ ⟨r26, rfl, ho27, hd28⟩ hs29 f_ hf_
 refine hK2 _ _ (WC.sub _ hf_ ?_)
 clear hf_
 have hfr : ScrFine r26.dat := by rw [hd28]; split; exact hf.down.x0 rfl; exact hf
 have hsmr : smScr 549755813888 r26.dat := fine_smB hfr (by decide)
 have hwh2 : (1 ≤ r26.W ∧ r26.W ≤ 120) ∧ (1 ≤ r26.H ∧ r26.H ≤ 120) ∧ 1 ≤ r26.W * r26.H ∧ r26.W * r26.H ≤ 4000 := isSize_bnd hfr.size
 have hxy2 : (0 ≤ r26.X ∧ r26.X < r26.W) ∧ 0 ≤ r26.Y ∧ r26.Y < r26.H := hfr.pos
 have hgs2 : gridOk (shownD r26.dat) = true := hfr.shown.1
 have hsh2 : (shownD r26.dat).W = r26.W ∧ (shownD r26.dat).H = r26.H := hfr.shown.2
 have hgl2 := grid_len hgs2
 have hvm : 0 ≤ r26.Y * r26.W := Int.mul_nonneg (by omega) (by omega)
 have hvn : (r26.Y + 1) * r26.W = r26.Y * r26.W + r26.W := by rw [Int.add_mul, Int.one_mul]
 have hvo : (r26.Y + 1) * r26.W ≤ r26.H * r26.W := Int.mul_le_mul_of_nonneg_right (by omega) (by omega)
 rw [Int.mul_comm r26.H r26.W] at hvo
 rcases Bool.eq_false_or_eq_true r26.OnAlt with hx | hx
 ·have hfd : shownD r26.dat = r26.Alt.dat := by unfold shownD; rw [if_pos (show r26.dat.OnAlt = true from by show r26.OnAlt = true; rw [hx])]; rfl
  have hpt : ∀ g9, putD r26.dat g9 = { r26.dat with Alt := g9 } := fun g9 => by unfold putD; rw [if_pos (show r26.dat.OnAlt = true from by show r26.OnAlt = true; rw [hx])]
  have hgw2 : r26.Alt.W = r26.W ∧ r26.Alt.H = r26.H := ⟨(congrArg GridD.W hfd).symm.trans hsh2.1, (congrArg GridD.H hfd).symm.trans hsh2.2⟩
  have hgl3 : (r26.Alt.Cells.xs.length : Int) = r26.W * r26.H := by have h9 := hgl2; rw [hsh2.1, hsh2.2, hfd] at h9; exact h9
  have hnl3 := ownScrR.len ‹ownScrR r26 _›
  have hcp3 := (ownScrR.ok (B := 549755813888) ho27 (hs29.ow L25) hsmr).Alt.Cells_c
  have e0m : r26.Y * r26.Alt.W = r26.Y * r26.W := by rw [hgw2.1]
  have e1m : (r26.Y + 1) * r26.Alt.W = (r26.Y + 1) * r26.W := by rw [hgw2.1]
  refine WC.seq (fun K30 hK30 => WC.rG 20 (hs29.rm L25) hs29 hs29 (fun _ hs31 => ?_))
  refine WG.rn [0, 4, 5, 6, 7, 9, 10, 11, 12, 13, 14, 15, 16, 17] hs31 [0, 0, 0] rfl rfl ?_
  refine WG.tk 18 rfl (by kernel_rfl) rfl rfl rfl hs31 (fun w_ hs_ => (Run.build rfl rfl rfl rfl (built_75_0_1 _ _ _ _ _ _))) ?_
  refine WG.o1 1 rfl rfl ?_
  refine WL.cl Tryz.call223 rfl (k147_ _ _ _ _ _ _ _ _ _ _ _ _ _ _ _ _ _ _ _ _ _ _ _ _ _ _ _ _ _ _ _ _ _ _ _ _ _ (hs31.own _ (nthL_mem (i := 0) rfl)).1 ?_) ?_
  · first | assumption | rfl | omega
  rintro _ whs32 ⟨rfl, hs32⟩
  replace hs32 := hs31.call0 hs32
  refine ⟨_, rfl, WL.nil ⟨hs32, WG.rn [2, 3] hs32 [0] rfl rfl (WG.o1 8 rfl rfl (WL.cl Tryz.call224 rfl (k46_ r26.Alt _ _ (ownScrR.ok (B := 549755813888) ho27 (hs32.ow L25) hsmr).Alt ?_ ?_ ?_ ?_) ?_))⟩⟩
  iterate 4 first | assumption | rfl | omega
  rintro _ whs33 ⟨rfl, hs33⟩
  replace hs33 := hs32.call0 hs33
  refine ⟨_, rfl, WL.nil ⟨hs33, ?_⟩⟩
  refine WG.tk 19 rfl (by kernel_rfl) rfl rfl rfl hs33 (fun w_ hs_ => (Run.idxK (r26.X.toNat) Tryz.runUnderlying26 Tryz.sizeOf75 rfl rfl rfl ?_ ?_ ?_)) ?_
  · exact SlF.some_ (SlF.cutC (lo := (r26.Y * r26.Alt.W).toNat) (hi := ((r26.Y + 1) * r26.Alt.W).toNat) (ownScrR.ok (B := 549755813888) ho27 ((hs_ : St _ _ _ _).ow L25) hsmr).Alt.Cells (by refine ⟨?_, ?_, ?_⟩ <;> (omega)))
  · omega
  · omega
  refine WG.oK rfl ?_
  obtain ⟨L34, L35, L36, L37, hs42, ho38, ho39, ho40, ho41⟩ := ownScrR.op hs33 ho27
  have hs43 := (hs42.fb b_s)
  refine WL.storeC (x' := (⟨q, ⟨r26.A.Fg, r26.A.Bg, r26.A.Bold, r26.A.Under, r26.A.Turn⟩⟩ : CellD)) (lo := (r26.Y * r26.Alt.W).toNat) (hs43.fr L35) ho39 Tryz.sizeOf75 rfl rfl rfl rfl rfl rfl rfl rfl rfl ?_ rfl (fun L44 whs45 hs45 ho46 _ => ?_)
  · omega
  replace hs45 := St.back [_] hs45
  refine WL.nil ⟨((((hs45.rm L44).rm L34).rm L36).rm L37), WH.dn (hK30 _ _ (WC.q1 hs45 [0, 0] rfl (fun _ hs47 => ?_)))⟩
  refine WC.cq rfl (fun h48 qh48 => ?_) (fun h48 qh48 => ?_)
  ·have hlt : r26.dat.X ≠ r26.dat.W - 1 := by show r26.X ≠ r26.W - 1; have h9 := h48; simp at h9; omega
   refine WC.region (WL.r 7 hs47 [0] rfl (WL.st tbk hs47 0 rfl rfl (fun _ hs49 => WL.nil (retK0 rfl ?_))))
   obtain ⟨L51, hs50, ho52⟩ := ownScrR.fl hs49 ho38 ho46 ho40 ho41
   have hs53 := (hs50.fb b_s)
   refine ownScrR.retp4 rfl ((hs53.fr L51).fb b_s) ho52 ?_
   · first | (rw [runeD_lt hd28 hlt, hpt, hfd]; exact ScrD.ext' rfl rfl rfl (fill_one (g := r26.Alt.dat) rfl rfl (by show 0 ≤ r26.X ∧ r26.X < r26.Alt.W; omega) (by show 0 ≤ r26.Y; omega) rfl (by show (r26.Y * r26.Alt.W).toNat + r26.X.toNat < r26.Alt.Cells.xs.length; omega)) rfl rfl rfl rfl rfl rfl rfl rfl rfl rfl rfl rfl rfl rfl rfl) | (rw [runeD_eq hd28 hlt, hpt, hfd]; exact ScrD.ext' rfl rfl rfl (fill_one (g := r26.Alt.dat) rfl rfl (by show 0 ≤ r26.X ∧ r26.X < r26.Alt.W; omega) (by show 0 ≤ r26.Y; omega) rfl (by show (r26.Y * r26.Alt.W).toNat + r26.X.toNat < r26.Alt.Cells.xs.length; omega)) rfl rfl rfl rfl rfl rfl rfl rfl rfl rfl rfl rfl rfl rfl rfl)
  have hlt : r26.dat.X = r26.dat.W - 1 := by show r26.X = r26.W - 1; have h9 := h48; simp at h9; omega
  refine WC.region (WL.r 8 hs47 [0] rfl (WL.st tbk hs47 0 rfl rfl (fun _ hs54 => WL.nil (retK0 rfl ?_))))
  obtain ⟨L56, hs55, ho57⟩ := ownScrR.fl hs54 ho38 ho46 ho40 ho41
  have hs58 := (hs55.fb b_s)
  refine ownScrR.retp4 rfl ((hs58.fr L56).fb b_s) ho57 ?_
  · first | (rw [runeD_lt hd28 hlt, hpt, hfd]; exact ScrD.ext' rfl rfl rfl (fill_one (g := r26.Alt.dat) rfl rfl (by show 0 ≤ r26.X ∧ r26.X < r26.Alt.W; omega) (by show 0 ≤ r26.Y; omega) rfl (by show (r26.Y * r26.Alt.W).toNat + r26.X.toNat < r26.Alt.Cells.xs.length; omega)) rfl rfl rfl rfl rfl rfl rfl rfl rfl rfl rfl rfl rfl rfl rfl) | (rw [runeD_eq hd28 hlt, hpt, hfd]; exact ScrD.ext' rfl rfl rfl (fill_one (g := r26.Alt.dat) rfl rfl (by show 0 ≤ r26.X ∧ r26.X < r26.Alt.W; omega) (by show 0 ≤ r26.Y; omega) rfl (by show (r26.Y * r26.Alt.W).toNat + r26.X.toNat < r26.Alt.Cells.xs.length; omega)) rfl rfl rfl rfl rfl rfl rfl rfl rfl rfl rfl rfl rfl rfl rfl)
 have hfd : shownD r26.dat = r26.Main.dat := by unfold shownD; rw [if_neg (show ¬ r26.dat.OnAlt = true from by show ¬ r26.OnAlt = true; rw [hx]; decide)]; rfl
 have hpt : ∀ g9, putD r26.dat g9 = { r26.dat with Main := g9 } := fun g9 => by unfold putD; rw [if_neg (show ¬ r26.dat.OnAlt = true from by show ¬ r26.OnAlt = true; rw [hx]; decide)]
 have hgw2 : r26.Main.W = r26.W ∧ r26.Main.H = r26.H := ⟨(congrArg GridD.W hfd).symm.trans hsh2.1, (congrArg GridD.H hfd).symm.trans hsh2.2⟩
 have hgl3 : (r26.Main.Cells.xs.length : Int) = r26.W * r26.H := by have h9 := hgl2; rw [hsh2.1, hsh2.2, hfd] at h9; exact h9
 have hnl3 := ownScrR.len ‹ownScrR r26 _›
 have hcp3 := (ownScrR.ok (B := 549755813888) ho27 (hs29.ow L25) hsmr).Main.Cells_c
 have e0m : r26.Y * r26.Main.W = r26.Y * r26.W := by rw [hgw2.1]
 have e1m : (r26.Y + 1) * r26.Main.W = (r26.Y + 1) * r26.W := by rw [hgw2.1]
 refine WC.seq (fun K59 hK59 => WC.rG 20 (hs29.rm L25) hs29 hs29 (fun _ hs60 => ?_))
 refine WG.rn [0, 4, 5, 6, 7, 9, 10, 11, 12, 13, 14, 15, 16, 17] hs60 [0, 0, 0] rfl rfl ?_
 refine WG.tk 18 rfl (by kernel_rfl) rfl rfl rfl hs60 (fun w_ hs_ => (Run.build rfl rfl rfl rfl (built_75_0_1 _ _ _ _ _ _))) ?_
 refine WG.o1 1 rfl rfl ?_
 refine WL.cl Tryz.call223 rfl (k146_ _ _ _ _ _ _ _ _ _ _ _ _ _ _ _ _ _ _ _ _ _ _ _ _ _ _ _ _ _ _ _ _ _ _ _ _ _ (hs60.own _ (nthL_mem (i := 0) rfl)).1 ?_) ?_
 · first | assumption | rfl | omega
 rintro _ whs61 ⟨rfl, hs61⟩
 replace hs61 := hs60.call0 hs61
 refine ⟨_, rfl, WL.nil ⟨hs61, WG.rn [2, 3] hs61 [0] rfl rfl (WG.o1 8 rfl rfl (WL.cl Tryz.call224 rfl (k46_ r26.Main _ _ (ownScrR.ok (B := 549755813888) ho27 (hs61.ow L25) hsmr).Main ?_ ?_ ?_ ?_) ?_))⟩⟩
 iterate 4 first | assumption | rfl | omega
 rintro _ whs62 ⟨rfl, hs62⟩
 replace hs62 := hs61.call0 hs62
 refine ⟨_, rfl, WL.nil ⟨hs62, ?_⟩⟩
 refine WG.tk 19 rfl (by kernel_rfl) rfl rfl rfl hs62 (fun w_ hs_ => (Run.idxK (r26.X.toNat) Tryz.runUnderlying26 Tryz.sizeOf75 rfl rfl rfl ?_ ?_ ?_)) ?_
 · exact SlF.some_ (SlF.cutC (lo := (r26.Y * r26.Main.W).toNat) (hi := ((r26.Y + 1) * r26.Main.W).toNat) (ownScrR.ok (B := 549755813888) ho27 ((hs_ : St _ _ _ _).ow L25) hsmr).Main.Cells (by refine ⟨?_, ?_, ?_⟩ <;> (omega)))
 · omega
 · omega
 refine WG.oK rfl ?_
 obtain ⟨L63, L64, L65, L66, hs71, ho67, ho68, ho69, ho70⟩ := ownScrR.op hs62 ho27
 have hs72 := (hs71.fb b_s)
 refine WL.storeC (x' := (⟨q, ⟨r26.A.Fg, r26.A.Bg, r26.A.Bold, r26.A.Under, r26.A.Turn⟩⟩ : CellD)) (lo := (r26.Y * r26.Main.W).toNat) (hs72.fr L63) ho67 Tryz.sizeOf75 rfl rfl rfl rfl rfl rfl rfl rfl rfl ?_ rfl (fun L73 whs74 hs74 ho75 _ => ?_)
 · omega
 replace hs74 := St.back [_] hs74
 refine WL.nil ⟨((((hs74.rm L73).rm L64).rm L65).rm L66), WH.dn (hK59 _ _ (WC.q1 hs74 [0, 0] rfl (fun _ hs76 => ?_)))⟩
 refine WC.cq rfl (fun h77 qh77 => ?_) (fun h77 qh77 => ?_)
 ·have hlt : r26.dat.X ≠ r26.dat.W - 1 := by show r26.X ≠ r26.W - 1; have h9 := h77; simp at h9; omega
  refine WC.region (WL.r 7 hs76 [0] rfl (WL.st tbk hs76 0 rfl rfl (fun _ hs78 => WL.nil (retK0 rfl ?_))))
  obtain ⟨L80, hs79, ho81⟩ := ownScrR.fl hs78 ho75 ho68 ho69 ho70
  have hs82 := (hs79.fb b_s)
  refine ownScrR.retp4 rfl ((hs82.fr L80).fb b_s) ho81 ?_
  · first | (rw [runeD_lt hd28 hlt, hpt, hfd]; exact ScrD.ext' rfl rfl (fill_one (g := r26.Main.dat) rfl rfl (by show 0 ≤ r26.X ∧ r26.X < r26.Main.W; omega) (by show 0 ≤ r26.Y; omega) rfl (by show (r26.Y * r26.Main.W).toNat + r26.X.toNat < r26.Main.Cells.xs.length; omega)) rfl rfl rfl rfl rfl rfl rfl rfl rfl rfl rfl rfl rfl rfl rfl rfl) | (rw [runeD_eq hd28 hlt, hpt, hfd]; exact ScrD.ext' rfl rfl (fill_one (g := r26.Main.dat) rfl rfl (by show 0 ≤ r26.X ∧ r26.X < r26.Main.W; omega) (by show 0 ≤ r26.Y; omega) rfl (by show (r26.Y * r26.Main.W).toNat + r26.X.toNat < r26.Main.Cells.xs.length; omega)) rfl rfl rfl rfl rfl rfl rfl rfl rfl rfl rfl rfl rfl rfl rfl rfl)
 have hlt : r26.dat.X = r26.dat.W - 1 := by show r26.X = r26.W - 1; have h9 := h77; simp at h9; omega
 refine WC.region (WL.r 8 hs76 [0] rfl (WL.st tbk hs76 0 rfl rfl (fun _ hs83 => WL.nil (retK0 rfl ?_))))
 obtain ⟨L85, hs84, ho86⟩ := ownScrR.fl hs83 ho75 ho68 ho69 ho70
 have hs87 := (hs84.fb b_s)
 refine ownScrR.retp4 rfl ((hs87.fr L85).fb b_s) ho86 ?_
 · first | (rw [runeD_lt hd28 hlt, hpt, hfd]; exact ScrD.ext' rfl rfl (fill_one (g := r26.Main.dat) rfl rfl (by show 0 ≤ r26.X ∧ r26.X < r26.Main.W; omega) (by show 0 ≤ r26.Y; omega) rfl (by show (r26.Y * r26.Main.W).toNat + r26.X.toNat < r26.Main.Cells.xs.length; omega)) rfl rfl rfl rfl rfl rfl rfl rfl rfl rfl rfl rfl rfl rfl rfl rfl) | (rw [runeD_eq hd28 hlt, hpt, hfd]; exact ScrD.ext' rfl rfl (fill_one (g := r26.Main.dat) rfl rfl (by show 0 ≤ r26.X ∧ r26.X < r26.Main.W; omega) (by show 0 ≤ r26.Y; omega) rfl (by show (r26.Y * r26.Main.W).toNat + r26.X.toNat < r26.Main.Cells.xs.length; omega)) rfl rfl rfl rfl rfl rfl rfl rfl rfl rfl rfl rfl rfl rfl rfl rfl)
theorem k149_ (A_s : Option Addr) (n_s c_s : Nat) (s : List Int) (p : Int → Bool) (cv : Value) (w : World) (f_s : SlF encI w A_s n_s s) (hcl : ∀ w1 : World, St w [] [] w1 → ∀ m : Int, Calls Tryz.prog 227 #[i64 m, cv] w1 fun e w2 => e = .returned (.bool (p m)) ∧ St w1 [] [] w2) (hn : n_s ≤ 1048576) :
    Calls Tryz.prog 226 #[.slice A_s n_s c_s, .func (.func 227) #[] #[cv]] w fun e w' => e = .returned (i64 (findI p s)) ∧ St w [] [] w' := by
 refine enter 19 Tryz.func226 rfl Tryz.ntmps226 rfl rfl ?_
 have hs1 := St.init w
 refine WC.r1 hs1 [] rfl (WC.seq (fun K2 hK2 => WC.r1 hs1 [] rfl (WC.block ?_)))
 refine WC.lS [0, 1, 7] rfl hs1 (fun k_ f w' => ∃ (i : Nat), k_ = n_s - i ∧ (i ≤ n_s) ∧ (∀ j, j < i → p (iat s j) = false) ∧ Sub [(8, .int .i64 i)] f) ((fun (i : Nat) => n_s - i) (0)) ?_ ?_
 ·refine ⟨0, rfl, ?_, ?_, ⟨rfl, trivial⟩⟩
  · exact Nat.zero_le _
  · exact fun j hj => absurd hj (by omega)
 clear hs1
 rintro _ f w ⟨i, rfl, p0, p1, hG⟩ hF hs3
 refine WC.sub _ (hG.app hF) ?_
 clear hG hF
 refine WC.r1 hs3 [] rfl (WC.seq (fun K4 hK4 => ?_))
 refine WC.cond rfl (fun h5 => ?_) (fun h5 => ?_)
 ·have qh5 := h5
  try simp only [decide_eq_true_eq, decide_eq_false_iff_not] at qh5
  refine WC.skip (hK4 _ _ (WC.seq (fun K6 hK6 => WC.block (WC.r1 hs3 [] rfl (WC.sr (WL.r 3 hs3 [] rfl ?_))))))
  refine WL.val rfl rfl rfl (Run.idxN Tryz.runUnderlying23 Tryz.sizeOf3 rfl rfl rfl ?_ ?_ ?_) ?_
  · exact SlF.some_ (SlF.st0 f_s hs3)
  · omega
  · omega
  refine WL.val rfl rfl rfl (Run.load Tryz.isAgg3 rfl rfl (SlF.one1 (SlF.st0 f_s hs3) ?_ rfl)) ?_
  · omega
  refine WL.call rfl rfl rfl (Run.callC Tryz.call227 rfl rfl rfl) (hcl _ hs3 _) ?_
  rintro _ whs7 ⟨rfl, hs7⟩
  replace hs7 := hs3.call0 hs7
  refine ⟨_, rfl, WL.nil (WC.cond rfl (fun h8 => ?_) (fun h8 => ?_))⟩
  ·have qh8 := h8
   try simp only [decide_eq_true_eq, decide_eq_false_iff_not] at qh8
   refine WC.r1 hs7 [] rfl (WC.ret (ibR (tkR (tkR (ibR (tkR ?_))))))
   clear hK6 hK2
   refine rtv rfl rfl hs7 ?_
   rw [findI_some (F := encI) (by rw [f_s.len]; omega) p1 h8]
  have qh8 := h8
  try simp only [decide_eq_true_eq, decide_eq_false_iff_not] at qh8
  refine WC.skip (hK6 _ _ (WC.region (WL.r 2 hs7 [] rfl (WL.nil (tkN ?_)))))
  refine ⟨sbF rfl, hs7, _, ?_, i + 1, rfl, ?_, ?_, ⟨rfl, trivial⟩⟩
  · omega
  · omega
  · intro j hj; rcases Nat.lt_or_ge j i with h_ | h_
    · exact p1 j h_
    · obtain rfl : j = i := by omega
      exact h8
 have qh5 := h5
 try simp only [decide_eq_true_eq, decide_eq_false_iff_not] at qh5
 refine WC.exit (hK2 _ _ (WC.r1 hs3 [] rfl (WC.ret (rtv rfl rfl hs3 ?_))))
 rw [findI_none (F := encI) (fun j hj => p1 j (by rw [f_s.len] at hj; omega))]
theorem k150_ (u_0 u_1 u_2 u_3 : Value) (b_p b_s : Nat) (s : ScrR) (m : Int) (w : World) (hp : w.heap[b_p]? = some (Obj.cells (List.toArray [.pointer (some ⟨b_s, 4, none⟩)]) 115 (0, 0))) (hq : w.heap[b_s]? = some (oS u_0 u_1 u_2 u_3 s)) (hne : b_p ≠ b_s) :
    Calls Tryz.prog 227 #[i64 m, .pointer (some ⟨b_p, 0, none⟩)] w fun e w' => e = .returned (.bool (decide (s.X < m))) ∧ St w [] [] w' := by
 refine enter 10 Tryz.func227 rfl Tryz.ntmps227 rfl rfl ?_
 have hs1 := St.take w [(b_p, Obj.cells (List.toArray [.pointer (some ⟨b_s, 4, none⟩)]) 115 (0, 0)), (b_s, oS u_0 u_1 u_2 u_3 s)] (fun p hp_ => by rcases List.mem_cons.1 hp_ with rfl | hp_; exact hp; obtain rfl := List.mem_singleton.1 hp_; exact hq) (by simp [hne])
 refine WC.r1 hs1 [] rfl (WC.r1 hs1 [0, 1] rfl (WC.ret (retV1 rfl (resV.tmp rfl) (⟨rfl, St.untouch hs1 (fun k hk => ?_) (fun p hp_ => ?_)⟩))))
 · rcases List.mem_cons.1 hk with rfl | hk
   · exact ⟨_, List.mem_cons_self⟩
   · obtain rfl := List.mem_singleton.1 hk
     exact ⟨_, List.mem_cons_of_mem _ List.mem_cons_self⟩
 · rcases List.mem_cons.1 hp_ with rfl | hp_
   · exact hp
   · obtain rfl := List.mem_singleton.1 hp_
     exact hq
theorem k151_ (u_0 u_1 u_2 u_3 : Value) (b_s : Nat) (s : ScrR) (L_s : Hp) (b : Int) (w : World) (hb_s : w.heap[b_s]? = some (oS u_0 u_1 u_2 u_3 s)) (o_s : ownScrR s L_s) (h_s : Hh w L_s) (hd_ : (b_s :: L_s.map (·.1)).Nodup) (hf : ScrFine s.dat) (hsm : smScr 1048576 s.dat) :
    Calls Tryz.prog 174 #[.pointer (some ⟨b_s, 4, none⟩), i64 b] w fun e w' => ∃ r L1, e = .returned (.tuple #[]) ∧ St w (b_s :: L_s.map (·.1)) ([(b_s, oS u_0 u_1 u_2 u_3 r)] ++ L1) w' ∧ ownScrR r L1 ∧ r.dat = ctlD s.dat b := by
 have hsmB : smScr 549755813888 s.dat := by first | assumption | exact smScr_mono hsm (by decide)
 have hok9 := hf.ok
 obtain ⟨hb1, hb2, hb3, hb4, hb5, hb6⟩ := scrOk_bnd hok9
 obtain ⟨hm, hma⟩ := scrOk_main hok9
 simp only [ScrR.dat, GridR.dat, List.length_map] at hb1 hb2 hb3 hb4 hb5 hb6
 have hwh : (1 ≤ s.W ∧ s.W ≤ 120) ∧ 1 ≤ s.H ∧ s.H ≤ 120 := ⟨(isSize_bnd hf.size).1, (isSize_bnd hf.size).2.1⟩
 have hxy := hf.pos
 simp only [ScrR.dat, GridR.dat] at hxy
 obtain ⟨_, _, hTl, _⟩ := ownScrR.len o_s
 have hTs : s.Tabs.xs.length ≤ 1048576 := hsm.2.2.1
 refine enter 63 Tryz.func174 rfl Tryz.ntmps174 rfl rfl ?_
 have hs1 := St.takeP w b_s _ L_s hb_s h_s hd_
 refine WC.sr (WL.bx hs1 rfl (fun b2 _ hs3 => WL.nil (WC.r1 hs3 [] rfl (WC.block (WC.r1 hs3 [] rfl ?_)))))
 refine WC.cq rfl (fun h4 qh4 => ?_) (fun h4 qh4 => ?_)
 ·have e8 : b = 8 := by have h9 := h4; simpa using h9
  refine WC.rG 10 ((hs3.fb b_s).d1.rm L_s) hs3 hs3 (fun _ hs5 => ?_)
  refine WG.rn [0, 1, 2, 3, 4, 5, 6, 7, 8, 9] hs5 [0, 0, 1, 0, 1] rfl rfl (WG.oK rfl ?_)
  have hF6 := ((hs5.fr L_s).fb b_s)
  refine WL.cl Tryz.call225 rfl (k134_ _ _ _ _ _ s _ _ _ _ (St.headP hF6) o_s (St.ownP hF6) (St.nodupP hF6) ?_) ?_
  · first | assumption | rfl | omega
  rintro _ whs7 ⟨r8, L9, rfl, hs7, ho10, hd11⟩
  replace hs7 := St.lendP hF6 hs7
  refine ⟨_, rfl, ?_⟩
  have hs12 := ((hs7.fb b2).fb b_s)
  refine WL.nil ⟨(hs12.d1.rm L9), WH.dn (ibN (retK0 rfl (⟨r8, _, rfl, St.keepP (L1 := L9) ((hs12.fr L9).fb b_s), ho10, ?_⟩)))⟩
  · unfold ctlD; rw [if_pos e8]; exact hd11
 have e8 : ¬ b = 8 := by have h9 := h4; simpa using h9
 refine WC.r1 hs3 [] rfl (WC.cq rfl (fun h13 qh13 => ?_) (fun h13 qh13 => ?_))
 ·have e9 : b = 9 := by have h9 := h13; simpa using h9
  refine WC.r1 hs3 [0, 1] rfl (WC.seq (fun K14 hK14 => WC.sr (WL.r 4 hs3 [0, 1] rfl (WL.val rfl rfl rfl (Run.makeFunc rfl rfl) ?_))))
  refine WL.cl Tryz.call226 rfl (k149_ _ _ _ _ _ _ _ (ownScrR.ok (B := 549755813888) o_s (hs3.ow L_s) (by assumption)).Tabs (fun w_ hx_ m_ => k150_ _ _ _ _ b2 b_s s m_ w_ ((hx_.keep _ (lt_of_heap (hs3.own _ (nthL_mem (i := 0) rfl)).1) (by simp)).trans (hs3.own _ (nthL_mem (i := 0) rfl)).1) ((hx_.keep _ (lt_of_heap (hs3.own _ (nthL_mem (i := 1) rfl)).1) (by simp)).trans (hs3.own _ (nthL_mem (i := 1) rfl)).1) (St.neq hs3 (i := 0) (j := 1) rfl rfl (by decide))) ?_) ?_
  · first | assumption | rfl | omega
  rintro _ whs15 ⟨rfl, hs15⟩
  replace hs15 := hs3.call0 hs15
  refine ⟨_, rfl, WL.r 1 hs15 [] rfl (WL.nil (WC.r1 hs15 [] rfl (WC.cq rfl (fun h16 qh16 => ?_) (fun h16 qh16 => ?_))))⟩
  ·have hk0 : 0 ≤ findI (fun n => decide (s.X < n)) s.Tabs.xs := by have h9 := h16; simpa using h9
   have hkn := findI_bnd (p := fun n => decide (s.X < n)) (s := s.Tabs.xs) (by omega)
   have hnt : nextTab s.dat = iat s.Tabs.xs (findI (fun n => decide (s.X < n)) s.Tabs.xs).toNat := by unfold nextTab; exact if_pos hk0
   refine WC.region (WL.r 5 hs15 [0, 1] rfl (WL.val rfl rfl rfl (Run.idxK ((findI (fun n => decide (s.X < n)) s.Tabs.xs).toNat) Tryz.runUnderlying23 Tryz.sizeOf3 rfl rfl rfl ?_ ?_ ?_) ?_))
   · exact SlF.some_ (ownScrR.ok (B := 549755813888) o_s (hs15.ow L_s) (by assumption)).Tabs
   · omega
   · omega
   refine WL.val rfl rfl rfl (Run.load Tryz.isAgg3 rfl rfl (SlF.one1 (ownScrR.ok (B := 549755813888) o_s (hs15.ow L_s) (by assumption)).Tabs ?_ rfl)) ?_
   · omega
   refine WL.r 1 hs15 [] rfl (WL.nil (hK14 _ _ (WC.rG 6 ((hs15.fb b_s).d1.rm L_s) hs15 hs15 (fun _ hs17 => ?_))))
   refine WG.rn [0, 1, 2, 3, 4, 5] hs17 [0, 0, 1] rfl rfl (WG.oK rfl ?_)
   have hF18 := ((hs17.fr L_s).fb b_s)
   refine WL.cl Tryz.call225 rfl (k134_ _ _ _ _ _ s _ _ _ _ (St.headP hF18) o_s (St.ownP hF18) (St.nodupP hF18) ?_) ?_
   · first | assumption | rfl | omega
   rintro _ whs19 ⟨r20, L21, rfl, hs19, ho22, hd23⟩
   replace hs19 := St.lendP hF18 hs19
   refine ⟨_, rfl, ?_⟩
   have hs24 := ((hs19.fb b2).fb b_s)
   refine WL.nil ⟨(hs24.d1.rm L21), WH.dn (ibN (retK0 rfl (⟨r20, _, rfl, St.keepP (L1 := L21) ((hs24.fr L21).fb b_s), ho22, ?_⟩)))⟩
   · unfold ctlD; rw [if_neg e8, if_pos e9]; rw [hnt]; exact hd23
  have hnt : nextTab s.dat = s.W - 1 := by unfold nextTab; exact if_neg (show ¬ 0 ≤ findI (fun n => decide (s.X < n)) s.Tabs.xs by have h9 := h16; simp at h9; omega)
  refine WC.skip (hK14 _ _ (WC.rG 6 ((hs15.fb b_s).d1.rm L_s) hs15 hs15 (fun _ hs25 => ?_)))
  refine WG.rn [0, 1, 2, 3, 4, 5] hs25 [0, 0, 1] rfl rfl (WG.oK rfl ?_)
  have hF26 := ((hs25.fr L_s).fb b_s)
  refine WL.cl Tryz.call225 rfl (k134_ _ _ _ _ _ s _ _ _ _ (St.headP hF26) o_s (St.ownP hF26) (St.nodupP hF26) ?_) ?_
  · first | assumption | rfl | omega
  rintro _ whs27 ⟨r28, L29, rfl, hs27, ho30, hd31⟩
  replace hs27 := St.lendP hF26 hs27
  refine ⟨_, rfl, ?_⟩
  have hs32 := ((hs27.fb b2).fb b_s)
  refine WL.nil ⟨(hs32.d1.rm L29), WH.dn (ibN (retK0 rfl (⟨r28, _, rfl, St.keepP (L1 := L29) ((hs32.fr L29).fb b_s), ho30, ?_⟩)))⟩
  · unfold ctlD; rw [if_neg e8, if_pos e9]; rw [hnt]; exact hd31
 have e9 : ¬ b = 9 := by have h9 := h13; simpa using h9
 refine WC.seq (fun K33 hK33 => WC.r1 hs3 [] rfl ?_)
 refine WC.cq rfl (fun h34 qh34 => ?_) (fun h34 qh34 => ?_)
 ·have e10 : b = 10 := by have h9 := h34; simpa using h9
  refine WC.skip (hK33 _ _ (WC.condT rfl h34 (WC.region (WL.r 1 hs3 [0] rfl ?_))))
  have hF36 := ((hs3.fr L_s).fb b_s)
  refine WL.cl Tryz.call151 rfl (k129_ _ _ _ _ _ s _ _ (St.headP hF36) o_s (St.ownP hF36) (St.nodupP hF36) ?_ ?_) ?_
  iterate 2 first | assumption | rfl | omega
  rintro _ whs37 ⟨r38, L39, rfl, hs37, ho40, hd41⟩
  replace hs37 := St.lendP hF36 hs37
  refine ⟨_, rfl, ?_⟩
  have hs42 := ((hs37.fb b2).fb b_s)
  refine WL.nil (ibN (retK0 rfl (⟨r38, _, rfl, St.keepP (L1 := L39) ((hs42.fr L39).fb b_s), ho40, ?_⟩)))
  · unfold ctlD; rw [if_neg e8, if_neg e9, if_pos (show b = 10 ∨ b = 11 ∨ b = 12 by omega)]; exact hd41
 have e10 : ¬ b = 10 := by have h9 := h34; simpa using h9
 refine WC.r1 hs3 [] rfl (WC.cq rfl (fun h43 qh43 => ?_) (fun h43 qh43 => ?_))
 ·have e11 : b = 11 := by have h9 := h43; simpa using h9
  refine WC.skip (hK33 _ _ (WC.condT rfl h43 (WC.region (WL.r 1 hs3 [0] rfl ?_))))
  have hF45 := ((hs3.fr L_s).fb b_s)
  refine WL.cl Tryz.call151 rfl (k129_ _ _ _ _ _ s _ _ (St.headP hF45) o_s (St.ownP hF45) (St.nodupP hF45) ?_ ?_) ?_
  iterate 2 first | assumption | rfl | omega
  rintro _ whs46 ⟨r47, L48, rfl, hs46, ho49, hd50⟩
  replace hs46 := St.lendP hF45 hs46
  refine ⟨_, rfl, ?_⟩
  have hs51 := ((hs46.fb b2).fb b_s)
  refine WL.nil (ibN (retK0 rfl (⟨r47, _, rfl, St.keepP (L1 := L48) ((hs51.fr L48).fb b_s), ho49, ?_⟩)))
  · unfold ctlD; rw [if_neg e8, if_neg e9, if_pos (show b = 10 ∨ b = 11 ∨ b = 12 by omega)]; exact hd50
 have e11 : ¬ b = 11 := by have h9 := h43; simpa using h9
 refine WC.region (WL.r 2 hs3 [] rfl (WL.nil (hK33 _ _ ?_)))
 refine WC.cq rfl (fun h52 qh52 => ?_) (fun h52 qh52 => ?_)
 ·have e12 : b = 12 := by have h9 := h52; simpa using h9
  refine WC.region (WL.r 1 hs3 [0] rfl ?_)
  have hF53 := ((hs3.fr L_s).fb b_s)
  refine WL.cl Tryz.call151 rfl (k129_ _ _ _ _ _ s _ _ (St.headP hF53) o_s (St.ownP hF53) (St.nodupP hF53) ?_ ?_) ?_
  iterate 2 first | assumption | rfl | omega
  rintro _ whs54 ⟨r55, L56, rfl, hs54, ho57, hd58⟩
  replace hs54 := St.lendP hF53 hs54
  refine ⟨_, rfl, ?_⟩
  have hs59 := ((hs54.fb b2).fb b_s)
  refine WL.nil (ibN (retK0 rfl (⟨r55, _, rfl, St.keepP (L1 := L56) ((hs59.fr L56).fb b_s), ho57, ?_⟩)))
  · unfold ctlD; rw [if_neg e8, if_neg e9, if_pos (show b = 10 ∨ b = 11 ∨ b = 12 by omega)]; exact hd58
 have e12 : ¬ b = 12 := by have h9 := h52; simpa using h9
 refine WC.r1 hs3 [] rfl (WC.cq rfl (fun h60 qh60 => ?_) (fun h60 qh60 => ?_))
 ·have e13 : b = 13 := by have h9 := h60; simpa using h9
  refine WC.rG 5 ((hs3.fb b_s).d1.rm L_s) hs3 hs3 (fun _ hs61 => ?_)
  refine WG.rn [0, 1, 2, 3, 4] hs61 [0, 0, 1] rfl rfl (WG.oK rfl ?_)
  have hF62 := ((hs61.fr L_s).fb b_s)
  refine WL.cl Tryz.call225 rfl (k134_ _ _ _ _ _ s _ _ _ _ (St.headP hF62) o_s (St.ownP hF62) (St.nodupP hF62) ?_) ?_
  · first | assumption | rfl | omega
  rintro _ whs63 ⟨r64, L65, rfl, hs63, ho66, hd67⟩
  replace hs63 := St.lendP hF62 hs63
  refine ⟨_, rfl, ?_⟩
  have hs68 := ((hs63.fb b2).fb b_s)
  refine WL.nil ⟨(hs68.d1.rm L65), WH.dn (ibN (retK0 rfl (⟨r64, _, rfl, St.keepP (L1 := L65) ((hs68.fr L65).fb b_s), ho66, ?_⟩)))⟩
  · unfold ctlD; rw [if_neg e8, if_neg e9, if_neg (show ¬ (b = 10 ∨ b = 11 ∨ b = 12) by omega), if_pos e13]; exact hd67
 have e13 : ¬ b = 13 := by have h9 := h60; simpa using h9
 refine WC.skip (ibN (retK0 rfl (⟨s, _, rfl, St.keepP (L1 := L_s) ((hs3.fr L_s).fb b_s), o_s, ?_⟩)))
 · unfold ctlD; rw [if_neg e8, if_neg e9, if_neg (show ¬ (b = 10 ∨ b = 11 ∨ b = 12) by omega), if_neg e13]
theorem k152_ (u_0 u_1 u_2 u_3 : Value) (b_s : Nat) (s : ScrR) (L_s : Hp) (a : ActR) (w : World) (hb_s : w.heap[b_s]? = some (oS u_0 u_1 u_2 u_3 s)) (o_s : ownScrR s L_s) (h_s : Hh w L_s) (f_a : SlF encI w a.Args.A a.Args.n a.Args.xs) (s_a : 0 < a.Args.n → (adr a.Args.A).block ∉ (b_s :: L_s.map (·.1))) (hd_ : (b_s :: L_s.map (·.1)).Nodup) (hf : ScrFine s.dat) (hsm : smScr 1048576 s.dat) (ha : areArgs a.dat.Args = true) (han : a.Args.n ≤ 549755813888) :
    Calls Tryz.prog 118 #[.pointer (some ⟨b_s, 4, none⟩), .agg #[i64 a.Kind, i64 a.R, .bool a.Mark, .slice a.Args.A a.Args.n a.Args.c]] w fun e w' => ∃ r L1, e = .returned (.tuple #[]) ∧ St w (b_s :: L_s.map (·.1)) ([(b_s, oS u_0 u_1 u_2 u_3 r)] ++ L1) w' ∧ ownScrR r L1 ∧ r.dat = doAct s.dat a.dat := by
 have hsmB : smScr 549755813888 s.dat := by first | assumption | exact smScr_mono hsm (by decide)
 refine enter 37 Tryz.func118 rfl Tryz.ntmps118 rfl rfl ?_
 have hs1 := St.takeP w b_s _ L_s hb_s h_s hd_
 refine WC.sr (WL.bx hs1 rfl (fun b2 _ hs3 => WL.nil (WC.r1 hs3 [0] rfl (WC.block (WC.r1 hs3 [] rfl ?_)))))
 refine WC.cq rfl (fun h4 qh4 => ?_) (fun h4 qh4 => ?_)
 ·have e1 : a.Kind = 1 := by have h9 := h4; simpa using h9
  refine WC.sr (WL.r 2 hs3 [0] rfl (WL.cl Tryz.call171 rfl (k1_ _ _) ?_))
  rintro _ whs5 ⟨rfl, hs5⟩
  replace hs5 := hs3.call0 hs5
  refine ⟨_, rfl, WL.nil (WC.cq rfl (fun h6 qh6 => ?_) (fun h6 qh6 => ?_))⟩
  ·have hsh : shows a.dat.R = true := h6
   refine WC.region (WL.r 3 hs5 [0] rfl ?_)
   have hF7 := ((hs5.fr L_s).fb b_s)
   refine WL.cl Tryz.call172 rfl (k148_ _ _ _ _ _ s _ _ _ (St.headP hF7) o_s (St.ownP hF7) (St.nodupP hF7) ?_ ?_) ?_
   iterate 2 first | assumption | rfl | omega
   rintro _ whs8 ⟨r9, L10, rfl, hs8, ho11, hd12⟩
   replace hs8 := St.lendP hF7 hs8
   refine ⟨_, rfl, ?_⟩
   have hs13 := ((hs8.fb b2).fb b_s)
   refine WL.nil (ibN (retK0 rfl (⟨r9, _, rfl, St.keepP (L1 := L10) ((hs13.fr L10).fb b_s), ho11, ?_⟩)))
   · unfold doAct; rw [if_pos (show a.dat.Kind = 1 from e1), if_pos hsh]; exact hd12
  have hsh : ¬ shows a.dat.R = true := by show ¬ shows a.R = true; have h9 := h6; rw [h9]; decide
  refine WC.skip (ibN (retK0 rfl (⟨s, _, rfl, St.keepP (L1 := L_s) ((hs5.fr L_s).fb b_s), o_s, ?_⟩)))
  · unfold doAct; rw [if_pos (show a.dat.Kind = 1 from e1), if_neg hsh]
 have e1 : ¬ a.Kind = 1 := by have h9 := h4; simpa using h9
 refine WC.r1 hs3 [] rfl (WC.cq rfl (fun h14 qh14 => ?_) (fun h14 qh14 => ?_))
 ·have e2 : a.Kind = 2 := by have h9 := h14; simpa using h9
  refine WC.region (WL.r 3 hs3 [0] rfl ?_)
  have hF15 := ((hs3.fr L_s).fb b_s)
  refine WL.cl Tryz.call174 rfl (k151_ _ _ _ _ _ s _ _ _ (St.headP hF15) o_s (St.ownP hF15) (St.nodupP hF15) ?_ ?_) ?_
  iterate 2 first | assumption | rfl | omega
  rintro _ whs16 ⟨r17, L18, rfl, hs16, ho19, hd20⟩
  replace hs16 := St.lendP hF15 hs16
  refine ⟨_, rfl, ?_⟩
  have hs21 := ((hs16.fb b2).fb b_s)
  refine WL.nil (ibN (retK0 rfl (⟨r17, _, rfl, St.keepP (L1 := L18) ((hs21.fr L18).fb b_s), ho19, ?_⟩)))
  · unfold doAct; rw [if_neg (show ¬ a.dat.Kind = 1 from e1), if_pos (show a.dat.Kind = 2 from e2)]; exact hd20
 have e2 : ¬ a.Kind = 2 := by have h9 := h14; simpa using h9
 refine WC.r1 hs3 [] rfl (WC.cq rfl (fun h22 qh22 => ?_) (fun h22 qh22 => ?_))
 ·have e3 : a.Kind = 3 := by have h9 := h22; simpa using h9
  refine WC.region (WL.r 3 hs3 [0] rfl ?_)
  have hF23 := ((hs3.fr L_s).fb b_s)
  refine WL.cl Tryz.call76 rfl (k133_ _ _ _ _ _ s _ _ _ (St.headP hF23) o_s (St.ownP hF23) (St.nodupP hF23) ?_ ?_) ?_
  iterate 2 first | assumption | rfl | omega
  rintro _ whs24 ⟨r25, L26, rfl, hs24, ho27, hd28⟩
  replace hs24 := St.lendP hF23 hs24
  refine ⟨_, rfl, ?_⟩
  have hs29 := ((hs24.fb b2).fb b_s)
  refine WL.nil (ibN (retK0 rfl (⟨r25, _, rfl, St.keepP (L1 := L26) ((hs29.fr L26).fb b_s), ho27, ?_⟩)))
  · unfold doAct; rw [if_neg (show ¬ a.dat.Kind = 1 from e1), if_neg (show ¬ a.dat.Kind = 2 from e2), if_pos (show a.dat.Kind = 3 from e3)]; exact hd28
 have e3 : ¬ a.Kind = 3 := by have h9 := h22; simpa using h9
 refine WC.r1 hs3 [] rfl (WC.cq rfl (fun h30 qh30 => ?_) (fun h30 qh30 => ?_))
 ·have e4 : a.Kind = 4 := by have h9 := h30; simpa using h9
  refine WC.region (WL.r 7 hs3 [0, 0, 0] rfl ?_)
  have hF31 := ((hs3.fr L_s).fb b_s)
  refine WL.cl Tryz.call103 rfl (k145_ _ _ _ _ _ s _ _ _ _ _ _ _ _ (St.headP hF31) o_s (St.ownP hF31) (SlF.st f_a hs3 s_a) (St.nodupP hF31) (St.sepTP hF31 f_a s_a) ?_ ?_ ?_ ?_) ?_
  iterate 4 first | assumption | omega
  rintro _ whs32 ⟨r33, L34, rfl, hs32, ho35, hd36⟩
  replace hs32 := St.lendP hF31 hs32
  refine ⟨_, rfl, ?_⟩
  have hs37 := ((hs32.fb b2).fb b_s)
  refine WL.nil (ibN (retK0 rfl (⟨r33, _, rfl, St.keepP (L1 := L34) ((hs37.fr L34).fb b_s), ho35, ?_⟩)))
  · unfold doAct; rw [if_neg (show ¬ a.dat.Kind = 1 from e1), if_neg (show ¬ a.dat.Kind = 2 from e2), if_neg (show ¬ a.dat.Kind = 3 from e3), if_pos (show a.dat.Kind = 4 from e4)]; exact hd36
 have e4 : ¬ a.Kind = 4 := by have h9 := h30; simpa using h9
 refine WC.skip (ibN (retK0 rfl (⟨s, _, rfl, St.keepP (L1 := L_s) ((hs3.fr L_s).fb b_s), o_s, ?_⟩)))
 · unfold doAct; rw [if_neg (show ¬ a.dat.Kind = 1 from e1), if_neg (show ¬ a.dat.Kind = 2 from e2), if_neg (show ¬ a.dat.Kind = 3 from e3), if_neg (show ¬ a.dat.Kind = 4 from e4)]
theorem built_35_0_1 (x0 : Value) (x1 : Value) (x2 : Value) (x3 : Value) (x4 : Value) (x5 : Value) (x6 : Value) (x7 : Value) (x8 : Value) (x9 : Value) (x10 : Value) (x11 : Value) (x12 : Value) (x13 : Value) (x14 : Value) (x15 : Value) (x16 : Value) (x17 : Value) (x18 : Value) (x19 : Value) (x20 : Value) (x21 : Value) (x22 : Value) (x23 : Value) (x24 : Value) (x25 : Value) (x26 : Value) (x27 : Value) (x28 : Value) (x29 : Value) (x30 : Value) (x31 : Value) (x32 : Value) (x33 : Value) (x34 : Value) : Tryz.prog.built 35 [(0, .agg [x0, x1, x2, x3].toArray), (1, .agg [x4, x5, x6, x7, x8, x9, x10, x11, x12, x13, x14, x15, x16, x17, x18, x19, x20, x21, x22, x23, x24, x25, x26, x27, x28, x29, x30, x31, x32, x33, x34].toArray)] = some (List.toArray [x0, x1, x2, x3, x4, x5, x6, x7, x8, x9, x10, x11, x12, x13, x14, x15, x16, x17, x18, x19, x20, x21, x22, x23, x24, x25, x26, x27, x28, x29, x30, x31, x32, x33, x34]) := by kernel_rfl
theorem k153_ (t : TermR) (w : World) (f_t : okTermR 549755813888 w t) (hsm : smTerm 1048576 t.dat) :
    Calls Tryz.prog 116 #[.agg #[i64 t.P.State, .bool t.P.Mark, .slice t.P.Args.A t.P.Args.n t.P.Args.c, .slice t.P.Part.A t.P.Part.n t.P.Part.c, i64 t.S.W, i64 t.S.H, i64 t.S.Main.W, i64 t.S.Main.H, .slice t.S.Main.Cells.A t.S.Main.Cells.n t.S.Main.Cells.c, i64 t.S.Alt.W, i64 t.S.Alt.H, .slice t.S.Alt.Cells.A t.S.Alt.Cells.n t.S.Alt.Cells.c, .bool t.S.OnAlt, i64 t.S.X, i64 t.S.Y, .bool t.S.Wrap, i64 t.S.A.Fg, i64 t.S.A.Bg, .bool t.S.A.Bold, .bool t.S.A.Under, .bool t.S.A.Turn, i64 t.S.Top, i64 t.S.Bot, .bool t.S.NoWrap, .bool t.S.Hide, i64 t.S.SaveX, i64 t.S.SaveY, i64 t.S.SaveA.Fg, i64 t.S.SaveA.Bg, .bool t.S.SaveA.Bold, .bool t.S.SaveA.Under, .bool t.S.SaveA.Turn, .slice t.S.Tabs.A t.S.Tabs.n t.S.Tabs.c, i64 t.S.Limit, .slice t.S.Back.A t.S.Back.n t.S.Back.c]] w fun e w' => ∃ r L1, e = .returned (.agg #[i64 r.P.State, .bool r.P.Mark, .slice r.P.Args.A r.P.Args.n r.P.Args.c, .slice r.P.Part.A r.P.Part.n r.P.Part.c, i64 r.S.W, i64 r.S.H, i64 r.S.Main.W, i64 r.S.Main.H, .slice r.S.Main.Cells.A r.S.Main.Cells.n r.S.Main.Cells.c, i64 r.S.Alt.W, i64 r.S.Alt.H, .slice r.S.Alt.Cells.A r.S.Alt.Cells.n r.S.Alt.Cells.c, .bool r.S.OnAlt, i64 r.S.X, i64 r.S.Y, .bool r.S.Wrap, i64 r.S.A.Fg, i64 r.S.A.Bg, .bool r.S.A.Bold, .bool r.S.A.Under, .bool r.S.A.Turn, i64 r.S.Top, i64 r.S.Bot, .bool r.S.NoWrap, .bool r.S.Hide, i64 r.S.SaveX, i64 r.S.SaveY, i64 r.S.SaveA.Fg, i64 r.S.SaveA.Bg, .bool r.S.SaveA.Bold, .bool r.S.SaveA.Under, .bool r.S.SaveA.Turn, .slice r.S.Tabs.A r.S.Tabs.n r.S.Tabs.c, i64 r.S.Limit, .slice r.S.Back.A r.S.Back.n r.S.Back.c]) ∧ St w [] L1 w' ∧ ownTermR r L1 ∧ r.dat = t.dat := by
 have nb_t_P_Args := f_t.P.Args_n
 have nl_t_P_Args := f_t.P.Args.len
 have nb_t_P_Part := f_t.P.Part_n
 have nl_t_P_Part := f_t.P.Part.len
 have nb_t_S_Main_Cells := f_t.S.Main.Cells_n
 have nl_t_S_Main_Cells := f_t.S.Main.Cells.len
 have nb_t_S_Alt_Cells := f_t.S.Alt.Cells_n
 have nl_t_S_Alt_Cells := f_t.S.Alt.Cells.len
 have nb_t_S_Tabs := f_t.S.Tabs_n
 have nl_t_S_Tabs := f_t.S.Tabs.len
 have nb_t_S_Back := f_t.S.Back_n
 have nl_t_S_Back := f_t.S.Back.sl.len
 refine enter 10 Tryz.func116 rfl Tryz.ntmps116 rfl rfl ?_
 have hs1 := St.init w
 refine WC.sr (WL.bx hs1 rfl (fun b2 _ hs3 => WL.al hs3 Tryz.zeroValue35 rfl rfl (fun b4 _ hs5 => WL.nil (WC.seq (fun K6 hK6 => WC.rH hs5.d1 hs5 (fun _ hs7 => ?_))))))
 refine WH.rn [0, 1, 3, 4] hs7.d1 [0, 0] rfl rfl (WH.o1 2 rfl (WL.cl Tryz.call200 rfl (k107_ t.P _ (okVpR.st0 f_t.P hs7) ?_) ?_))
 · first | assumption | rfl | omega | exact hsm.1 | exact hsm.2
 rintro _ whs8 ⟨r9, L1_10, rfl, hs8, ho11, hd12⟩
 replace hs8 := hs7.callF hs8
 refine ⟨_, rfl, ?_⟩
 replace hs8 := St.back [_, _] hs8
 have hvp := hd12
 refine WL.nil ⟨(hs8.d1.rm L1_10), WH.o1 5 rfl (WL.cl Tryz.call150 rfl (k44_ t.S _ (okScrR.st0 f_t.S hs8) ?_) ?_)⟩
 · first | assumption | rfl | omega | exact hsm.1 | exact hsm.2
 rintro _ whs13 ⟨r14, L1_15, rfl, hs13, ho16, hd17⟩
 replace hs13 := hs8.callF hs13
 refine ⟨_, rfl, ?_⟩
 replace hs13 := St.back [_, _] hs13
 have hsp := hd17
 refine WL.nil ⟨((hs13.d1.rm L1_15).rm L1_10), ?_⟩
 refine WH.take 6 rfl (by kernel_rfl) rfl rfl rfl ((hs13.d1.rm L1_15).rm L1_10) (fun w_ hs_ => (Run.build rfl rfl rfl rfl (built_35_0_1 _ _ _ _ _ _ _ _ _ _ _ _ _ _ _ _ _ _ _ _ _ _ _ _ _ _ _ _ _ _ _ _ _ _ _))) ?_
 refine WH.o1 7 rfl (WL.st tbk hs13 0 rfl rfl (fun _ hs18 => WL.nil ⟨((hs18.d1.rm L1_15).rm L1_10), WH.dn (hK6 _ _ (WC.ret (retV1 rfl (resV.cellA tbk hs18 0 rfl rfl rfl rfl) ?_)))⟩))
 obtain ⟨L19, L20, hs23, ho21, ho22⟩ := ownVpR.op hs18 ho11
 have hs24 := ((hs23.fb b2).fb b4)
 obtain ⟨L25, L26, L27, L28, hs33, ho29, ho30, ho31, ho32⟩ := ownScrR.op hs24 ho16
 have hs34 := ((hs33.fb b2).fb b4)
 obtain ⟨L36, hs35, ho37⟩ := ownTermR.fl hs34 ho21 ho22 ho29 ho30 ho31 ho32
 have hs38 := ((hs35.fb b2).fb b4)
 refine ownTermR.ret rfl (St.keep1 (hs38.fr L36)) ho37 ?_
 · exact TermD.ext' hvp hsp
theorem built_35 : Tryz.prog.built 35 [] = some (List.toArray [.int .i64 0, .bool false, .slice none 0 0, .slice none 0 0, .int .i64 0, .int .i64 0, .int .i64 0, .int .i64 0, .slice none 0 0, .int .i64 0, .int .i64 0, .slice none 0 0, .bool false, .int .i64 0, .int .i64 0, .bool false, .int .i64 0, .int .i64 0, .bool false, .bool false, .bool false, .int .i64 0, .int .i64 0, .bool false, .bool false, .int .i64 0, .int .i64 0, .int .i64 0, .int .i64 0, .bool false, .bool false, .bool false, .slice none 0 0, .int .i64 0, .slice none 0 0]) := by kernel_rfl
theorem k154_ (t : TermR) (A_b : Option Addr) (n_b c_b : Nat) (b : List UInt8) (w : World) (f_t : okTermR 549755813888 w t) (f_b : SlF encB w A_b n_b b) (hsm : smTerm 1048576 t.dat) (hn : n_b ≤ 1048576) :
    Calls Tryz.prog 46 #[.agg #[i64 t.P.State, .bool t.P.Mark, .slice t.P.Args.A t.P.Args.n t.P.Args.c, .slice t.P.Part.A t.P.Part.n t.P.Part.c, i64 t.S.W, i64 t.S.H, i64 t.S.Main.W, i64 t.S.Main.H, .slice t.S.Main.Cells.A t.S.Main.Cells.n t.S.Main.Cells.c, i64 t.S.Alt.W, i64 t.S.Alt.H, .slice t.S.Alt.Cells.A t.S.Alt.Cells.n t.S.Alt.Cells.c, .bool t.S.OnAlt, i64 t.S.X, i64 t.S.Y, .bool t.S.Wrap, i64 t.S.A.Fg, i64 t.S.A.Bg, .bool t.S.A.Bold, .bool t.S.A.Under, .bool t.S.A.Turn, i64 t.S.Top, i64 t.S.Bot, .bool t.S.NoWrap, .bool t.S.Hide, i64 t.S.SaveX, i64 t.S.SaveY, i64 t.S.SaveA.Fg, i64 t.S.SaveA.Bg, .bool t.S.SaveA.Bold, .bool t.S.SaveA.Under, .bool t.S.SaveA.Turn, .slice t.S.Tabs.A t.S.Tabs.n t.S.Tabs.c, i64 t.S.Limit, .slice t.S.Back.A t.S.Back.n t.S.Back.c], .slice A_b n_b c_b] w fun e w' => ∃ r L1, e = .returned (.agg #[i64 r.P.State, .bool r.P.Mark, .slice r.P.Args.A r.P.Args.n r.P.Args.c, .slice r.P.Part.A r.P.Part.n r.P.Part.c, i64 r.S.W, i64 r.S.H, i64 r.S.Main.W, i64 r.S.Main.H, .slice r.S.Main.Cells.A r.S.Main.Cells.n r.S.Main.Cells.c, i64 r.S.Alt.W, i64 r.S.Alt.H, .slice r.S.Alt.Cells.A r.S.Alt.Cells.n r.S.Alt.Cells.c, .bool r.S.OnAlt, i64 r.S.X, i64 r.S.Y, .bool r.S.Wrap, i64 r.S.A.Fg, i64 r.S.A.Bg, .bool r.S.A.Bold, .bool r.S.A.Under, .bool r.S.A.Turn, i64 r.S.Top, i64 r.S.Bot, .bool r.S.NoWrap, .bool r.S.Hide, i64 r.S.SaveX, i64 r.S.SaveY, i64 r.S.SaveA.Fg, i64 r.S.SaveA.Bg, .bool r.S.SaveA.Bold, .bool r.S.SaveA.Under, .bool r.S.SaveA.Turn, .slice r.S.Tabs.A r.S.Tabs.n r.S.Tabs.c, i64 r.S.Limit, .slice r.S.Back.A r.S.Back.n r.S.Back.c]) ∧ St w [] L1 w' ∧ ownTermR r L1 ∧ r.dat = termFeedRes t.dat b := by
 have nb_t_P_Args := f_t.P.Args_n
 have nl_t_P_Args := f_t.P.Args.len
 have nb_t_P_Part := f_t.P.Part_n
 have nl_t_P_Part := f_t.P.Part.len
 have nb_t_S_Main_Cells := f_t.S.Main.Cells_n
 have nl_t_S_Main_Cells := f_t.S.Main.Cells.len
 have nb_t_S_Alt_Cells := f_t.S.Alt.Cells_n
 have nl_t_S_Alt_Cells := f_t.S.Alt.Cells.len
 have nb_t_S_Tabs := f_t.S.Tabs_n
 have nl_t_S_Tabs := f_t.S.Tabs.len
 have nb_t_S_Back := f_t.S.Back_n
 have nl_t_S_Back := f_t.S.Back.sl.len
 have hsmB : smTerm 549755813888 t.dat := smTerm_mono hsm (by decide)
 have hbl := f_b.len
 refine enter 35 Tryz.func46 rfl Tryz.ntmps46 rfl rfl ?_
 have hs1 := St.init w
 refine WC.sr (WL.bx hs1 rfl (fun b2 _ hs3 => WL.al hs3 Tryz.zeroValue35 rfl rfl (fun b4 _ hs5 => WL.nil (WC.seq (fun K6 hK6 => WC.sr (WL.r 1 hs5 [1] rfl (WL.cl Tryz.call107 rfl (k120_ t _ (okTermR.st0 f_t hs5)) ?_)))))))
 rintro _ whs7 ⟨rfl, hs7⟩
 replace hs7 := hs5.call0 hs7
 refine ⟨_, rfl, WL.r 1 hs7 [] rfl (WL.nil (WC.cq rfl (fun h8 qh8 => ?_) (fun h8 qh8 => ?_)))⟩
 ·have hok : termOk t.dat = false := by have h9 := h8; simpa using h9
  refine WC.sr ?_
  refine WL.val rfl rfl rfl (Run.build rfl rfl rfl rfl (built_35)) (WL.st tbk hs7 0 rfl rfl (fun _ hs9 => WL.nil (WC.ret (tkR ?_))))
  clear hK6
  refine retV1 rfl (resV.cellA tbk hs9 0 rfl rfl rfl rfl) ?_
  obtain ⟨L17, hs16, ho18⟩ := ownTermR.fl hs9 (OwnF.nil _ _) (OwnF.nil _ _) (OwnF.nil _ _) (OwnF.nil _ _) (OwnF.nil _ _) (OwnN.nil _ _ _)
  have hs19 := ((hs16.fb b2).fb b4)
  refine ownTermR.ret rfl (St.keep1 (hs19.fr L17)) ho18 ?_
  · unfold termFeedRes; rw [hok]; rfl
 have hok : termOk t.dat = true := by have h9 := h8; simpa using h9
 obtain ⟨hv, hs⟩ := termOk_P hok
 have hargs := vpParse_args (l := b) hv
 refine WC.skip (hK6 _ _ (WC.sr (WL.r 1 hs7 [1] rfl ?_)))
 refine WL.cl Tryz.call116 rfl (k153_ t _ (okTermR.st0 f_t hs7) ?_) ?_
 · first | assumption | rfl | omega | exact hsm.1 | exact hsm.2
 rintro _ whs20 ⟨r21, L1_22, rfl, hs20, ho23, hd24⟩
 replace hs20 := hs7.callF hs20
 refine ⟨_, rfl, ?_⟩
 replace hs20 := St.back [_, _] hs20
 have hvc : vpOk r21.P.dat = true := (congrArg vpOk (congrArg TermD.P hd24)).trans hv
 have hsc : smVp 1048576 r21.P.dat := by have h9 : r21.P.dat = t.P.dat := congrArg TermD.P hd24; rw [h9]; exact hsm.1
 refine WL.buildF (F := encActR) hs20 ([]) Tryz.runUnderlying126 Tryz.sizeOf59 Tryz.zeroValue59 rfl rfl rfl rfl rfl rfl rfl rfl rfl rfl rfl rfl (fun A28 c29 L25 whs26 hs26 ho27 => ?_)
 replace hs26 := St.back [_, _] hs26
 obtain ⟨L30, hs31, ho32⟩ := OwnN.fresh (own := ownActR) (hs26.fr L25) ho27 Bag.nil
 have hs33 := ((hs31.fb b2).fb b4)
 refine WL.al hs33 Tryz.zeroValue35 rfl rfl (fun b34 _ hs35 => WL.st tbk hs35 0 rfl rfl (fun _ hs36 => WL.r 1 hs36 [] rfl (WL.nil (WC.sr (WL.r 3 hs36 [0] rfl ?_)))))
 refine WL.cl Tryz.call117 rfl (k117_ r21.P _ _ _ _ _ (ownTermR.ok (B := 549755813888) ho23 (hs36.ow L1_22) (by rw [hd24]; assumption)).P (SlF.st0 f_b hs36) ?_ ?_ ?_) ?_
 iterate 3 first | assumption | rfl | omega | exact hsm.1 | exact hsm.2
 rintro _ whs37 ⟨r0_38, L0_39, A1_40, c1_41, x1_42, L1_43, rfl, hs37, ho44, ho45, hd0_46, hd1_47⟩
 replace hs37 := hs36.callF hs37
 refine ⟨_, rfl, ?_⟩
 replace hs37 := St.assoc hs37
 replace hs37 := St.back2 [_, _, _] hs37
 have hpe : r21.P.dat = t.P.dat := congrArg TermD.P hd24
 have hpp : r0_38.dat = (vpParse t.P.dat b).1 := by rw [← hpe]; exact hd0_46
 have hpx : x1_42.map ActR.dat = (vpParse t.P.dat b).2 := by rw [← hpe]; exact hd1_47
 have s1 : ∀ y, y ∈ x1_42.map ActR.dat → smAct 549755813888 y := by rw [hpx]; exact fun y hy => Nat.le_trans (areArgs_iff.1 (hargs y hy)).1 (by decide)
 have hxl : x1_42.length ≤ 1048576 := by have h9 := congrArg List.length hpx; rw [List.length_map] at h9; have h8 := vpParse_len (v := t.P.dat) (l := b); omega
 refine WL.r 4 hs37 [] rfl (WL.st tbk hs37 0 rfl rfl (fun _ hs48 => WL.r 1 hs48 [] rfl (WL.nil (WC.seq (fun K49 hK49 => WC.r1 hs48 [] rfl (WC.block ?_))))))
 obtain ⟨L50, L51, L52, L53, L54, L55, hs62, ho56, ho57, ho58, ho59, ho60, ho61⟩ := ownTermR.op hs48 ho23
 have hs63 := (((hs62.fb b2).fb b4).fb b34)
 obtain ⟨L65, hs64, ho66⟩ := ownScrR.fl hs63 ho58 ho59 ho60 ho61
 have hs67 := (((hs64.fb b2).fb b4).fb b34)
 have hM72 := (St.grp1 (L1 := L65) [_] (((((((((hs67.fr L30).fr L1_43).fr L0_39).fr L51).fr L50).fb b2).fb b4).fr L65).fb b34))
 refine WC.lV [4, 5, 11, 24, 25] rfl hM72 (fun k_ (a_ : Hp) f => ∃ (i : Nat) (r : ScrR) (L70 : Hp), k_ = x1_42.length - i ∧ a_ = [(b34, .cells (List.toArray (i64 r0_38.State :: .bool r0_38.Mark :: .slice r0_38.Args.A r0_38.Args.n r0_38.Args.c :: .slice r0_38.Part.A r0_38.Part.n r0_38.Part.c :: (cScr r))) 35 (0, 0))] ++ L70 ∧ (i ≤ x1_42.length) ∧ (r.dat = actsD t.S.dat ((x1_42.take i).map ActR.dat)) ∧ ownScrR r L70 ∧ Sub [(26, .int .i64 i)] f) (((fun (i : Nat) => x1_42.length - i) (0))) ?_ ?_
 ·refine ⟨0, ⟨r21.S.W, r21.S.H, ⟨r21.S.Main.W, r21.S.Main.H, SlD.of ho58⟩, ⟨r21.S.Alt.W, r21.S.Alt.H, SlD.of ho59⟩, r21.S.OnAlt, r21.S.X, r21.S.Y, r21.S.Wrap, ⟨r21.S.A.Fg, r21.S.A.Bg, r21.S.A.Bold, r21.S.A.Under, r21.S.A.Turn⟩, r21.S.Top, r21.S.Bot, r21.S.NoWrap, r21.S.Hide, r21.S.SaveX, r21.S.SaveY, ⟨r21.S.SaveA.Fg, r21.S.SaveA.Bg, r21.S.SaveA.Bold, r21.S.SaveA.Under, r21.S.SaveA.Turn⟩, SlD.of ho60, r21.S.Limit, SlD.ofN ho61⟩, L65, rfl, rfl, ?_, ?_, (by exact ho66), ⟨rfl, trivial⟩⟩
  · exact Nat.zero_le _
  · exact congrArg TermD.S hd24
 rintro _ _ f w ⟨i, r, L70, rfl, rfl, p0, p1, ho71, hG⟩ hF hs73
 refine WC.sub _ (hG.app hF) ?_
 clear hG hF
 replace hs73 := St.ungrp1 [_] hs73
 have hs74 := (((hs73.fb b2).fb b4).fb b34)
 have hfr : ScrFine r.dat := by rw [p1]; exact (ScrFine.of hs).acts (acts_take hpx hargs)
 have hsmr : smScr 549755813888 r.dat := fine_smB hfr (by decide)
 have hsm1 : smScr 1048576 r.dat := fine_smB hfr (by decide)
 refine WC.r1 hs74 [] rfl (WC.seq (fun K75 hK75 => ?_))
 refine WC.cq rfl (fun h76 qh76 => ?_) (fun h76 qh76 => ?_)
 ·have hil : i < x1_42.length := by have h9 := h76; simp at h9; omega
  have haa : areArgs (gat encActR x1_42 i).dat.Args = true := acts_gat hpx hargs hil
  have hanA := (SlN.nth (OwnN.ok ho45 (hs74.ow L1_43) (fun y Li hy h3 hl => h3.ok hl (by have h9_ := List.mem_map_of_mem (f := ActR.dat) hy; first | exact s1 _ h9_))) hil).Args_n
  refine WC.skip (hK75 _ _ (WC.seq (fun K77 hK77 => WC.block (WC.sr ?_))))
  refine WL.val rfl rfl rfl (Run.idxN Tryz.runUnderlying126 Tryz.sizeOf59 rfl rfl rfl ?_ ?_ ?_) ?_
  · exact SlF.some_ (OwnN.sl ho45 (hs74.ow L1_43))
  · omega
  · omega
  refine WL.val rfl rfl rfl (Run.loadA Tryz.isAgg59 Tryz.sizeOf59 rfl rfl (SlF.whole (OwnN.sl ho45 (hs74.ow L1_43)) ?_)) ?_
  · omega
  refine WL.al hs74 Tryz.zeroValue59 rfl rfl (fun b78 _ hs79 => WL.st tbk hs79 0 rfl rfl (fun _ hs80 => WL.nil (WC.region (WL.r 2 hs80 [0] rfl ?_))))
  have hF81 := ((hs80.fr L70).fb b34)
  refine WL.cl Tryz.call118 rfl (k152_ _ _ _ _ _ r _ _ _ (St.headP hF81) ho71 (St.ownP hF81) (SlN.nth (OwnN.ok ho45 (hs80.ow L1_43) (fun y Li hy h3 hl => h3.ok hl (by have h9_ := List.mem_map_of_mem (f := ActR.dat) hy; first | exact s1 _ h9_))) (by omega)).Args (OwnN.sep1 (L1 := (_, _) :: _) hF81 (fun p_ hp_ => (List.mem_append_right [_, _, _] (List.mem_append_right _ (List.mem_append_right _ (List.mem_append_right _ (List.mem_append_left _ hp_)))))) ho45 (by omega) (fun _ h_ => h_)) (St.nodupP hF81) ?_ ?_ ?_ ?_) ?_
  iterate 4 first | assumption | rfl | omega | exact hsm.1 | exact hsm.2
  rintro _ whs82 ⟨r83, L84, rfl, hs82, ho85, hd86⟩
  replace hs82 := St.lendP hF81 hs82
  refine ⟨_, rfl, ?_⟩
  have hs87 := ((((hs82.fb b2).fb b4).fb b78).fb b34)
  refine WL.nil (hK77 _ _ (WC.region (WL.r 2 hs87 [] rfl (WL.nil (tkN ?_)))))
  replace hs87 := (hs87.fb b78).d1
  have hF88 := (St.grp1 (L1 := L84) [_] (((((((((hs87.fr L30).fr L1_43).fr L0_39).fr L51).fr L50).fb b2).fb b4).fr L84).fb b34))
  refine ⟨sbF rfl, _, hF88, _, ?_, i + 1, r83, L84, rfl, rfl, ?_, ?_, ho85, ⟨rfl, trivial⟩⟩
  · omega
  · omega
  · rw [actsD_next (by omega), ← p1]; exact hd86
 have hil : i = x1_42.length := by have h9 := h76; simp at h9; omega
 have hfin : r.dat = actsD t.S.dat (vpParse t.P.dat b).2 := by rw [p1, hil, List.take_length, hpx]
 refine WC.exit (hK49 _ _ (WC.sr (WL.r 1 hs74 [0] rfl (WL.st tbk hs74 1 rfl rfl (fun _ hs89 => WL.nil (WC.ret (retV1 rfl (resV.cellA tbk hs89 1 rfl rfl rfl rfl) ?_)))))))
 obtain ⟨L90, L91, hs94, ho92, ho93⟩ := ownVpR.op hs89 ho44
 have hs95 := (((hs94.fb b2).fb b4).fb b34)
 obtain ⟨L96, L97, L98, L99, hs104, ho100, ho101, ho102, ho103⟩ := ownScrR.op hs95 ho71
 have hs105 := (((hs104.fb b2).fb b4).fb b34)
 obtain ⟨L107, hs106, ho108⟩ := ownTermR.fl hs105 ho92 ho93 ho100 ho101 ho102 ho103
 have hs109 := (((hs106.fb b2).fb b4).fb b34)
 refine ownTermR.ret rfl (St.keep1 (hs109.fr L107)) ho108 ?_
 · unfold termFeedRes; rw [if_pos hok]; exact TermD.ext' hpp hfin
end Go.Proofs.YtjmegoiclgancaaGreat
