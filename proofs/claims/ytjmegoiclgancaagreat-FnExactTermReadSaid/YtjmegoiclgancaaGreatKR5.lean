/-
  The statement: for every input the law returns true. No condition. (And what it stands on, the last part.)
-/
import Derived.Test.YtjmegoiclgancaaGreatKR4
namespace Go.Proofs.YtjmegoiclgancaaGreat
open Go Go.RowKit
set_option linter.unusedVariables false
set_option linter.unusedSimpArgs false
theorem k91_ (A_l : Option Addr) (n_l c_l : Nat) (l : List Bool) (w : World) (f_l : SlF encT w A_l n_l l) (hn : n_l ≤ 5) :
    Calls Tryz.prog 124 #[.slice A_l n_l c_l] w fun e w' => e = .returned (.int .i64 (flagsL l)) ∧ St w [] [] w' := by
 have hl := f_l.len
 refine enter 21 Tryz.func124 rfl Tryz.ntmps124 rfl rfl ?_
 have hs1 := St.init w
 refine WC.r1 hs1 [] rfl (WC.r1 hs1 [] rfl (WC.seq (fun K2 hK2 => WC.r1 hs1 [] rfl (WC.block ?_))))
 refine WC.lS [0, 2] rfl hs1 (fun k_ f w' => ∃ (i : Nat), k_ = i + i ∧ (i ≤ l.length) ∧ Sub [(4, .int .i64 ((i : Int) - 1)), (3, .int .i64 (flagsL (l.drop i)))] f) ((fun (i : Nat) => i + i) (l.length)) ?_ ?_
 ·refine ⟨l.length, rfl, ?_, ⟨?_, ?_, trivial⟩⟩
  · exact Nat.le_refl _
  · (refine congrArg some (congrArg (Value.int _) ?_); omega)
  · (refine congrArg some (congrArg (Value.int _) ?_); rw [List.drop_length]; rfl)
 clear hs1
 rintro _ f w ⟨i, rfl, p0, hG⟩ hF hs3
 refine WC.sub _ (hG.app hF) ?_
 clear hG hF
 have hfb := flagsL_le (l := l.drop i) (by rw [List.length_drop]; omega)
 refine WC.seq (fun K4 hK4 => WC.r1 hs3 [] rfl ?_)
 refine WC.cq rfl (fun h5 qh5 => ?_) (fun h5 qh5 => ?_)
 ·have hfd : flagsL (l.drop (i - 1)) = flagsL (l.drop i) * 2 + bitI (gat encT l (i - 1)) 1 := by have h9 := flagsL_drop (l := l) (i := i - 1) (by omega); rwa [show i - 1 + 1 = i by omega] at h9
  refine WC.skip (hK4 _ _ (WC.seq (fun K6 hK6 => WC.block (WC.r1 hs3 [] rfl (WC.sr (WL.r 2 hs3 [] rfl ?_))))))
  refine WL.val rfl rfl rfl (Run.idxK (i - 1) Tryz.runUnderlying162 Tryz.sizeOf4 rfl rfl rfl ?_ ?_ ?_) ?_
  · exact SlF.some_ (SlF.st0 f_l hs3)
  · omega
  · omega
  refine WL.val rfl rfl rfl (Run.load Tryz.isAgg4 rfl rfl (SlF.one1 (SlF.st0 f_l hs3) ?_ rfl)) ?_
  · omega
  refine WL.nil (WC.cq rfl (fun h7 qh7 => ?_) (fun h7 qh7 => ?_))
  ·have hb1 : bitI (gat encT l (i - 1)) 1 = 1 := by unfold bitI; rw [h7]; rfl
   refine WC.region (WL.r 3 hs3 [] rfl (WL.nil (hK6 _ _ (WC.region (WL.r 3 hs3 [] rfl (WL.nil (tkN ?_)))))))
   refine ⟨sbF rfl, hs3, _, ?_, i - 1, rfl, ?_, ⟨?_, ?_, trivial⟩⟩
   · omega
   · omega
   · (refine congrArg some (congrArg (Value.int _) ?_); omega)
   · (refine congrArg some (congrArg (Value.int _) ?_); rw [hfd, hb1]; try omega)
  have hb1 : bitI (gat encT l (i - 1)) 1 = 0 := by unfold bitI; rw [h7]; rfl
  refine WC.skip (hK6 _ _ (WC.region (WL.r 3 hs3 [] rfl (WL.nil (tkN ?_)))))
  refine ⟨sbF rfl, hs3, _, ?_, i - 1, rfl, ?_, ⟨?_, ?_, trivial⟩⟩
  · omega
  · omega
  · (refine congrArg some (congrArg (Value.int _) ?_); omega)
  · (refine congrArg some (congrArg (Value.int _) ?_); rw [hfd, hb1]; try omega)
 refine WC.exit (hK2 _ _ (WC.r1 hs3 [] rfl (WC.ret (rtv rfl rfl hs3 ?_))))
 rw [show i = 0 by omega, List.drop_zero]
theorem k92_ (v_b : Value) (b : List UInt8) (L_b : Hp) (A_l : Option Addr) (n_l c_l : Nat) (l : List Int) (w : World) (o_b : OwnF encB 5 v_b b L_b) (h_b : Hh w L_b) (f_l : SlF encI w A_l n_l l) (s_l : 0 < n_l → (adr A_l).block ∉ L_b.map (·.1)) (hl : ∀ x, x ∈ l → 0 ≤ x ∧ x ≤ 4294967295) (hx : b.length + 5 * n_l ≤ 268435400) :
    Calls Tryz.prog 126 #[v_b, .slice A_l n_l c_l] w fun e w' => ∃ A c L1, e = .returned (.slice A (b ++ varL l.length ++ numsL l).length c) ∧ St w (L_b.map (·.1)) L1 w' ∧ OwnF encB 5 (.slice A (b ++ varL l.length ++ numsL l).length c) (b ++ varL l.length ++ numsL l) L1 := by
 obtain ⟨A_b, c_b, rfl⟩ := o_b.shape
 have hll := f_l.len
 have hvl := varL_len ((n_l : Int)).toNat (by omega)
 refine enter 15 Tryz.func126 rfl Tryz.ntmps126 rfl rfl ?_
 have hs1 := St.lent1 w L_b o_b h_b
 refine WC.r1 hs1 [] rfl (WC.sr (WL.r 3 hs1 [] rfl (WL.cl Tryz.call128 rfl (k64_ _ _ _ _ _ _ (SlF.ofOwn o_b (hs1.ow L_b)) ?_ ?_ ?_) ?_)))
 iterate 3 omega
 rintro _ whs2 ⟨A3, c4, L1_5, rfl, hs2, ho6⟩
 replace hs2 := hs1.callF hs2
 refine ⟨_, rfl, WL.r 4 hs2 [] rfl (WL.nil (WC.sr (WL.r 2 hs2 [] rfl (WL.cl Tryz.call123 rfl (k65_ _ _ _ _ _ _ _ _ ho6 (hs2.ow L1_5) (SlF.st f_l hs2 s_l) (St.sepT hs2 f_l s_l) ?_ ?_) ?_))))⟩
 · exact hl
 · (simp only [List.length_append]; omega)
 rintro _ whs7 ⟨A8, c9, L1_10, rfl, hs7, ho11⟩
 replace hs7 := St.lend hs2 hs7
 refine ⟨_, rfl, WL.r 1 hs7 [] rfl (WL.nil (WC.ret (retV1 rfl (resV.tmp rfl) ?_)))⟩
 have hx_ := OwnF.eqOf (xs := b ++ varL l.length ++ numsL l) ho11 (by rw [← hll] at *; first | rfl | simp)
 rw [← hx_]
 first | exact ⟨_, _, _, rfl, (St.keep1 hs7), ho11⟩ | exact ⟨A8, c9, _, by rw [OwnF.len_ ho11], (St.keep1 hs7), by rw [OwnF.len_ ho11]; exact ho11⟩
theorem k93_ (t : TermR) (w : World) (f_t : okTermR 549755813888 w t) (hsm : smTerm 1048576 t.dat) :
    Calls Tryz.prog 54 #[.agg #[i64 t.P.State, .bool t.P.Mark, .slice t.P.Args.A t.P.Args.n t.P.Args.c, .slice t.P.Part.A t.P.Part.n t.P.Part.c, i64 t.S.W, i64 t.S.H, i64 t.S.Main.W, i64 t.S.Main.H, .slice t.S.Main.Cells.A t.S.Main.Cells.n t.S.Main.Cells.c, i64 t.S.Alt.W, i64 t.S.Alt.H, .slice t.S.Alt.Cells.A t.S.Alt.Cells.n t.S.Alt.Cells.c, .bool t.S.OnAlt, i64 t.S.X, i64 t.S.Y, .bool t.S.Wrap, i64 t.S.A.Fg, i64 t.S.A.Bg, .bool t.S.A.Bold, .bool t.S.A.Under, .bool t.S.A.Turn, i64 t.S.Top, i64 t.S.Bot, .bool t.S.NoWrap, .bool t.S.Hide, i64 t.S.SaveX, i64 t.S.SaveY, i64 t.S.SaveA.Fg, i64 t.S.SaveA.Bg, .bool t.S.SaveA.Bold, .bool t.S.SaveA.Under, .bool t.S.SaveA.Turn, .slice t.S.Tabs.A t.S.Tabs.n t.S.Tabs.c, i64 t.S.Limit, .slice t.S.Back.A t.S.Back.n t.S.Back.c]] w fun e w' => ∃ A c L1, e = .returned (.tuple #[.slice A (termOut t.dat).length c, .bool (termFine t.dat)]) ∧ St w [] L1 w' ∧ OwnF encB 5 (.slice A (termOut t.dat).length c) (termOut t.dat) L1 := by
 have nb_t_P_Args := f_t.P.Args_n
 have nl_t_P_Args := f_t.P.Args.len
 have nb_t_P_Part := f_t.P.Part_n
 have nl_t_P_Part := f_t.P.Part.len
 have nb_t_S_Main_Cells := f_t.S.Main.Cells_n
 have nl_t_S_Main_Cells := f_t.S.Main.Cells.len
 have nb_t_S_Alt_Cells := f_t.S.Alt.Cells_n
 have nl_t_S_Alt_Cells := f_t.S.Alt.Cells.len
 have nb_t_S_Tabs := f_t.S.Tabs_n
 have nl_t_S_Tabs := f_t.S.Tabs.len
 have nb_t_S_Back := f_t.S.Back_n
 have nl_t_S_Back := f_t.S.Back.sl.len
 refine enter 147 Tryz.func54 rfl Tryz.ntmps54 rfl rfl ?_
 have hs1 := St.init w
 refine WC.sr (WL.bx hs1 rfl (fun b2 _ hs3 => WL.r 2 hs3 [] rfl (WL.nil (WC.seq (fun K4 hK4 => WC.sr (WL.r 1 hs3 [0] rfl (WL.cl Tryz.call105 rfl (k81_ t _ (okTermR.st0 f_t hs3)) ?_)))))))
 rintro _ whs5 ⟨rfl, hs5⟩
 replace hs5 := hs3.call0 hs5
 refine ⟨_, rfl, WL.r 1 hs5 [] rfl (WL.nil (WC.cq rfl (fun h6 qh6 => ?_) (fun h6 qh6 => ?_)))⟩
 ·have hf : termFine t.dat = false := by unfold termFine; rw [show termOk t.dat = false from by have h9 := h6; simpa using h9]; rfl
  refine WC.r1 hs5 [] rfl (WC.ret (tkR ?_))
  clear hK4
  refine retV2 rfl (resV.tmp rfl) (resV.tmp rfl) ?_
  rw [hf]
  have hx_ := OwnF.eqOf (xs := termOut t.dat) (OwnF.nil encB 5) (by simp [termOut, hf])
  rw [← hx_]
  exact ⟨_, _, _, rfl, hs5.nil, (OwnF.nil encB 5)⟩
 have hok : termOk t.dat = true := by have h9 := h6; simpa using h9
 have hT0 := termOk_P hok
 obtain ⟨hv1, hv2, hv3⟩ := vpOk_bnd hT0.1
 obtain ⟨hgm, hga⟩ := scrOk_main hT0.2
 obtain ⟨hm1, hm2⟩ := gridOk_cells hgm
 obtain ⟨ha1, ha2⟩ := gridOk_cells hga
 have hh := headL_bnd hok
 have htb := scrOk_tabs hT0.2
 have hrw := scrOk_rows hT0.2
 obtain ⟨_, _, _, _, hb5, hb6⟩ := scrOk_bnd hT0.2
 have hp1 : t.P.Part.xs.length ≤ 1048576 := hsm.1.2
 have hp2 : t.S.Tabs.xs.length ≤ 1048576 := hsm.2.2.2.1
 have hp3 : t.P.Args.xs.length ≤ 8 := hv2
 have hp4 : t.S.Main.Cells.xs.length ≤ 4000 := hm1
 have hp5 : t.S.Alt.Cells.xs.length ≤ 4000 := ha1
 have hp6 : t.S.Back.xs.length ≤ 100 := by have h9 : ((t.S.Back.xs.map RowR.dat).length : Int) ≤ t.S.Limit := hb6; have h8 : t.S.Limit ≤ 100 := hb5.2; rw [List.length_map] at h9; omega
 have q1 := numsL_len (l := headL t.dat) (fun x hx => by have := (hh x hx).2; omega)
 have q2 := numsL_len (l := t.P.Args.xs) (fun x hx => by have := (hv3 x hx).2; omega)
 have q3 := numsL_len (l := partI t.P.Part.xs) (fun x hx => by have := (partI_bnd x hx).2; omega)
 rw [partI_len] at q3
 have q4 := numsL_len (l := t.S.Tabs.xs) (fun x hx => by have := (htb x hx).2; omega)
 have q5 : (cellsB t.S.Main.Cells.xs).length ≤ 15 * t.S.Main.Cells.xs.length := cellsB_len hm1 hm2
 have q6 : (cellsB t.S.Alt.Cells.xs).length ≤ 15 * t.S.Alt.Cells.xs.length := cellsB_len ha1 ha2
 have w4 := varL_len ((t.S.Back.n : Int)).toNat (by omega)
 have hhl : (headL t.dat).length = 13 := rfl
 have hhe : [t.S.W, t.S.H, flagsL [t.S.OnAlt, t.S.Wrap, t.S.NoWrap, t.S.Hide, t.P.Mark], t.S.X, t.S.Y, attrNum ⟨t.S.A.Fg, t.S.A.Bg, t.S.A.Bold, t.S.A.Under, t.S.A.Turn⟩, t.S.Top, t.S.Bot, t.S.SaveX, t.S.SaveY, attrNum ⟨t.S.SaveA.Fg, t.S.SaveA.Bg, t.S.SaveA.Bold, t.S.SaveA.Under, t.S.SaveA.Turn⟩, t.S.Limit, t.P.State] = headL t.dat := by rw [flagsL_5]; rfl
 have w1 := varL_len t.P.Args.xs.length (by omega)
 have w2 := varL_len t.P.Part.xs.length (by omega)
 have w3 := varL_len t.S.Tabs.xs.length (by omega)
 have z1 := cellsOut_len t.S.Main.Cells.xs
 have z2 := cellsOut_len t.S.Alt.Cells.xs
 have z5 : (numsL ([t.S.W, t.S.H, flagsL [t.S.OnAlt, t.S.Wrap, t.S.NoWrap, t.S.Hide, t.P.Mark], t.S.X, t.S.Y, attrNum ⟨t.S.A.Fg, t.S.A.Bg, t.S.A.Bold, t.S.A.Under, t.S.A.Turn⟩, t.S.Top, t.S.Bot, t.S.SaveX, t.S.SaveY, attrNum ⟨t.S.SaveA.Fg, t.S.SaveA.Bg, t.S.SaveA.Bold, t.S.SaveA.Under, t.S.SaveA.Turn⟩, t.S.Limit, t.P.State])).length ≤ 65 := by rw [hhe]; omega
 have hcm : cellsOut t.S.Main.Cells.xs = cellsB t.S.Main.Cells.xs := cellsOut_ok hm1 hm2
 have hca : cellsOut t.S.Alt.Cells.xs = cellsB t.S.Alt.Cells.xs := cellsOut_ok ha1 ha2
 refine WC.skip (hK4 _ _ (WC.sr (WL.r 2 hs5 [0] rfl (WL.al hs5 Tryz.zeroValue33 rfl rfl (fun b7 _ hs8 => WL.st tbk hs8 0 rfl rfl (fun _ hs9 => WL.nil (WC.sr ?_)))))))
 refine WL.buildF (F := encI) hs9 ([]) Tryz.runUnderlying23 Tryz.sizeOf3 Tryz.zeroValue3 rfl rfl rfl rfl rfl rfl rfl rfl rfl rfl rfl rfl (fun A13 c14 L10 whs11 hs11 ho12 => ?_)
 replace hs11 := St.back [_, _] hs11
 refine WL.r 1 hs11 [] rfl (WL.nil (WC.seq (fun K15 hK15 => WC.r1 hs11 [1] rfl (WC.block ?_))))
 refine WC.lO [1, 2, 3, 4, 19, 25, 26] rfl (hs11.fr L10) (fun k_ f L_ => ∃ (zs : List Int) (i : Nat) (A16 : Option Addr) (c17 : Nat), k_ = t.P.Part.n - i ∧ (i ≤ t.P.Part.n) ∧ (zs = partI (t.P.Part.xs.take i)) ∧ OwnF encI 3 (.slice A16 (zs.length) c17) (zs) L_ ∧ Sub [(5, .slice A16 (zs.length) c17), (27, .int .i64 i)] f) (t.P.Part.n) ?_ ?_
 ·refine ⟨[], 0, _, _, rfl, ?_, ?_, ho12, ⟨rfl, rfl, trivial⟩⟩
  · exact Nat.zero_le _
  · rfl
 clear hs11
 rintro _ f w L18 ⟨zs, i, A16, c17, rfl, p0, p1, ho19, hG⟩ hF hs20
 refine WC.sub _ (hG.app hF) ?_
 clear hG hF
 replace hs20 := St.back [_, _] hs20
 have hz1 : zs.length ≤ 1048576 := by rw [p1, partI_len, List.length_take]; omega
 refine WC.r1 hs20 [] rfl (WC.seq (fun K21 hK21 => ?_))
 refine WC.cq rfl (fun h22 qh22 => ?_) (fun h22 qh22 => ?_)
 ·refine WC.skip (hK21 _ _ (WC.seq (fun K23 hK23 => WC.block (WC.sr ?_))))
  refine WL.val rfl rfl rfl (Run.idxN Tryz.runUnderlying22 Tryz.sizeOf5 rfl rfl rfl ?_ ?_ ?_) ?_
  · exact SlF.some_ (SlF.st0 f_t.P.Part hs20)
  · omega
  · omega
  refine WL.val rfl rfl rfl (Run.load Tryz.isAgg5 rfl rfl (SlF.one1 (SlF.st0 f_t.P.Part hs20) ?_ rfl)) ?_
  · omega
  refine WL.r 1 hs20 [] rfl (WL.nil (WC.region (WL.r 3 hs20 [] rfl (WL.buildSlice hs20 Tryz.runUnderlying23 Tryz.sizeOf3 Tryz.zeroValue3 rfl rfl rfl rfl rfl rfl rfl rfl rfl rfl (fun b24 whs25 hs25 => ?_)))))
  refine WL.appendG (hs25.fr L18) ho19 (srcI1 Tryz.underlying23 (hs25.own _ (nthL_mem (i := 0) rfl)).1) Tryz.underlying23 inf3 rfl rfl rfl rfl rfl rfl rfl rfl rfl rfl ?_ (fun A29 c30 L26 whs27 hs27 ho28 => ?_)
  · first | omega | (simp only [List.length_append, List.length_nil, List.length_singleton, partI_len]; omega)
  replace hs27 := St.back [_, _, _] hs27
  refine WL.r 1 hs27 [] rfl (WL.nil (hK23 _ _ (WC.region (WL.r 2 hs27 [] rfl (WL.nil (tkN ?_))))))
  replace hs27 := hs27.d1
  refine ⟨sbF rfl, _, (hs27.fr L26), _, ?_, _, i + 1, _, _, rfl, ?_, ?_, ho28, ⟨rfl, rfl, trivial⟩⟩
  · omega
  · omega
  · rw [p1, partI_take (by omega)]
 have hin : i = t.P.Part.n := by omega
 have hz3 : zs = partI t.P.Part.xs := by rw [p1, hin, List.take_of_length_le (by omega)]
 subst hz3
 refine WC.exit (hK15 _ _ (WC.seq (fun K31 hK31 => WC.rH hs20 hs20 (fun _ hs32 => ?_))))
 refine WH.rn [0, 1, 2, 3, 4, 5, 6, 7, 8, 9, 10, 11, 12, 13, 14, 17, 18, 19, 20, 21, 22, 24, 25, 26, 27, 28, 29, 30, 31, 32, 33, 35, 36, 37, 38, 39] hs32 [0, 0, 0, 0, 0, 0, 1, 0, 0, 0, 0, 0, 0, 0, 0, 0, 1] rfl rfl (WH.o1 15 rfl (WL.buildF (F := encT) hs32 ([t.S.OnAlt, t.S.Wrap, t.S.NoWrap, t.S.Hide, t.P.Mark]) Tryz.runUnderlying162 Tryz.sizeOf4 Tryz.zeroValue4 rfl rfl rfl rfl rfl rfl rfl rfl rfl rfl rfl rfl (fun A36 c37 L33 whs34 hs34 ho35 => ?_)))
 replace hs34 := St.back [_, _] hs34
 refine WL.nil ⟨(hs34.rm L33), WH.o1 16 rfl (WL.cl Tryz.call124 rfl (k91_ _ _ _ _ _ (SlF.ofOwn ho35 (hs34.ow L33)) ?_) ?_)⟩
 · first | assumption | rfl | omega | exact Nat.le_refl 5
 rintro _ whs38 ⟨rfl, hs38⟩
 replace hs38 := hs34.call0 hs38
 refine ⟨_, rfl, WL.nil ⟨(hs38.rm L33), WH.o1 23 rfl (WL.cl Tryz.call125 rfl (k87_ _ _ _ _ _ _) ?_)⟩⟩
 rintro _ whs39 ⟨rfl, hs39⟩
 replace hs39 := hs38.call0 hs39
 refine ⟨_, rfl, WL.nil ⟨(hs39.rm L33), WH.o1 34 rfl (WL.cl Tryz.call125 rfl (k87_ _ _ _ _ _ _) ?_)⟩⟩
 rintro _ whs40 ⟨rfl, hs40⟩
 replace hs40 := hs39.call0 hs40
 refine ⟨_, rfl, WL.nil ⟨(hs40.rm L33), WH.o1 40 rfl (WL.buildF (F := encI) hs40 (([t.S.W, t.S.H, flagsL [t.S.OnAlt, t.S.Wrap, t.S.NoWrap, t.S.Hide, t.P.Mark], t.S.X, t.S.Y, attrNum ⟨t.S.A.Fg, t.S.A.Bg, t.S.A.Bold, t.S.A.Under, t.S.A.Turn⟩, t.S.Top, t.S.Bot, t.S.SaveX, t.S.SaveY, attrNum ⟨t.S.SaveA.Fg, t.S.SaveA.Bg, t.S.SaveA.Bold, t.S.SaveA.Under, t.S.SaveA.Turn⟩, t.S.Limit, t.P.State])) Tryz.runUnderlying23 Tryz.sizeOf3 Tryz.zeroValue3 rfl rfl rfl rfl rfl rfl rfl rfl rfl rfl rfl rfl (fun A44 c45 L41 whs42 hs42 ho43 => ?_))⟩⟩
 replace hs42 := St.back [_, _] hs42
 refine WL.nil ⟨((hs42.rm L41).rm L33), WH.o1 41 rfl (WL.cl Tryz.call123 rfl (k65_ _ _ _ _ _ _ _ _ (OwnF.nil _ _) (by simp) (SlF.ofOwn ho43 (hs42.ow L41)) sep_nil ?_ ?_) ?_)⟩
 · first | (exact fun x hx => (by have := hh x (hhe ▸ hx); omega)) | assumption | omega | exact Nat.le_refl 5
 · first | (simp only [List.length_cons, List.length_nil]; omega) | assumption | omega | exact Nat.le_refl 5
 rintro _ whs46 ⟨A47, c48, L1_49, rfl, hs46, ho50⟩
 replace hs46 := St.lend (A := []) hs42 hs46
 refine ⟨_, rfl, ?_⟩
 replace hs46 := St.back [_, _] hs46
 refine WL.nil ⟨(((hs46.rm L1_49).rm L41).rm L33), WH.rn [42] (((hs46.rm L1_49).rm L41).rm L33) [] rfl rfl (WH.dn (hK31 _ _ (WC.sr (WL.r 4 hs46 [1] rfl ?_))))⟩
 refine WL.cl Tryz.call126 rfl (k92_ _ _ _ _ _ _ _ _ ho50 (hs46.ow L1_49) (SlF.st0 f_t.P.Args hs46) (St.sep (hs46.fr L1_49) f_t.P.Args) ?_ ?_) ?_
 · first | exact fun x hx => (by have := hv3 x hx; omega) | exact fun x hx => (by have := partI_bnd x hx; omega) | exact fun x hx => (by have := htb x hx; omega) | assumption | omega | exact Nat.le_refl 5
 · first | omega | (simp only [List.length_append, List.length_nil, partI_len]; omega) | assumption | exact Nat.le_refl 5
 rintro _ whs51 ⟨A52, c53, L1_54, rfl, hs51, ho55⟩
 replace hs51 := St.lend (hs46.fr L1_49) hs51
 refine ⟨_, rfl, ?_⟩
 replace hs51 := St.back [_, _] hs51
 refine WL.r 1 hs51 [] rfl (WL.nil (WC.sr (WL.r 2 hs51 [] rfl (WL.cl Tryz.call126 rfl (k92_ _ _ _ _ _ _ _ _ ho55 (hs51.ow L1_54) (SlF.ofOwn ho19 (hs51.ow L18)) (OwnF.sep (hs51.fr L1_54) (fun p_ hp_ => (List.mem_append_right [_, _] (List.mem_append_right _ (List.mem_append_right _ (List.mem_append_left _ hp_))))) ho19) ?_ ?_) ?_))))
 · first | exact fun x hx => (by have := hv3 x hx; omega) | exact fun x hx => (by have := partI_bnd x hx; omega) | exact fun x hx => (by have := htb x hx; omega) | assumption | omega | exact Nat.le_refl 5
 · first | omega | (simp only [List.length_append, List.length_nil, partI_len]; omega) | assumption | exact Nat.le_refl 5
 rintro _ whs56 ⟨A57, c58, L1_59, rfl, hs56, ho60⟩
 replace hs56 := St.lend (hs51.fr L1_54) hs56
 refine ⟨_, rfl, ?_⟩
 replace hs56 := St.back [_, _] hs56
 refine WL.r 1 hs56 [] rfl (WL.nil (WC.sr (WL.r 3 hs56 [0] rfl (WL.cl Tryz.call126 rfl (k92_ _ _ _ _ _ _ _ _ ho60 (hs56.ow L1_59) (SlF.st0 f_t.S.Tabs hs56) (St.sep (hs56.fr L1_59) f_t.S.Tabs) ?_ ?_) ?_))))
 · first | exact fun x hx => (by have := hv3 x hx; omega) | exact fun x hx => (by have := partI_bnd x hx; omega) | exact fun x hx => (by have := htb x hx; omega) | assumption | omega | exact Nat.le_refl 5
 · first | omega | (simp only [List.length_append, List.length_nil, partI_len]; omega) | assumption | exact Nat.le_refl 5
 rintro _ whs61 ⟨A62, c63, L1_64, rfl, hs61, ho65⟩
 replace hs61 := St.lend (hs56.fr L1_59) hs61
 refine ⟨_, rfl, ?_⟩
 replace hs61 := St.back [_, _] hs61
 refine WL.r 1 hs61 [] rfl (WL.nil (WC.sr (WL.r 3 hs61 [0] rfl (WL.cl Tryz.call127 rfl (k88_ _ _ _ _ _ (SlF.st0 f_t.S.Main.Cells hs61) ?_) ?_))))
 · first | assumption | rfl | omega | exact Nat.le_refl 5
 rintro _ whs66 ⟨A67, c68, L1_69, rfl, hs66, ho70⟩
 replace hs66 := hs61.callF hs66
 refine ⟨_, rfl, ?_⟩
 replace hs66 := St.back [_, _] hs66
 refine WL.r 5 hs66 [] rfl (WL.nil (WC.sr (WL.r 3 hs66 [0] rfl (WL.cl Tryz.call127 rfl (k88_ _ _ _ _ _ (SlF.st0 f_t.S.Alt.Cells hs66) ?_) ?_))))
 · first | assumption | rfl | omega | exact Nat.le_refl 5
 rintro _ whs71 ⟨A72, c73, L1_74, rfl, hs71, ho75⟩
 replace hs71 := hs66.callF hs71
 refine ⟨_, rfl, ?_⟩
 replace hs71 := St.back [_, _] hs71
 refine WL.r 5 hs71 [] rfl (WL.nil (WC.sr (WL.r 2 hs71 [] rfl (WL.appendG (hs71.fr L1_64) ho65 (SlF.src (SlF.ofOwn ho70 (hs71.ow L1_69)) Tryz.underlying22) Tryz.underlying22 inf5 rfl rfl rfl rfl rfl rfl rfl rfl rfl rfl ?_ (fun A79 c80 L76 whs77 hs77 ho78 => ?_)))))
 · first | omega | (simp only [List.length_append, List.length_nil, List.length_singleton, partI_len]; omega)
 replace hs77 := St.back [_, _] hs77
 refine WL.r 1 hs77 [] rfl (WL.appendG (hs77.fr L76) ho78 (SlF.src (SlF.ofOwn ho75 (hs77.ow L1_74)) Tryz.underlying22) Tryz.underlying22 inf5 rfl rfl rfl rfl rfl rfl rfl rfl rfl rfl ?_ (fun A84 c85 L81 whs82 hs82 ho83 => ?_))
 · first | omega | (simp only [List.length_append, List.length_nil, List.length_singleton, partI_len]; omega)
 replace hs82 := St.back [_, _] hs82
 refine WL.r 1 hs82 [] rfl (WL.nil (WC.sr (WL.r 4 hs82 [0] rfl (WL.cl Tryz.call128 rfl (k64_ _ _ _ _ _ _ (SlF.ofOwn ho83 (hs82.ow L81)) ?_ ?_ ?_) ?_))))
 iterate 2 first | omega | assumption | exact Nat.le_refl 5
 · first | omega | (simp only [List.length_append, List.length_nil, partI_len, List.length_take]; omega) | assumption | exact Nat.le_refl 5
 rintro _ whs86 ⟨A87, c88, L1_89, rfl, hs86, ho90⟩
 replace hs86 := hs82.callF hs86
 refine ⟨_, rfl, ?_⟩
 replace hs86 := St.back [_, _] hs86
 refine WL.r 4 hs86 [] rfl (WL.nil (WC.seq (fun K91 hK91 => WC.r1 hs86 [0] rfl (WC.block ?_))))
 refine WC.lO [2, 3, 19, 28, 119, 120] rfl (hs86.fr L1_89) (fun k_ f L_ => ∃ (zs : List UInt8) (i : Nat) (A92 : Option Addr) (c93 : Nat), k_ = t.S.Back.n - i ∧ (i ≤ t.S.Back.n) ∧ (zs = [] ++ numsL ([t.S.W, t.S.H, flagsL [t.S.OnAlt, t.S.Wrap, t.S.NoWrap, t.S.Hide, t.P.Mark], t.S.X, t.S.Y, attrNum ⟨t.S.A.Fg, t.S.A.Bg, t.S.A.Bold, t.S.A.Under, t.S.A.Turn⟩, t.S.Top, t.S.Bot, t.S.SaveX, t.S.SaveY, attrNum ⟨t.S.SaveA.Fg, t.S.SaveA.Bg, t.S.SaveA.Bold, t.S.SaveA.Under, t.S.SaveA.Turn⟩, t.S.Limit, t.P.State]) ++ varL t.P.Args.xs.length ++ numsL t.P.Args.xs ++ varL (partI t.P.Part.xs).length ++ numsL (partI t.P.Part.xs) ++ varL t.S.Tabs.xs.length ++ numsL t.S.Tabs.xs ++ cellsOut t.S.Main.Cells.xs ++ cellsOut t.S.Alt.Cells.xs ++ varL ((t.S.Back.n : Int)).toNat ++ rowsL ((t.S.Back.xs.take i).map RowR.dat)) ∧ OwnF encB 5 (.slice A92 (zs.length) c93) (zs) L_ ∧ Sub [(8, .slice A92 (zs.length) c93), (121, .int .i64 i)] f) (t.S.Back.n) ?_ ?_
 ·refine ⟨[] ++ numsL ([t.S.W, t.S.H, flagsL [t.S.OnAlt, t.S.Wrap, t.S.NoWrap, t.S.Hide, t.P.Mark], t.S.X, t.S.Y, attrNum ⟨t.S.A.Fg, t.S.A.Bg, t.S.A.Bold, t.S.A.Under, t.S.A.Turn⟩, t.S.Top, t.S.Bot, t.S.SaveX, t.S.SaveY, attrNum ⟨t.S.SaveA.Fg, t.S.SaveA.Bg, t.S.SaveA.Bold, t.S.SaveA.Under, t.S.SaveA.Turn⟩, t.S.Limit, t.P.State]) ++ varL t.P.Args.xs.length ++ numsL t.P.Args.xs ++ varL (partI t.P.Part.xs).length ++ numsL (partI t.P.Part.xs) ++ varL t.S.Tabs.xs.length ++ numsL t.S.Tabs.xs ++ cellsOut t.S.Main.Cells.xs ++ cellsOut t.S.Alt.Cells.xs ++ varL ((t.S.Back.n : Int)).toNat, 0, _, _, rfl, ?_, ?_, ho90, ⟨rfl, rfl, trivial⟩⟩
  · exact Nat.zero_le _
  · simp [rowsL]
 clear hs86
 rintro _ f w L94 ⟨zs, i, A92, c93, rfl, r0, r1, ho95, hG⟩ hF hs96
 refine WC.sub _ (hG.app hF) ?_
 clear hG hF
 replace hs96 := St.back [_, _] hs96
 have hz2 : zs.length ≤ 20000000 := by rw [r1]; have q8 := rowsL_len (b := (t.S.Back.xs.take i).map RowR.dat) (fun r hr => hrw r (by obtain ⟨y, hy, rfl⟩ := List.mem_map.1 hr; exact List.mem_map_of_mem (List.mem_of_mem_take hy))); rw [List.length_map, List.length_take] at q8; rw [hhe]; simp only [List.length_append, List.length_nil, partI_len]; omega
 refine WC.r1 hs96 [] rfl (WC.seq (fun K97 hK97 => ?_))
 refine WC.cq rfl (fun h98 qh98 => ?_) (fun h98 qh98 => ?_)
 ·have hrk := rowOk_cells (hrw (RowR.dat (gat encRowR t.S.Back.xs i)) (List.mem_map_of_mem (gat_mem (by omega))))
  have hrc1 : (gat encRowR t.S.Back.xs i).Cells.xs.length ≤ 120 := hrk.1
  have hrn := (SlN.nth f_t.S.Back (show i < t.S.Back.n by omega)).Cells.len
  have hco : cellsOut (gat encRowR t.S.Back.xs i).Cells.xs = cellsB (gat encRowR t.S.Back.xs i).Cells.xs := cellsOut_ok (by omega) hrk.2
  have w5 := varL_len (((gat encRowR t.S.Back.xs i).Cells.n : Int)).toNat (by omega)
  have z6 := cellsOut_len (gat encRowR t.S.Back.xs i).Cells.xs
  refine WC.skip (hK97 _ _ (WC.seq (fun K99 hK99 => WC.block (WC.sr ?_))))
  refine WL.val rfl rfl rfl (Run.idxN Tryz.runUnderlying31 Tryz.sizeOf98 rfl rfl rfl ?_ ?_ ?_) ?_
  · exact SlF.some_ (SlF.st0 f_t.S.Back.sl hs96)
  · omega
  · omega
  refine WL.val rfl rfl rfl (Run.loadA Tryz.isAgg98 Tryz.sizeOf98 rfl rfl (SlF.whole (SlF.st0 f_t.S.Back.sl hs96) ?_)) ?_
  · omega
  refine WL.al hs96 Tryz.zeroValue98 rfl rfl (fun b100 _ hs101 => WL.st tbk hs101 0 rfl rfl (fun _ hs102 => WL.nil (WC.sr (WL.r 2 hs102 [0] rfl ?_))))
  refine WL.cl Tryz.call127 rfl (k88_ _ _ _ _ _ (SlF.st0 (SlN.nth f_t.S.Back (by omega)).Cells hs102) ?_) ?_
  · first | assumption | rfl | omega | exact Nat.le_refl 5
  rintro _ whs103 ⟨A104, c105, L1_106, rfl, hs103, ho107⟩
  replace hs103 := hs102.callF hs103
  refine ⟨_, rfl, ?_⟩
  replace hs103 := St.back [_, _, _] hs103
  refine WL.r 5 hs103 [] rfl (WL.nil (WC.sr (WL.r 4 hs103 [0] rfl (WL.cl Tryz.call128 rfl (k64_ _ _ _ _ _ _ (SlF.ofOwn ho95 (hs103.ow L94)) ?_ ?_ ?_) ?_))))
  iterate 2 first | omega | assumption | exact Nat.le_refl 5
  · first | omega | (simp only [List.length_append, List.length_nil, partI_len, List.length_take]; omega) | assumption | exact Nat.le_refl 5
  rintro _ whs108 ⟨A109, c110, L1_111, rfl, hs108, ho112⟩
  replace hs108 := hs103.callF hs108
  refine ⟨_, rfl, ?_⟩
  replace hs108 := St.back [_, _, _] hs108
  refine WL.r 4 hs108 [] rfl (WL.nil (WC.region (WL.r 2 hs108 [] rfl (WL.appendG (hs108.fr L1_111) ho112 (SlF.src (SlF.ofOwn ho107 (hs108.ow L1_106)) Tryz.underlying22) Tryz.underlying22 inf5 rfl rfl rfl rfl rfl rfl rfl rfl rfl rfl ?_ (fun A116 c117 L113 whs114 hs114 ho115 => ?_)))))
  · first | omega | (simp only [List.length_append, List.length_nil, List.length_singleton, partI_len]; omega)
  replace hs114 := St.back [_, _, _] hs114
  refine WL.r 1 hs114 [] rfl (WL.nil (hK99 _ _ (WC.region (WL.r 2 hs114 [] rfl (WL.nil (tkN ?_))))))
  replace hs114 := ((hs114.d1.rm L1_106).rm L94)
  refine ⟨sbF rfl, _, (hs114.fr L113), _, ?_, _, i + 1, _, _, rfl, ?_, ?_, ho115, ⟨rfl, rfl, trivial⟩⟩
  · omega
  · omega
  · rw [r1, rowsL_take (by omega), hco, hrn]; simp only [List.append_assoc, Int.toNat_natCast, List.nil_append]; try rfl
 have hzl : zs = termL t.dat := by rw [r1, List.take_of_length_le (by omega), hhe, hcm, hca]; unfold termL; simp only [Int.toNat_natCast, List.append_assoc, List.nil_append, partI_len]; have e_ : t.dat.S.Back.length = t.S.Back.n := (List.length_map _).trans nl_t_S_Back; rw [e_]; rfl
 refine WC.exit (hK91 _ _ (WC.seq (fun K118 hK118 => WC.r1 hs96 [] rfl ?_)))
 refine WC.cq rfl (fun h119 qh119 => ?_) (fun h119 qh119 => ?_)
 ·have hf : termFine t.dat = false := by unfold termFine; rw [hok, Bool.true_and, decide_eq_false_iff_not]; rw [← hzl]; have h9 := qh119; omega
  refine WC.r1 hs96 [] rfl (WC.ret (tkR ?_))
  clear hK118
  refine retV2 rfl (resV.tmp rfl) (resV.tmp rfl) ?_
  rw [hf]
  have hx_ := OwnF.eqOf (xs := termOut t.dat) (OwnF.nil encB 5) (by simp [termOut, hf])
  rw [← hx_]
  exact ⟨_, _, _, rfl, hs96.nil, (OwnF.nil encB 5)⟩
 have hf : termFine t.dat = true := by unfold termFine; rw [hok, Bool.true_and, decide_eq_true_eq]; rw [← hzl]; have h9 := qh119; omega
 refine WC.skip (hK118 _ _ (WC.r1 hs96 [] rfl (WC.ret (retV2 rfl (resV.tmp rfl) (resV.tmp rfl) ?_))))
 rw [hf]
 have hx_ := OwnF.eqOf (xs := termOut t.dat) ho95 (by unfold termOut; rw [hf, hzl]; rfl)
 rw [← hx_]
 first | exact ⟨_, _, _, rfl, (St.keep1 (hs96.fr L94)), ho95⟩ | exact ⟨A92, c93, _, by rw [OwnF.len_ ho95], (St.keep1 (hs96.fr L94)), by rw [OwnF.len_ ho95]; exact ho95⟩
theorem built_91_0_2 (x0 : Option Addr) (x1 : Nat) (x2 : Nat) (x3 : Bool) : Tryz.prog.built 91 [(0, .slice x0 x1 x2), (2, .bool x3)] = some (List.toArray [.slice x0 x1 x2, .int .i64 0, .bool x3]) := by kernel_rfl
theorem built_33_0_1_4_7_11_12_5_6_8_9_10_13_14_15_17_16 (x0 : Int) (x1 : Int) (x2 : Bool) (x3 : Bool) (x4 : Bool) (x5 : Bool) (x6 : Int) (x7 : Int) (x8 : Value) (x9 : Value) (x10 : Value) (x11 : Value) (x12 : Value) (x13 : Int) (x14 : Int) (x15 : Int) (x16 : Int) (x17 : Value) (x18 : Value) (x19 : Value) (x20 : Value) (x21 : Value) (x22 : Int) (x23 : Option Addr) (x24 : Nat) (x25 : Nat) : Tryz.prog.built 33 [(0, .int .i64 x0), (1, .int .i64 x1), (4, .bool x2), (7, .bool x3), (11, .bool x4), (12, .bool x5), (5, .int .i64 x6), (6, .int .i64 x7), (8, .agg [x8, x9, x10, x11, x12].toArray), (9, .int .i64 x13), (10, .int .i64 x14), (13, .int .i64 x15), (14, .int .i64 x16), (15, .agg [x17, x18, x19, x20, x21].toArray), (17, .int .i64 x22), (16, .slice x23 x24 x25)] = some (List.toArray [.int .i64 x0, .int .i64 x1, .int .i64 0, .int .i64 0, .slice none 0 0, .int .i64 0, .int .i64 0, .slice none 0 0, .bool x2, .int .i64 x6, .int .i64 x7, .bool x3, x8, x9, x10, x11, x12, .int .i64 x13, .int .i64 x14, .bool x4, .bool x5, .int .i64 x15, .int .i64 x16, x17, x18, x19, x20, x21, .slice x23 x24 x25, .int .i64 x22, .slice none 0 0]) := by kernel_rfl
theorem built_25_0_1_2 (x0 : Int) (x1 : Bool) (x2 : Option Addr) (x3 : Nat) (x4 : Nat) : Tryz.prog.built 25 [(0, .int .i64 x0), (1, .bool x1), (2, .slice x2 x3 x4)] = some (List.toArray [.int .i64 x0, .bool x1, .slice x2 x3 x4, .slice none 0 0]) := by kernel_rfl
set_option maxHeartbeats 8000000 in
theorem k94_ (A_s : Option Addr) (n_s c_s : Nat) (s : List UInt8) (w : World) (f_s : SlF encB w A_s n_s s) (hc : n_s ≤ c_s) (hn : n_s ≤ 1048576) :
    Calls Tryz.prog 11 #[.slice A_s n_s c_s] w fun e w' => ∃ r L1, e = .returned (.tuple #[.agg #[i64 r.P.State, .bool r.P.Mark, .slice r.P.Args.A r.P.Args.n r.P.Args.c, .slice r.P.Part.A r.P.Part.n r.P.Part.c, i64 r.S.W, i64 r.S.H, i64 r.S.Main.W, i64 r.S.Main.H, .slice r.S.Main.Cells.A r.S.Main.Cells.n r.S.Main.Cells.c, i64 r.S.Alt.W, i64 r.S.Alt.H, .slice r.S.Alt.Cells.A r.S.Alt.Cells.n r.S.Alt.Cells.c, .bool r.S.OnAlt, i64 r.S.X, i64 r.S.Y, .bool r.S.Wrap, i64 r.S.A.Fg, i64 r.S.A.Bg, .bool r.S.A.Bold, .bool r.S.A.Under, .bool r.S.A.Turn, i64 r.S.Top, i64 r.S.Bot, .bool r.S.NoWrap, .bool r.S.Hide, i64 r.S.SaveX, i64 r.S.SaveY, i64 r.S.SaveA.Fg, i64 r.S.SaveA.Bg, .bool r.S.SaveA.Bold, .bool r.S.SaveA.Under, .bool r.S.SaveA.Turn, .slice r.S.Tabs.A r.S.Tabs.n r.S.Tabs.c, i64 r.S.Limit, .slice r.S.Back.A r.S.Back.n r.S.Back.c], .bool (readOkI s)]) ∧ St w [] L1 w' ∧ ownTermR r L1 ∧ r.dat = readRes s := by
 have hl := f_s.len
 have hl' := hl.symm
 refine enter 222 Tryz.func11 rfl Tryz.ntmps11 rfl rfl ?_
 have hs1 := St.init w
 refine WC.sr (WL.al hs1 Tryz.zeroValue35 rfl rfl (fun b2 _ hs3 => WL.r 1 hs3 [] rfl (WL.nil (WC.sr (WL.r 4 hs3 [] rfl ?_)))))
 refine WL.val rfl rfl rfl (Run.build rfl rfl rfl rfl (built_91_0_2 _ _ _ _)) (WL.bx hs3 rfl (fun b4 _ hs5 => ?_))
 have h00 : rst 0 (decide ((40000 : Int) < (n_s : Int))) = oS0 s := by
   unfold oS0 rst
   rw [← hl']
   by_cases h9 : n_s > 40000
   · rw [if_pos (decide_eq_true (by omega)), if_pos h9]
   · rw [if_neg (by rw [decide_eq_true_eq]; omega), if_neg h9]
 refine WL.r 1 hs5 [] rfl (WL.nil (WC.sr (WL.r 1 hs5 [] rfl ?_)))
 have hF6 : St _ _ ([(b4, _)] ++ _) _ := hs5
 refine WL.call rfl rfl rfl (Run.call Tryz.call50 rfl rfl rfl) (k74_ _ _ _ _ _ _ _ _ _ (hF6.own _ List.mem_cons_self).1 (SlF.st0 f_s hs5) (St.sep hF6 f_s) ?_ ?_ ?_ ?_) ?_
 · omega
 · first | assumption | exact OwnF.cap (by assumption) | omega
 · omega
 · first | omega | decide
 rintro _ whs11 ⟨q7, bad8, A12, c13, L14, rfl, hs11, ho15, hst9, hq10⟩
 replace hs11 := St.lend hF6 hs11
 refine ⟨_, rfl, ?_⟩
 replace hs11 := St.assoc (L1 := [_]) hs11
 have hs16 := ((hs11.fb b2).fb b4)
 have hvS : vS s = (rdVars s (13 : Int).toNat (rst 0 (decide ((40000 : Int) < (n_s : Int))))) := by unfold vS; rw [← h00]; rfl
 have gvS : (rst q7 bad8) = (vS s).2 := by rw [hvS]; exact hst9
 refine WL.r 1 hs16 [] rfl (WL.nil (WC.sr (WL.r 2 hs16 [] rfl ?_)))
 have hF17 : St _ _ ([(b4, _)] ++ _) _ := hs16
 refine WL.call rfl rfl rfl (Run.call Tryz.call51 rfl rfl rfl) (k73_ _ _ _ _ _ _ _ _ (hF17.own _ List.mem_cons_self).1 (SlF.st0 f_s hs16) (St.sep hF17 f_s) ?_ ?_ ?_) ?_
 · omega
 · first | assumption | exact OwnF.cap (by assumption) | omega
 · omega
 rintro _ whs22 ⟨q18, bad19, rfl, hs22, hst20, hq21⟩
 replace hs22 := St.lend hF17 hs22
 refine ⟨_, rfl, ?_⟩
 have hbn33 := rdN_bounds s (rst q7 bad8)
 have hF23 : St _ _ ([(b4, _)] ++ _) _ := hs22
 refine WL.call rfl rfl rfl (Run.call Tryz.call50 rfl rfl rfl) (k74_ _ _ _ _ _ _ _ _ _ (hF23.own _ List.mem_cons_self).1 (SlF.st0 f_s hs22) (St.sep hF23 f_s) ?_ ?_ ?_ ?_) ?_
 · omega
 · first | assumption | exact OwnF.cap (by assumption) | omega
 · omega
 · first | omega | decide
 rintro _ whs28 ⟨q24, bad25, A29, c30, L31, rfl, hs28, ho32, hst26, hq27⟩
 replace hs28 := St.lend hF23 hs28
 refine ⟨_, rfl, ?_⟩
 replace hs28 := St.assoc (L1 := [_]) hs28
 have hs33 := ((hs28.fb b2).fb b4)
 have haS : aS s = (rdVars s (rdN s (rst q7 bad8)).toNat (rst q18 bad19)) := by unfold aS; rw [← gvS, ← hst20]
 have gaS : (rst q24 bad25) = (aS s).2 := by rw [haS]; exact hst26
 have hlaS : (rdVars s (rdN s (rst q7 bad8)).toNat (rst q18 bad19)).1.length ≤ n_s + 1 := by rw [hst20]; have h9 := rdVars_cntR (s := s) (m := (rdN s (rst q7 bad8)).toNat) (o := (rst q7 bad8)); omega
 refine WL.r 1 hs33 [] rfl (WL.nil (WC.sr (WL.r 2 hs33 [] rfl ?_)))
 have hF34 : St _ _ ([(b4, _)] ++ _) _ := hs33
 refine WL.call rfl rfl rfl (Run.call Tryz.call51 rfl rfl rfl) (k73_ _ _ _ _ _ _ _ _ (hF34.own _ List.mem_cons_self).1 (SlF.st0 f_s hs33) (St.sep hF34 f_s) ?_ ?_ ?_) ?_
 · omega
 · first | assumption | exact OwnF.cap (by assumption) | omega
 · omega
 rintro _ whs39 ⟨q35, bad36, rfl, hs39, hst37, hq38⟩
 replace hs39 := St.lend hF34 hs39
 refine ⟨_, rfl, ?_⟩
 have hbn37 := rdN_bounds s (rst q24 bad25)
 have hF40 : St _ _ ([(b4, _)] ++ _) _ := hs39
 refine WL.call rfl rfl rfl (Run.call Tryz.call50 rfl rfl rfl) (k74_ _ _ _ _ _ _ _ _ _ (hF40.own _ List.mem_cons_self).1 (SlF.st0 f_s hs39) (St.sep hF40 f_s) ?_ ?_ ?_ ?_) ?_
 · omega
 · first | assumption | exact OwnF.cap (by assumption) | omega
 · omega
 · first | omega | decide
 rintro _ whs45 ⟨q41, bad42, A46, c47, L48, rfl, hs45, ho49, hst43, hq44⟩
 replace hs45 := St.lend hF40 hs45
 refine ⟨_, rfl, ?_⟩
 replace hs45 := St.assoc (L1 := [_]) hs45
 have hs50 := ((hs45.fb b2).fb b4)
 have hpS : pS s = (rdVars s (rdN s (rst q24 bad25)).toNat (rst q35 bad36)) := by unfold pS; rw [← gaS, ← hst37]
 have gpS : (rst q41 bad42) = (pS s).2 := by rw [hpS]; exact hst43
 have hlpS : (rdVars s (rdN s (rst q24 bad25)).toNat (rst q35 bad36)).1.length ≤ n_s + 1 := by rw [hst37]; have h9 := rdVars_cntR (s := s) (m := (rdN s (rst q24 bad25)).toNat) (o := (rst q24 bad25)); omega
 refine WL.r 1 hs50 [] rfl (WL.nil (WC.sr (WL.r 2 hs50 [] rfl ?_)))
 have hF51 : St _ _ ([(b4, _)] ++ _) _ := hs50
 refine WL.call rfl rfl rfl (Run.call Tryz.call51 rfl rfl rfl) (k73_ _ _ _ _ _ _ _ _ (hF51.own _ List.mem_cons_self).1 (SlF.st0 f_s hs50) (St.sep hF51 f_s) ?_ ?_ ?_) ?_
 · omega
 · first | assumption | exact OwnF.cap (by assumption) | omega
 · omega
 rintro _ whs56 ⟨q52, bad53, rfl, hs56, hst54, hq55⟩
 replace hs56 := St.lend hF51 hs56
 refine ⟨_, rfl, ?_⟩
 have hbn41 := rdN_bounds s (rst q41 bad42)
 have hF57 : St _ _ ([(b4, _)] ++ _) _ := hs56
 refine WL.call rfl rfl rfl (Run.call Tryz.call50 rfl rfl rfl) (k74_ _ _ _ _ _ _ _ _ _ (hF57.own _ List.mem_cons_self).1 (SlF.st0 f_s hs56) (St.sep hF57 f_s) ?_ ?_ ?_ ?_) ?_
 · omega
 · first | assumption | exact OwnF.cap (by assumption) | omega
 · omega
 · first | omega | decide
 rintro _ whs62 ⟨q58, bad59, A63, c64, L65, rfl, hs62, ho66, hst60, hq61⟩
 replace hs62 := St.lend hF57 hs62
 refine ⟨_, rfl, ?_⟩
 replace hs62 := St.assoc (L1 := [_]) hs62
 have hs67 := ((hs62.fb b2).fb b4)
 have htS : tS s = (rdVars s (rdN s (rst q41 bad42)).toNat (rst q52 bad53)) := by unfold tS; rw [← gpS, ← hst54]
 have gtS : (rst q58 bad59) = (tS s).2 := by rw [htS]; exact hst60
 have hltS : (rdVars s (rdN s (rst q41 bad42)).toNat (rst q52 bad53)).1.length ≤ n_s + 1 := by rw [hst54]; have h9 := rdVars_cntR (s := s) (m := (rdN s (rst q41 bad42)).toNat) (o := (rst q41 bad42)); omega
 have hok0 : bad59 = false → (tS s).2.isSome = true := fun h => by rw [← gtS, h]; rfl
 have hv13 : bad59 = false → (rdVars s (13 : Int).toNat (rst 0 (decide ((40000 : Int) < (n_s : Int))))).1.length = 13 := fun h => by rw [← hvS]; exact (okS_facts (hok0 h)).2
 have hv14 : ∀ x, (bad59 || x) = false → (rdVars s (13 : Int).toNat (rst 0 (decide ((40000 : Int) < (n_s : Int))))).1.length = 13 := fun x h => hv13 (by rw [Bool.or_eq_false_iff] at h; exact h.1)
 refine WL.r 1 hs67 [] rfl (WL.nil (WC.seq (fun K68 hK68 => WC.sr (WL.r 5 hs67 [0] rfl ?_))))
 apply WL.gO 4 Acts.nil hs67 rfl
 ·intro g69 J70
  have qg69 := g69
  try simp only [bf, within_iff, within_not] at qg69
  refine WL.runA tbk 1 (Acts.nil.cons (j := 4) rfl g69) hs67 [] rfl trivial (WL.val (wantF rfl g69) rfl rfl (Run.idxK (0) Tryz.runUnderlying23 Tryz.sizeOf3 rfl rfl rfl ?_ ?_ ?_) ?_)
  · exact SlF.some_ (SlF.ofOwn ho15 (hs67.ow L14))
  · first | (have h9_ := hv13 (by assumption); omega) | (have h9_ := hv14 _ (by assumption); omega) | omega
  · first | (have h9_ := hv13 (by assumption); omega) | (have h9_ := hv14 _ (by assumption); omega) | omega
  refine WL.val (wantF rfl g69) rfl rfl (Run.load Tryz.isAgg3 rfl rfl (SlF.one1 (SlF.ofOwn ho15 (hs67.ow L14)) ?_ rfl)) ?_
  · first | (have h9_ := hv13 (by assumption); omega) | (have h9_ := hv14 _ (by assumption); omega) | omega
  refine WL.runA tbk 1 (Acts.nil.cons (j := 4) rfl g69) hs67 [] rfl trivial (WL.eO 4 Acts.nil J70 hs67 g69 rfl rfl)
 intro _ hs71
 refine WL.r 1 hs71 [] rfl ?_
 apply WL.gO 4 Acts.nil hs71 rfl
 ·intro g72 J73
  have qg72 := g72
  try simp only [bf, within_iff, within_not] at qg72
  refine WL.runA tbk 1 (Acts.nil.cons (j := 10) rfl g72) hs71 [] rfl trivial (WL.val (wantF rfl g72) rfl rfl (Run.idxK (1) Tryz.runUnderlying23 Tryz.sizeOf3 rfl rfl rfl ?_ ?_ ?_) ?_)
  · exact SlF.some_ (SlF.ofOwn ho15 (hs71.ow L14))
  · first | (have h9_ := hv13 (by assumption); omega) | (have h9_ := hv14 _ (by assumption); omega) | omega
  · first | (have h9_ := hv13 (by assumption); omega) | (have h9_ := hv14 _ (by assumption); omega) | omega
  refine WL.val (wantF rfl g72) rfl rfl (Run.load Tryz.isAgg3 rfl rfl (SlF.one1 (SlF.ofOwn ho15 (hs71.ow L14)) ?_ rfl)) ?_
  · first | (have h9_ := hv13 (by assumption); omega) | (have h9_ := hv14 _ (by assumption); omega) | omega
  refine WL.runA tbk 1 (Acts.nil.cons (j := 10) rfl g72) hs71 [] rfl trivial (WL.eO 4 Acts.nil J73 hs71 g72 rfl rfl)
 intro _ hs74
 refine WL.nil (WC.cq rfl (fun h75 qh75 => ?_) (fun h75 qh75 => ?_))
 ·have hok : okS s = false := by
    cases hq : okS s with
    | false => rfl
    | true =>
      exfalso; have h8 := h75; unfold okS at hq; simp only [Bool.and_eq_true, decide_eq_true_eq] at hq
      have hb42 : bad59 = false := by rw [← gtS] at hq; cases hb : bad59 with
        | false => rfl
        | true => rw [hb] at hq; exact absurd hq.1 (by simp [rst])
      unfold hdS at hq; rw [hvS] at hq; unfold iat at hq
      rw [hb42, Bool.false_or, Bool.or_eq_true, decide_eq_true_eq, decide_eq_true_eq] at h8
      omega
  have hg : readOkI s = false := readOkS_no hok
  refine WC.sr ?_
  refine WL.val rfl rfl rfl (Run.build rfl rfl rfl rfl (built_35)) (WL.st tbk hs74 1 rfl rfl (fun _ hs76 => WL.r 1 hs76 [] rfl (WL.nil (WC.ret (tkR ?_)))))
  clear hK68
  refine retV2 rfl (resV.cellA tbk hs76 1 rfl rfl rfl rfl) (resV.tmp rfl) ?_
  rw [hg]
  obtain ⟨L84, hs83, ho85⟩ := ownTermR.fl hs76 (OwnF.nil _ _) (OwnF.nil _ _) (OwnF.nil _ _) (OwnF.nil _ _) (OwnF.nil _ _) (OwnN.nil _ _ _)
  have hs86 := ((hs83.fb b2).fb b4)
  refine ⟨⟨⟨0, false, ⟨none, 0, 0, []⟩, ⟨none, 0, 0, []⟩⟩, ⟨0, 0, ⟨0, 0, ⟨none, 0, 0, []⟩⟩, ⟨0, 0, ⟨none, 0, 0, []⟩⟩, false, 0, 0, false, ⟨0, 0, false, false, false⟩, 0, 0, false, false, 0, 0, ⟨0, 0, false, false, false⟩, ⟨none, 0, 0, []⟩, 0, ⟨none, 0, 0, []⟩⟩⟩, _, rfl, (St.keep1 (hs86.fr L84)), ?_, ?_⟩
  · exact (by exact ho85)
  · unfold readRes; rw [hg]; rfl
 have h9 := h75
 simp only [Bool.or_eq_false_iff, decide_eq_false_iff_not] at h9
 obtain ⟨⟨hb42, hW9⟩, hH9⟩ := h9
 have h13 := hv13 hb42
 have hbv0 := rdVars_bounds s 13 (rst 0 (decide ((40000 : Int) < (n_s : Int)))) (gat encI (rdVars s (13 : Int).toNat (rst 0 (decide ((40000 : Int) < (n_s : Int))))).1 0) (gat_mem (F := encI) (by rw [show (rdVars s 13 (rst 0 (decide ((40000 : Int) < (n_s : Int))))).1.length = 13 from h13]; decide))
 have hbv1 := rdVars_bounds s 13 (rst 0 (decide ((40000 : Int) < (n_s : Int)))) (gat encI (rdVars s (13 : Int).toNat (rst 0 (decide ((40000 : Int) < (n_s : Int))))).1 1) (gat_mem (F := encI) (by rw [show (rdVars s 13 (rst 0 (decide ((40000 : Int) < (n_s : Int))))).1.length = 13 from h13]; decide))
 have hbv2 := rdVars_bounds s 13 (rst 0 (decide ((40000 : Int) < (n_s : Int)))) (gat encI (rdVars s (13 : Int).toNat (rst 0 (decide ((40000 : Int) < (n_s : Int))))).1 2) (gat_mem (F := encI) (by rw [show (rdVars s 13 (rst 0 (decide ((40000 : Int) < (n_s : Int))))).1.length = 13 from h13]; decide))
 have hbv5 := rdVars_bounds s 13 (rst 0 (decide ((40000 : Int) < (n_s : Int)))) (gat encI (rdVars s (13 : Int).toNat (rst 0 (decide ((40000 : Int) < (n_s : Int))))).1 5) (gat_mem (F := encI) (by rw [show (rdVars s 13 (rst 0 (decide ((40000 : Int) < (n_s : Int))))).1.length = 13 from h13]; decide))
 have hbv10 := rdVars_bounds s 13 (rst 0 (decide ((40000 : Int) < (n_s : Int)))) (gat encI (rdVars s (13 : Int).toNat (rst 0 (decide ((40000 : Int) < (n_s : Int))))).1 10) (gat_mem (F := encI) (by rw [show (rdVars s 13 (rst 0 (decide ((40000 : Int) < (n_s : Int))))).1.length = 13 from h13]; decide))
 have hd0 : hdS s 0 = (gat encI (rdVars s (13 : Int).toNat (rst 0 (decide ((40000 : Int) < (n_s : Int))))).1 0) := by unfold hdS; rw [hvS]; try rfl
 have hd1 : hdS s 1 = (gat encI (rdVars s (13 : Int).toNat (rst 0 (decide ((40000 : Int) < (n_s : Int))))).1 1) := by unfold hdS; rw [hvS]; try rfl
 have hd2 : hdS s 2 = (gat encI (rdVars s (13 : Int).toNat (rst 0 (decide ((40000 : Int) < (n_s : Int))))).1 2) := by unfold hdS; rw [hvS]; try rfl
 have hd3 : hdS s 3 = (gat encI (rdVars s (13 : Int).toNat (rst 0 (decide ((40000 : Int) < (n_s : Int))))).1 3) := by unfold hdS; rw [hvS]; try rfl
 have hd4 : hdS s 4 = (gat encI (rdVars s (13 : Int).toNat (rst 0 (decide ((40000 : Int) < (n_s : Int))))).1 4) := by unfold hdS; rw [hvS]; try rfl
 have hd5 : hdS s 5 = (gat encI (rdVars s (13 : Int).toNat (rst 0 (decide ((40000 : Int) < (n_s : Int))))).1 5) := by unfold hdS; rw [hvS]; try rfl
 have hd6 : hdS s 6 = (gat encI (rdVars s (13 : Int).toNat (rst 0 (decide ((40000 : Int) < (n_s : Int))))).1 6) := by unfold hdS; rw [hvS]; try rfl
 have hd7 : hdS s 7 = (gat encI (rdVars s (13 : Int).toNat (rst 0 (decide ((40000 : Int) < (n_s : Int))))).1 7) := by unfold hdS; rw [hvS]; try rfl
 have hd8 : hdS s 8 = (gat encI (rdVars s (13 : Int).toNat (rst 0 (decide ((40000 : Int) < (n_s : Int))))).1 8) := by unfold hdS; rw [hvS]; try rfl
 have hd9 : hdS s 9 = (gat encI (rdVars s (13 : Int).toNat (rst 0 (decide ((40000 : Int) < (n_s : Int))))).1 9) := by unfold hdS; rw [hvS]; try rfl
 have hd10 : hdS s 10 = (gat encI (rdVars s (13 : Int).toNat (rst 0 (decide ((40000 : Int) < (n_s : Int))))).1 10) := by unfold hdS; rw [hvS]; try rfl
 have hd11 : hdS s 11 = (gat encI (rdVars s (13 : Int).toNat (rst 0 (decide ((40000 : Int) < (n_s : Int))))).1 11) := by unfold hdS; rw [hvS]; try rfl
 have hd12 : hdS s 12 = (gat encI (rdVars s (13 : Int).toNat (rst 0 (decide ((40000 : Int) < (n_s : Int))))).1 12) := by unfold hdS; rw [hvS]; try rfl
 have hok : okS s = true := by unfold okS; rw [hok0 hb42, hd0, hd1, decide_eq_true (by omega), decide_eq_true (by omega)]; rfl
 have hwh0 : 0 ≤ (gat encI (rdVars s (13 : Int).toNat (rst 0 (decide ((40000 : Int) < (n_s : Int))))).1 0) * (gat encI (rdVars s (13 : Int).toNat (rst 0 (decide ((40000 : Int) < (n_s : Int))))).1 1) := Int.mul_nonneg hbv0.1 hbv1.1
 have hwh1 : (gat encI (rdVars s (13 : Int).toNat (rst 0 (decide ((40000 : Int) < (n_s : Int))))).1 0) * (gat encI (rdVars s (13 : Int).toNat (rst 0 (decide ((40000 : Int) < (n_s : Int))))).1 1) ≤ 120 * 120 := Int.mul_le_mul (by omega) (by omega) hbv1.1 (by omega)
 refine WC.skip (hK68 _ _ (WC.sr (WL.r 1 hs74 [] rfl ?_)))
 refine WL.val rfl rfl rfl (Run.idxK (5) Tryz.runUnderlying23 Tryz.sizeOf3 rfl rfl rfl ?_ ?_ ?_) ?_
 · exact SlF.some_ (SlF.ofOwn ho15 (hs74.ow L14))
 · first | (have h9_ := hv13 (by assumption); omega) | (have h9_ := hv14 _ (by assumption); omega) | omega
 · first | (have h9_ := hv13 (by assumption); omega) | (have h9_ := hv14 _ (by assumption); omega) | omega
 refine WL.val rfl rfl rfl (Run.load Tryz.isAgg3 rfl rfl (SlF.one1 (SlF.ofOwn ho15 (hs74.ow L14)) ?_ rfl)) ?_
 · first | (have h9_ := hv13 (by assumption); omega) | (have h9_ := hv14 _ (by assumption); omega) | omega
 refine WL.cl Tryz.call52 rfl (k62_ _ _) ?_
 rintro _ whs87 ⟨rfl, hs87⟩
 replace hs87 := hs74.call0 hs87
 refine ⟨_, rfl, WL.r 3 hs87 [] rfl (WL.al hs87 Tryz.zeroValue30 rfl rfl (fun b88 _ hs89 => WL.st tbk hs89 0 rfl rfl (fun _ hs90 => WL.r 1 hs90 [] rfl (WL.nil (WC.sr (WL.r 1 hs90 [] rfl ?_))))))⟩
 refine WL.val rfl rfl rfl (Run.idxK (10) Tryz.runUnderlying23 Tryz.sizeOf3 rfl rfl rfl ?_ ?_ ?_) ?_
 · exact SlF.some_ (SlF.ofOwn ho15 (hs90.ow L14))
 · first | (have h9_ := hv13 (by assumption); omega) | (have h9_ := hv14 _ (by assumption); omega) | omega
 · first | (have h9_ := hv13 (by assumption); omega) | (have h9_ := hv14 _ (by assumption); omega) | omega
 refine WL.val rfl rfl rfl (Run.load Tryz.isAgg3 rfl rfl (SlF.one1 (SlF.ofOwn ho15 (hs90.ow L14)) ?_ rfl)) ?_
 · first | (have h9_ := hv13 (by assumption); omega) | (have h9_ := hv14 _ (by assumption); omega) | omega
 refine WL.cl Tryz.call52 rfl (k62_ _ _) ?_
 rintro _ whs91 ⟨rfl, hs91⟩
 replace hs91 := hs90.call0 hs91
 refine ⟨_, rfl, WL.r 3 hs91 [] rfl (WL.al hs91 Tryz.zeroValue30 rfl rfl (fun b92 _ hs93 => WL.st tbk hs93 0 rfl rfl (fun _ hs94 => WL.r 1 hs94 [] rfl (WL.nil (WC.sr (WL.r 1 hs94 [] rfl ?_))))))⟩
 refine WL.val rfl rfl rfl (Run.idxK (2) Tryz.runUnderlying23 Tryz.sizeOf3 rfl rfl rfl ?_ ?_ ?_) ?_
 · exact SlF.some_ (SlF.ofOwn ho15 (hs94.ow L14))
 · first | (have h9_ := hv13 (by assumption); omega) | (have h9_ := hv14 _ (by assumption); omega) | omega
 · first | (have h9_ := hv13 (by assumption); omega) | (have h9_ := hv14 _ (by assumption); omega) | omega
 refine WL.val rfl rfl rfl (Run.load Tryz.isAgg3 rfl rfl (SlF.one1 (SlF.ofOwn ho15 (hs94.ow L14)) ?_ rfl)) ?_
 · first | (have h9_ := hv13 (by assumption); omega) | (have h9_ := hv14 _ (by assumption); omega) | omega
 refine WL.r 1 hs94 [] rfl (WL.nil (WC.seq (fun K95 hK95 => WC.rG 47 hs94 hs94 hs94 (fun _ hs96 => ?_))))
 refine WG.rn [0] hs96 [] rfl rfl ?_
 refine WG.tk 1 rfl (by kernel_rfl) rfl rfl rfl hs96 (fun w_ hs_ => (Run.idxK (0) Tryz.runUnderlying23 Tryz.sizeOf3 rfl rfl rfl ?_ ?_ ?_)) ?_
 · exact SlF.some_ (SlF.ofOwn ho15 ((hs_ : St _ _ _ _).ow L14))
 · first | (have h9_ := hv13 (by assumption); omega) | (have h9_ := hv14 _ (by assumption); omega) | omega
 · first | (have h9_ := hv13 (by assumption); omega) | (have h9_ := hv14 _ (by assumption); omega) | omega
 refine WG.tk 2 rfl (by kernel_rfl) rfl rfl rfl hs96 (fun w_ hs_ => (Run.load Tryz.isAgg3 rfl rfl (SlF.one1 (SlF.ofOwn ho15 ((hs_ : St _ _ _ _).ow L14)) ?_ rfl))) ?_
 · first | (have h9_ := hv13 (by assumption); omega) | (have h9_ := hv14 _ (by assumption); omega) | omega
 refine WG.rn [3] hs96 [] rfl rfl ?_
 refine WG.tk 4 rfl (by kernel_rfl) rfl rfl rfl hs96 (fun w_ hs_ => (Run.idxK (1) Tryz.runUnderlying23 Tryz.sizeOf3 rfl rfl rfl ?_ ?_ ?_)) ?_
 · exact SlF.some_ (SlF.ofOwn ho15 ((hs_ : St _ _ _ _).ow L14))
 · first | (have h9_ := hv13 (by assumption); omega) | (have h9_ := hv14 _ (by assumption); omega) | omega
 · first | (have h9_ := hv13 (by assumption); omega) | (have h9_ := hv14 _ (by assumption); omega) | omega
 refine WG.tk 5 rfl (by kernel_rfl) rfl rfl rfl hs96 (fun w_ hs_ => (Run.load Tryz.isAgg3 rfl rfl (SlF.one1 (SlF.ofOwn ho15 ((hs_ : St _ _ _ _).ow L14)) ?_ rfl))) ?_
 · first | (have h9_ := hv13 (by assumption); omega) | (have h9_ := hv14 _ (by assumption); omega) | omega
 refine WG.rn [6] hs96 [] rfl rfl ?_
 refine WG.tk 7 rfl (by kernel_rfl) rfl rfl rfl hs96 (fun w_ hs_ => (Run.rem rfl rfl rfl ?_ ?_)) ?_
 · omega
 · omega
 refine WG.rn [8, 9] hs96 [] rfl rfl ?_
 refine WG.tk 10 rfl (by kernel_rfl) rfl rfl rfl hs96 (fun w_ hs_ => (Run.quo rfl rfl rfl ?_ ?_ ?_)) ?_
 · omega
 · omega
 · omega
 refine WG.tk 11 rfl (by kernel_rfl) rfl rfl rfl hs96 (fun w_ hs_ => (Run.rem rfl rfl rfl ?_ ?_)) ?_
 · omega
 · omega
 refine WG.rn [12, 13] hs96 [] rfl rfl ?_
 refine WG.tk 14 rfl (by kernel_rfl) rfl rfl rfl hs96 (fun w_ hs_ => (Run.quo rfl rfl rfl ?_ ?_ ?_)) ?_
 · omega
 · omega
 · omega
 refine WG.tk 15 rfl (by kernel_rfl) rfl rfl rfl hs96 (fun w_ hs_ => (Run.rem rfl rfl rfl ?_ ?_)) ?_
 · omega
 · omega
 refine WG.rn [16, 17] hs96 [] rfl rfl ?_
 refine WG.tk 18 rfl (by kernel_rfl) rfl rfl rfl hs96 (fun w_ hs_ => (Run.quo rfl rfl rfl ?_ ?_ ?_)) ?_
 · omega
 · omega
 · omega
 refine WG.tk 19 rfl (by kernel_rfl) rfl rfl rfl hs96 (fun w_ hs_ => (Run.rem rfl rfl rfl ?_ ?_)) ?_
 · omega
 · omega
 refine WG.rn [20, 21] hs96 [] rfl rfl ?_
 refine WG.tk 22 rfl (by kernel_rfl) rfl rfl rfl hs96 (fun w_ hs_ => (Run.idxK (3) Tryz.runUnderlying23 Tryz.sizeOf3 rfl rfl rfl ?_ ?_ ?_)) ?_
 · exact SlF.some_ (SlF.ofOwn ho15 ((hs_ : St _ _ _ _).ow L14))
 · first | (have h9_ := hv13 (by assumption); omega) | (have h9_ := hv14 _ (by assumption); omega) | omega
 · first | (have h9_ := hv13 (by assumption); omega) | (have h9_ := hv14 _ (by assumption); omega) | omega
 refine WG.tk 23 rfl (by kernel_rfl) rfl rfl rfl hs96 (fun w_ hs_ => (Run.load Tryz.isAgg3 rfl rfl (SlF.one1 (SlF.ofOwn ho15 ((hs_ : St _ _ _ _).ow L14)) ?_ rfl))) ?_
 · first | (have h9_ := hv13 (by assumption); omega) | (have h9_ := hv14 _ (by assumption); omega) | omega
 refine WG.rn [24] hs96 [] rfl rfl ?_
 refine WG.tk 25 rfl (by kernel_rfl) rfl rfl rfl hs96 (fun w_ hs_ => (Run.idxK (4) Tryz.runUnderlying23 Tryz.sizeOf3 rfl rfl rfl ?_ ?_ ?_)) ?_
 · exact SlF.some_ (SlF.ofOwn ho15 ((hs_ : St _ _ _ _).ow L14))
 · first | (have h9_ := hv13 (by assumption); omega) | (have h9_ := hv14 _ (by assumption); omega) | omega
 · first | (have h9_ := hv13 (by assumption); omega) | (have h9_ := hv14 _ (by assumption); omega) | omega
 refine WG.tk 26 rfl (by kernel_rfl) rfl rfl rfl hs96 (fun w_ hs_ => (Run.load Tryz.isAgg3 rfl rfl (SlF.one1 (SlF.ofOwn ho15 ((hs_ : St _ _ _ _).ow L14)) ?_ rfl))) ?_
 · first | (have h9_ := hv13 (by assumption); omega) | (have h9_ := hv14 _ (by assumption); omega) | omega
 refine WG.rn [27, 28] hs96 [1] rfl rfl ?_
 refine WG.tk 29 rfl (by kernel_rfl) rfl rfl rfl hs96 (fun w_ hs_ => (Run.idxK (6) Tryz.runUnderlying23 Tryz.sizeOf3 rfl rfl rfl ?_ ?_ ?_)) ?_
 · exact SlF.some_ (SlF.ofOwn ho15 ((hs_ : St _ _ _ _).ow L14))
 · first | (have h9_ := hv13 (by assumption); omega) | (have h9_ := hv14 _ (by assumption); omega) | omega
 · first | (have h9_ := hv13 (by assumption); omega) | (have h9_ := hv14 _ (by assumption); omega) | omega
 refine WG.tk 30 rfl (by kernel_rfl) rfl rfl rfl hs96 (fun w_ hs_ => (Run.load Tryz.isAgg3 rfl rfl (SlF.one1 (SlF.ofOwn ho15 ((hs_ : St _ _ _ _).ow L14)) ?_ rfl))) ?_
 · first | (have h9_ := hv13 (by assumption); omega) | (have h9_ := hv14 _ (by assumption); omega) | omega
 refine WG.rn [31] hs96 [] rfl rfl ?_
 refine WG.tk 32 rfl (by kernel_rfl) rfl rfl rfl hs96 (fun w_ hs_ => (Run.idxK (7) Tryz.runUnderlying23 Tryz.sizeOf3 rfl rfl rfl ?_ ?_ ?_)) ?_
 · exact SlF.some_ (SlF.ofOwn ho15 ((hs_ : St _ _ _ _).ow L14))
 · first | (have h9_ := hv13 (by assumption); omega) | (have h9_ := hv14 _ (by assumption); omega) | omega
 · first | (have h9_ := hv13 (by assumption); omega) | (have h9_ := hv14 _ (by assumption); omega) | omega
 refine WG.tk 33 rfl (by kernel_rfl) rfl rfl rfl hs96 (fun w_ hs_ => (Run.load Tryz.isAgg3 rfl rfl (SlF.one1 (SlF.ofOwn ho15 ((hs_ : St _ _ _ _).ow L14)) ?_ rfl))) ?_
 · first | (have h9_ := hv13 (by assumption); omega) | (have h9_ := hv14 _ (by assumption); omega) | omega
 refine WG.rn [34] hs96 [] rfl rfl ?_
 refine WG.tk 35 rfl (by kernel_rfl) rfl rfl rfl hs96 (fun w_ hs_ => (Run.idxK (8) Tryz.runUnderlying23 Tryz.sizeOf3 rfl rfl rfl ?_ ?_ ?_)) ?_
 · exact SlF.some_ (SlF.ofOwn ho15 ((hs_ : St _ _ _ _).ow L14))
 · first | (have h9_ := hv13 (by assumption); omega) | (have h9_ := hv14 _ (by assumption); omega) | omega
 · first | (have h9_ := hv13 (by assumption); omega) | (have h9_ := hv14 _ (by assumption); omega) | omega
 refine WG.tk 36 rfl (by kernel_rfl) rfl rfl rfl hs96 (fun w_ hs_ => (Run.load Tryz.isAgg3 rfl rfl (SlF.one1 (SlF.ofOwn ho15 ((hs_ : St _ _ _ _).ow L14)) ?_ rfl))) ?_
 · first | (have h9_ := hv13 (by assumption); omega) | (have h9_ := hv14 _ (by assumption); omega) | omega
 refine WG.rn [37] hs96 [] rfl rfl ?_
 refine WG.tk 38 rfl (by kernel_rfl) rfl rfl rfl hs96 (fun w_ hs_ => (Run.idxK (9) Tryz.runUnderlying23 Tryz.sizeOf3 rfl rfl rfl ?_ ?_ ?_)) ?_
 · exact SlF.some_ (SlF.ofOwn ho15 ((hs_ : St _ _ _ _).ow L14))
 · first | (have h9_ := hv13 (by assumption); omega) | (have h9_ := hv14 _ (by assumption); omega) | omega
 · first | (have h9_ := hv13 (by assumption); omega) | (have h9_ := hv14 _ (by assumption); omega) | omega
 refine WG.tk 39 rfl (by kernel_rfl) rfl rfl rfl hs96 (fun w_ hs_ => (Run.load Tryz.isAgg3 rfl rfl (SlF.one1 (SlF.ofOwn ho15 ((hs_ : St _ _ _ _).ow L14)) ?_ rfl))) ?_
 · first | (have h9_ := hv13 (by assumption); omega) | (have h9_ := hv14 _ (by assumption); omega) | omega
 refine WG.rn [40, 41] hs96 [0] rfl rfl ?_
 refine WG.tk 42 rfl (by kernel_rfl) rfl rfl rfl hs96 (fun w_ hs_ => (Run.idxK (11) Tryz.runUnderlying23 Tryz.sizeOf3 rfl rfl rfl ?_ ?_ ?_)) ?_
 · exact SlF.some_ (SlF.ofOwn ho15 ((hs_ : St _ _ _ _).ow L14))
 · first | (have h9_ := hv13 (by assumption); omega) | (have h9_ := hv14 _ (by assumption); omega) | omega
 · first | (have h9_ := hv13 (by assumption); omega) | (have h9_ := hv14 _ (by assumption); omega) | omega
 refine WG.tk 43 rfl (by kernel_rfl) rfl rfl rfl hs96 (fun w_ hs_ => (Run.load Tryz.isAgg3 rfl rfl (SlF.one1 (SlF.ofOwn ho15 ((hs_ : St _ _ _ _).ow L14)) ?_ rfl))) ?_
 · first | (have h9_ := hv13 (by assumption); omega) | (have h9_ := hv14 _ (by assumption); omega) | omega
 refine WG.rn [44] hs96 [] rfl rfl ?_
 refine WG.tk 45 rfl (by kernel_rfl) rfl rfl rfl hs96 (fun w_ hs_ => (Run.build rfl rfl rfl rfl (built_33_0_1_4_7_11_12_5_6_8_9_10_13_14_15_17_16 _ _ _ _ _ _ _ _ _ _ _ _ _ _ _ _ _ _ _ _ _ _ _ _ _ _))) ?_
 refine WG.o1 46 rfl rfl (WL.al hs96 Tryz.zeroValue33 rfl rfl (fun b97 _ hs98 => WL.nil ⟨hs98.d1, WG.oK rfl (WL.st tbk hs98 0 rfl rfl (fun _ hs99 => WL.nil ⟨hs99.d1, WH.dn (hK95 _ _ ?_)⟩))⟩))
 refine WC.sr (WL.r 1 hs99 [] rfl (WL.val rfl rfl rfl (Run.idxK (12) Tryz.runUnderlying23 Tryz.sizeOf3 rfl rfl rfl ?_ ?_ ?_) ?_))
 · exact SlF.some_ (SlF.ofOwn ho15 (hs99.ow L14))
 · first | (have h9_ := hv13 (by assumption); omega) | (have h9_ := hv14 _ (by assumption); omega) | omega
 · first | (have h9_ := hv13 (by assumption); omega) | (have h9_ := hv14 _ (by assumption); omega) | omega
 refine WL.val rfl rfl rfl (Run.load Tryz.isAgg3 rfl rfl (SlF.one1 (SlF.ofOwn ho15 (hs99.ow L14)) ?_ rfl)) ?_
 · first | (have h9_ := hv13 (by assumption); omega) | (have h9_ := hv14 _ (by assumption); omega) | omega
 refine WL.r 1 hs99 [] rfl (WL.val rfl rfl rfl (Run.quo rfl rfl rfl ?_ ?_ ?_) ?_)
 · omega
 · omega
 · omega
 refine WL.val rfl rfl rfl (Run.rem rfl rfl rfl ?_ ?_) ?_
 · omega
 · omega
 refine WL.r 2 hs99 [] rfl ?_
 refine WL.val rfl rfl rfl (Run.build rfl rfl rfl rfl (built_25_0_1_2 _ _ _ _ _)) (WL.al hs99 Tryz.zeroValue25 rfl rfl (fun b100 _ hs101 => WL.st tbk hs101 0 rfl rfl (fun _ hs102 => WL.nil (WC.seq (fun K103 hK103 => WC.r1 hs102 [] rfl (WC.block ?_))))))
 obtain ⟨L106, hs105, ho107⟩ := ownVpR.fl hs102 ho32 (OwnF.nil _ _)
 have hs108 := ((((((hs105.fb b2).fb b4).fb b88).fb b92).fb b97).fb b100)
 have hM113 := (St.grp1 (L1 := L106) [_] ((((((((((hs108.fr L14).fr L48).fr L65).fb b2).fb b4).fb b88).fb b92).fb b97).fr L106).fb b100))
 refine WC.lV [0, 2, 3, 4, 14, 15, 58, 132, 133] rfl hM113 (fun k_ (a_ : Hp) f => ∃ (i : Nat) (v : VpR) (L111 : Hp), k_ = (rdVars s (rdN s (rst q24 bad25)).toNat (rst q35 bad36)).1.length - i ∧ a_ = [(b100, .cells (List.toArray [i64 v.State, .bool v.Mark, .slice v.Args.A v.Args.n v.Args.c, .slice v.Part.A v.Part.n v.Part.c]) 25 (0, 0))] ++ L111 ∧ (i ≤ (rdVars s (rdN s (rst q24 bad25)).toNat (rst q35 bad36)).1.length) ∧ (v.dat = (⟨(gat encI (rdVars s (13 : Int).toNat (rst 0 (decide ((40000 : Int) < (n_s : Int))))).1 12), bitQ (gat encI (rdVars s (13 : Int).toNat (rst 0 (decide ((40000 : Int) < (n_s : Int))))).1 2) 16, (rdVars s (rdN s (rst q7 bad8)).toNat (rst q18 bad19)).1, ((rdVars s (rdN s (rst q24 bad25)).toNat (rst q35 bad36)).1.take i).map ub⟩ : VpD)) ∧ ownVpR v L111 ∧ Sub [(134, .int .i64 i)] f) (((fun (i : Nat) => (rdVars s (rdN s (rst q24 bad25)).toNat (rst q35 bad36)).1.length - i) (0))) ?_ ?_
 ·refine ⟨0, ⟨_, _, SlD.of ho32, ⟨none, 0, 0, []⟩⟩, L106, rfl, rfl, ?_, ?_, (by exact ho107), ⟨rfl, trivial⟩⟩
  · exact Nat.zero_le _
  · rfl
 rintro _ _ f w ⟨i, v, L111, rfl, rfl, p0, p1, ho112, hG⟩ hF hs114
 refine WC.sub _ (hG.app hF) ?_
 clear hG hF
 replace hs114 := St.ungrp1 [_] hs114
 have hs115 := ((((((hs114.fb b2).fb b4).fb b88).fb b92).fb b97).fb b100)
 have hpl : v.Part.xs.length ≤ 1048577 := by have e9 := congrArg (fun d => d.Part.length) p1; simp only [List.length_map, List.length_take] at e9; have e8 : v.dat.Part.length = v.Part.xs.length := rfl; omega
 refine WC.r1 hs115 [] rfl (WC.seq (fun K116 hK116 => ?_))
 refine WC.cq rfl (fun h117 qh117 => ?_) (fun h117 qh117 => ?_)
 ·have hbi := rdVars_bounds s _ _ (gat encI (rdVars s (rdN s (rst q24 bad25)).toNat (rst q35 bad36)).1 i) (gat_mem (F := encI) (xs := (rdVars s (rdN s (rst q24 bad25)).toNat (rst q35 bad36)).1) (k := i) (by omega))
  refine WC.skip (hK116 _ _ (WC.seq (fun K118 hK118 => WC.block (WC.sr ?_))))
  refine WL.val rfl rfl rfl (Run.idxN Tryz.runUnderlying23 Tryz.sizeOf3 rfl rfl rfl ?_ ?_ ?_) ?_
  · exact SlF.some_ (SlF.ofOwn ho49 (hs115.ow L48))
  · first | (have h9_ := hv13 (by assumption); omega) | (have h9_ := hv14 _ (by assumption); omega) | omega
  · first | (have h9_ := hv13 (by assumption); omega) | (have h9_ := hv14 _ (by assumption); omega) | omega
  refine WL.val rfl rfl rfl (Run.load Tryz.isAgg3 rfl rfl (SlF.one1 (SlF.ofOwn ho49 (hs115.ow L48)) ?_ rfl)) ?_
  · first | (have h9_ := hv13 (by assumption); omega) | (have h9_ := hv14 _ (by assumption); omega) | omega
  refine WL.r 1 hs115 [] rfl (WL.nil (WC.region (WL.r 3 hs115 [0] rfl (WL.val rfl rfl rfl (Run.and rfl rfl rfl ?_ ?_ ?_ ?_) ?_))))
  · omega
  · omega
  · omega
  · omega
  refine WL.r 1 hs115 [] rfl (WL.buildSlice hs115 Tryz.runUnderlying22 Tryz.sizeOf5 Tryz.zeroValue5 rfl rfl rfl rfl rfl rfl rfl rfl rfl rfl (fun b119 whs120 hs120 => ?_))
  obtain ⟨L121, L122, hs125, ho123, ho124⟩ := ownVpR.op hs120 ho112
  have hs126 := (((((((hs125.fb b2).fb b4).fb b88).fb b92).fb b97).fb b100).fb b119)
  refine WL.appendG (hs126.fr L122) ho124 (srcB1 Tryz.underlying22 (hs126.own _ (nthL_mem (i := 0) rfl)).1) Tryz.underlying22 inf5 rfl rfl rfl rfl rfl rfl rfl rfl rfl rfl ?_ (fun A130 c131 L127 whs128 hs128 ho129 => ?_)
  · (try simp only [List.length_append, List.length_singleton]); omega
  replace hs128 := St.back [_, _, _, _, _, _, _] hs128
  refine WL.r 1 hs128 [] rfl (WL.st tbk hs128 1 rfl rfl (fun _ hs132 => WL.nil (hK118 _ _ (WC.region (WL.r 2 hs132 [] rfl (WL.nil (tkN ?_)))))))
  obtain ⟨L134, hs133, ho135⟩ := ownVpR.fl hs132 ho123 ho129
  have hs136 := (((((((hs133.fb b2).fb b4).fb b88).fb b92).fb b97).fb b100).fb b119)
  replace hs136 := hs136.d1
  have hF137 := (St.grp1 (L1 := L134) [_] ((((((((((hs136.fr L14).fr L48).fr L65).fb b2).fb b4).fb b88).fb b92).fb b97).fr L134).fb b100))
  refine ⟨sbF rfl, _, hF137, _, ?_, i + 1, ⟨v.State, v.Mark, SlD.of ho123, SlD.of ho129⟩, L134, rfl, rfl, ?_, ?_, (by exact ho135), ⟨rfl, trivial⟩⟩
  · omega
  · omega
  · have e6 : v.State = (gat encI (rdVars s (13 : Int).toNat (rst 0 (decide ((40000 : Int) < (n_s : Int))))).1 12) := congrArg VpD.State p1
    have e7 : v.Mark = bitQ (gat encI (rdVars s (13 : Int).toNat (rst 0 (decide ((40000 : Int) < (n_s : Int))))).1 2) 16 := congrArg VpD.Mark p1
    have e8 : v.Args.xs = (rdVars s (rdN s (rst q7 bad8)).toNat (rst q18 bad19)).1 := congrArg VpD.Args p1
    refine VpD.ext' e6 e7 e8 ?_
    have e9 : v.Part.xs = ((rdVars s (rdN s (rst q24 bad25)).toNat (rst q35 bad36)).1.take i).map ub := congrArg VpD.Part p1
    show v.Part.xs ++ [_] = ((rdVars s (rdN s (rst q24 bad25)).toNat (rst q35 bad36)).1.take (i + 1)).map ub
    rw [e9, List.take_add_one, gat_get (F := encI) (by omega), List.map_append]; exact congrArg (_ ++ [·]) (ub_255 hbi.1)
 have hvv : v.dat = (termS s).P := by rw [p1, List.take_of_length_le (by omega)]; unfold termS; rw [haS, hpS, hd12, hd2]
 refine WC.exit (hK103 _ _ (WC.seq (fun K138 hK138 => WC.rG 13 ((hs115.fb b97).d1.fb b4).d1 (hs115.fb b4).d1 hs115 (fun _ hs139 => ?_))))
 refine WG.rn [0, 1, 2, 3, 4, 5, 6, 7, 8, 9] (hs139.fb b4).d1 [1, 1, 1, 1] rfl rfl (WG.o1 10 rfl rfl ?_)
 replace hs139 := (((((hs139.fb b88).fb b92).fb b97).fb b100).fb b4)
 have hF140 : St _ _ ([(b4, _)] ++ _) _ := hs139
 refine WL.call rfl rfl rfl (Run.call Tryz.call53 rfl rfl rfl) (k90_ _ _ _ _ _ _ _ _ _ (hF140.own _ List.mem_cons_self).1 (SlF.st0 f_s hs139) (St.sep hF140 f_s) ?_ ?_ ?_) ?_
 · omega
 · first | assumption | exact OwnF.cap (by assumption) | omega
 · omega
 rintro _ whs145 ⟨q141, bad142, A146, c147, L148, rfl, hs145, ho149, hst143, hq144⟩
 replace hs145 := St.lend hF140 hs145
 refine ⟨_, rfl, ?_⟩
 replace hs145 := St.assoc (L1 := [_]) hs145
 have hs150 := ((((((hs145.fb b2).fb b88).fb b92).fb b97).fb b100).fb b4)
 have gM : (rst q141 bad142) = nS s := by unfold nS; rw [← gtS, hd0, hd1]; exact hst143
 refine WL.nil ⟨(hs150.d1.rm L148), ?_⟩
 refine WG.tk 11 rfl (by kernel_rfl) rfl rfl rfl (hs150.d1.rm L148) (fun w_ hs_ => (Run.build rfl rfl rfl rfl (built_28_0_1_2 _ _ _ _ _))) ?_
 refine WG.rn [12] (hs150.d1.rm L148) [] rfl rfl (WG.oK rfl (WL.st tbk hs150 2 rfl rfl (fun _ hs151 => WL.nil ⟨((hs151.d1.fb b97).d1.rm L148), WH.dn (hK138 _ _ (WC.seq (fun K152 hK152 => WC.rG 13 (hs151.d1.fb b97).d1 hs151.d1 hs151 (fun _ hs153 => ?_))))⟩)))
 refine WG.rn [0, 1, 2, 3, 4, 5, 6, 7, 8, 9] hs153.d1 [1, 1, 1, 1] rfl rfl (WG.o1 10 rfl rfl ?_)
 have hF154 : St _ _ ([(b4, _)] ++ _) _ := hs153
 refine WL.call rfl rfl rfl (Run.call Tryz.call53 rfl rfl rfl) (k90_ _ _ _ _ _ _ _ _ _ (hF154.own _ List.mem_cons_self).1 (SlF.st0 f_s hs153) (St.sep hF154 f_s) ?_ ?_ ?_) ?_
 · omega
 · first | assumption | exact OwnF.cap (by assumption) | omega
 · omega
 rintro _ whs159 ⟨q155, bad156, A160, c161, L162, rfl, hs159, ho163, hst157, hq158⟩
 replace hs159 := St.lend hF154 hs159
 refine ⟨_, rfl, ?_⟩
 replace hs159 := St.assoc (L1 := [_]) hs159
 have hs164 := ((((((hs159.fb b2).fb b88).fb b92).fb b97).fb b100).fb b4)
 have gL : (rst q155 bad156) = eS s := by unfold eS; rw [← gM, hd0, hd1]; exact hst157
 refine WL.nil ⟨(hs164.d1.rm L162), ?_⟩
 refine WG.tk 11 rfl (by kernel_rfl) rfl rfl rfl (hs164.d1.rm L162) (fun w_ hs_ => (Run.build rfl rfl rfl rfl (built_28_0_1_2 _ _ _ _ _))) ?_
 refine WG.rn [12] (hs164.d1.rm L162) [] rfl rfl (WG.oK rfl (WL.st tbk hs164 2 rfl rfl (fun _ hs165 => WL.nil ⟨((hs165.d1.fb b97).d1.rm L162), WH.dn (hK152 _ _ (WC.sr (WL.r 1 hs165 [] rfl ?_)))⟩)))
 have hF166 : St _ _ ([(b4, _)] ++ _) _ := hs165
 refine WL.call rfl rfl rfl (Run.call Tryz.call51 rfl rfl rfl) (k73_ _ _ _ _ _ _ _ _ (hF166.own _ List.mem_cons_self).1 (SlF.st0 f_s hs165) (St.sep hF166 f_s) ?_ ?_ ?_) ?_
 · omega
 · first | assumption | exact OwnF.cap (by assumption) | omega
 · omega
 rintro _ whs171 ⟨q167, bad168, rfl, hs171, hst169, hq170⟩
 replace hs171 := St.lend hF166 hs171
 refine ⟨_, rfl, ?_⟩
 have hbR := rdN_bounds s (eS s)
 have hcS : (rst q167 bad168) = rdS s (eS s) := by rw [← gL]; exact hst169
 rw [gL]
 refine WL.r 1 hs171 [] rfl (WL.nil (WC.seq (fun K172 hK172 => WC.r1 hs171 [] rfl (WC.block ?_))))
 obtain ⟨L175, hs174, ho176⟩ := ownScrR.fl hs171 ho149 ho163 ho66 (OwnN.nil _ _ _)
 have hs177 := ((((((hs174.fb b2).fb b88).fb b92).fb b97).fb b100).fb b4)
 have hM182 := (St.grp1 (L1 := L175) [_, _] ((((((((((hs177.fr L14).fr L48).fr L111).fb b2).fb b88).fb b92).fb b100).fr L175).fb b4).fb b97))
 refine WC.lV [0, 2, 3, 4, 14, 15, 18, 58, 135] rfl hM182 (fun k_ (a_ : Hp) f => ∃ (i : Nat) (q1 : Int) (bd : Bool) (zs : List RowD) (r : ScrR) (L180 : Hp), k_ = (rdN s (eS s)).toNat - i ∧ a_ = [(b97, .cells (List.toArray (cScr r)) 33 (0, 0)), (b4, .cells (List.toArray [.slice A_s n_s c_s, i64 q1, .bool bd]) 91 (0, 0))] ++ L180 ∧ (i ≤ (rdN s (eS s)).toNat) ∧ (0 ≤ q1 ∧ q1 ≤ n_s) ∧ (zs.length = i) ∧ (rS s = (zs ++ (rowsV s ((rdN s (eS s)).toNat - i) (rst q1 bd)).1, (rowsV s ((rdN s (eS s)).toNat - i) (rst q1 bd)).2)) ∧ (r.dat = ({ (termS s).S with Back := zs } : ScrD)) ∧ ownScrR r L180 ∧ Sub [(19, .int .i64 i)] f) (((fun (i : Nat) (q1 : Int) (bd : Bool) (zs : List RowD) => (rdN s (eS s)).toNat - i) (0) (q167) (bad168) ([]))) ?_ ?_
 ·refine ⟨0, q167, bad168, [], ⟨_, _, ⟨_, _, SlD.of ho149⟩, ⟨_, _, SlD.of ho163⟩, _, _, _, _, ⟨_, _, _, _, _⟩, _, _, _, _, _, _, ⟨_, _, _, _, _⟩, SlD.of ho66, _, ⟨none, 0, 0, []⟩⟩, L175, rfl, rfl, ?_, ?_, ?_, ?_, ?_, (by exact ho176), ⟨rfl, trivial⟩⟩
  · exact Nat.zero_le _
  · omega
  · rfl
  · unfold rS; rw [hcS]; rfl
  · unfold termS; rw [hd0, hd1, hd2, hd3, hd4, hd5, hd6, hd7, hd8, hd9, hd10, hd11, ← gtS, ← gM, htS]; simp only [bitQ, Int.ediv_one]; rfl
 rintro _ _ f w ⟨i, q1, bd, zs, r, L180, rfl, rfl, p0, p1, p2, p3, p4, ho181, hG⟩ hF hs183
 refine WC.sub _ (hG.app hF) ?_
 clear hG hF
 replace hs183 := St.ungrp1 [_, _] hs183
 have hs184 := ((((((hs183.fb b2).fb b88).fb b92).fb b100).fb b4).fb b97)
 have hbl : r.Back.xs.length = i := by have e9 := congrArg (fun d => d.Back.length) p4; have e8 : r.dat.Back.length = r.Back.xs.length := List.length_map _; simp only at e9; omega
 refine WC.seq (fun K185 hK185 => WC.sr (WL.r 4 hs184 [] rfl (WL.pA tbk 5 Acts.nil hs184 [1] rfl rfl rfl rfl (fun g_ => ⟨rfl, trivial⟩) (WL.nil ?_))))
 refine WC.cq rfl (fun h186 qh186 => ?_) (fun h186 qh186 => ?_)
 ·have hbd : bd = false := by have h9 := h186; simp at h9; exact h9.2
  have hil : i < (rdN s (eS s)).toNat := by have h9 := h186; simp at h9; omega
  refine WC.skip (hK185 _ _ (WC.seq (fun K187 hK187 => WC.block (WC.rG 10 (hs184.d1.d1.rm L180) ((hs184.fb b4).d1.rm L180) hs184 (fun _ hs188 => ?_)))))
  refine WG.rn [0, 1, 2, 3] ((hs188.fb b4).d1.rm L180) [0] rfl rfl (WG.o1 4 rfl rfl ?_)
  replace hs188 := (hs188.fb b4)
  have hF189 : St _ _ ([(b4, _)] ++ _) _ := hs188
  refine WL.call rfl rfl rfl (Run.call Tryz.call51 rfl rfl rfl) (k73_ _ _ _ _ _ _ _ _ (hF189.own _ List.mem_cons_self).1 (SlF.st0 f_s hs188) (St.sep hF189 f_s) ?_ ?_ ?_) ?_
  · omega
  · first | assumption | exact OwnF.cap (by assumption) | omega
  · omega
  rintro _ whs194 ⟨q190, bad191, rfl, hs194, hst192, hq193⟩
  replace hs194 := St.lend hF189 hs194
  refine ⟨_, rfl, WL.nil ⟨(hs194.d1.rm L180), WG.o1 5 rfl rfl ?_⟩⟩
  have hF195 : St _ _ ([(b4, _)] ++ _) _ := hs194
  refine WL.call rfl rfl rfl (Run.call Tryz.call53 rfl rfl rfl) (k90_ _ _ _ _ _ _ _ _ _ (hF195.own _ List.mem_cons_self).1 (SlF.st0 f_s hs194) (St.sep hF195 f_s) ?_ ?_ ?_) ?_
  · omega
  · first | assumption | exact OwnF.cap (by assumption) | omega
  · omega
  rintro _ whs200 ⟨q196, bad197, A201, c202, L203, rfl, hs200, ho204, hst198, hq199⟩
  replace hs200 := St.lend hF195 hs200
  refine ⟨_, rfl, ?_⟩
  replace hs200 := St.assoc (L1 := [_]) hs200
  have hs205 := ((((((hs200.fb b2).fb b88).fb b92).fb b100).fb b97).fb b4)
  refine WL.nil ⟨((hs205.d1.rm L203).rm L180), ?_⟩
  refine WG.tk 6 rfl (by kernel_rfl) rfl rfl rfl ((hs205.d1.rm L203).rm L180) (fun w_ hs_ => (Run.build rfl rfl rfl rfl (built_98_0 _ _ _))) ?_
  refine WG.o1 7 rfl rfl (WL.buildSlice hs205 Tryz.runUnderlying31 Tryz.sizeOf98 Tryz.zeroValue98 rfl rfl rfl rfl rfl rfl rfl rfl rfl rfl (fun b206 whs207 hs207 => WL.nil ⟨((hs207.d1.d1.rm L203).rm L180), WG.o1 8 rfl rfl ?_⟩))
  obtain ⟨L208, L209, L210, L211, hs216, ho212, ho213, ho214, ho215⟩ := ownScrR.op hs207 ho181
  have hs217 := (((((((hs216.fb b2).fb b88).fb b92).fb b100).fb b97).fb b4).fb b206)
  obtain ⟨L218, L219, hs222, ho220, ho221⟩ := OwnN.open_ (hs217.fr L211) ho215
  have hs223 := (((((((hs222.fb b2).fb b88).fb b92).fb b100).fb b97).fb b4).fb b206)
  refine WL.appendG (hs223.fr L218) ho220 (srcF (F := encRowR) (ys := [(⟨SlD.of ho204⟩ : RowR)]) Tryz.underlying31 rfl rfl (hs223.own _ (nthL_mem (i := 0) rfl)).1) Tryz.underlying31 inf98 rfl rfl rfl rfl rfl rfl rfl rfl rfl rfl ?_ (fun A227 c228 L224 whs225 hs225 ho226 => ?_)
  · (try simp only [List.length_append, List.length_singleton]); omega
  replace hs225 := St.back [_, _, _, _, _, _, _] hs225
  obtain ⟨L229, hs230, hb231⟩ := Bag.put (x := (⟨SlD.of ho204⟩ : RowR)) ((hs225.fr L203).fr L219) ho221 ho204
  have hs232 := (((((((hs230.fb b2).fb b88).fb b92).fb b100).fb b97).fb b4).fb b206)
  obtain ⟨L234, hs233, ho235⟩ := OwnN.fold ((hs232.fr L229).fr L224) ho226 hb231
  have hs236 := (((((((hs233.fb b2).fb b88).fb b92).fb b100).fb b97).fb b4).fb b206)
  refine WL.nil ⟨((((hs236.d1.d1.rm L234).rm L208).rm L209).rm L210), WG.rn [9] ((((hs236.d1.d1.rm L234).rm L208).rm L209).rm L210) [] rfl rfl (WG.oK rfl (WL.st tbk hs236 2 rfl rfl (fun _ hs237 => WL.nil ⟨((((hs237.d1.d1.d1.rm L234).rm L208).rm L209).rm L210), WH.dn (hK187 _ _ (WC.region ?_))⟩)))⟩
  refine WL.r 3 hs237 [] rfl (WL.nil (tkN ?_))
  obtain ⟨L239, hs238, ho240⟩ := ownScrR.fl hs237 ho212 ho213 ho214 ho235
  have hs241 := (((((((hs238.fb b2).fb b88).fb b92).fb b100).fb b97).fb b4).fb b206)
  replace hs241 := hs241.d1
  have hF242 := (St.grp1 (L1 := L239) [_, _] ((((((((((hs241.fr L14).fr L48).fr L111).fb b2).fb b88).fb b92).fb b100).fr L239).fb b4).fb b97))
  refine ⟨sbF rfl, _, hF242, _, ?_, i + 1, q196, bad197, (zs ++ [⟨clN s (rdN s (rst q1 bd)) (rst q190 bad191)⟩]), ⟨r.W, r.H, ⟨r.Main.W, r.Main.H, SlD.of ho212⟩, ⟨r.Alt.W, r.Alt.H, SlD.of ho213⟩, r.OnAlt, r.X, r.Y, r.Wrap, ⟨r.A.Fg, r.A.Bg, r.A.Bold, r.A.Under, r.A.Turn⟩, r.Top, r.Bot, r.NoWrap, r.Hide, r.SaveX, r.SaveY, ⟨r.SaveA.Fg, r.SaveA.Bg, r.SaveA.Bold, r.SaveA.Under, r.SaveA.Turn⟩, SlD.of ho214, r.Limit, SlD.ofN ho235⟩, L239, rfl, rfl, ?_, ?_, ?_, ?_, ?_, (by exact ho240), ⟨rfl, trivial⟩⟩
  · omega
  · omega
  · omega
  · simp only [List.length_append, List.length_singleton]; omega
  · rw [p3, hbd, rowsV_step (by omega), ← hbd, ← hst192, ← hst198, List.append_assoc]; rfl
  · have f_W : r.dat.W = (termS s).S.W := by have h9 := congrArg ScrD.W p4; exact h9
    have f_H : r.dat.H = (termS s).S.H := by have h9 := congrArg ScrD.H p4; exact h9
    have f_Main : r.dat.Main = (termS s).S.Main := by have h9 := congrArg ScrD.Main p4; exact h9
    have f_Alt : r.dat.Alt = (termS s).S.Alt := by have h9 := congrArg ScrD.Alt p4; exact h9
    have f_OnAlt : r.dat.OnAlt = (termS s).S.OnAlt := by have h9 := congrArg ScrD.OnAlt p4; exact h9
    have f_X : r.dat.X = (termS s).S.X := by have h9 := congrArg ScrD.X p4; exact h9
    have f_Y : r.dat.Y = (termS s).S.Y := by have h9 := congrArg ScrD.Y p4; exact h9
    have f_Wrap : r.dat.Wrap = (termS s).S.Wrap := by have h9 := congrArg ScrD.Wrap p4; exact h9
    have f_A : r.dat.A = (termS s).S.A := by have h9 := congrArg ScrD.A p4; exact h9
    have f_Top : r.dat.Top = (termS s).S.Top := by have h9 := congrArg ScrD.Top p4; exact h9
    have f_Bot : r.dat.Bot = (termS s).S.Bot := by have h9 := congrArg ScrD.Bot p4; exact h9
    have f_NoWrap : r.dat.NoWrap = (termS s).S.NoWrap := by have h9 := congrArg ScrD.NoWrap p4; exact h9
    have f_Hide : r.dat.Hide = (termS s).S.Hide := by have h9 := congrArg ScrD.Hide p4; exact h9
    have f_SaveX : r.dat.SaveX = (termS s).S.SaveX := by have h9 := congrArg ScrD.SaveX p4; exact h9
    have f_SaveY : r.dat.SaveY = (termS s).S.SaveY := by have h9 := congrArg ScrD.SaveY p4; exact h9
    have f_SaveA : r.dat.SaveA = (termS s).S.SaveA := by have h9 := congrArg ScrD.SaveA p4; exact h9
    have f_Tabs : r.dat.Tabs = (termS s).S.Tabs := by have h9 := congrArg ScrD.Tabs p4; exact h9
    have f_Limit : r.dat.Limit = (termS s).S.Limit := by have h9 := congrArg ScrD.Limit p4; exact h9
    have f_Back : (r.Back.xs ++ [(⟨SlD.of ho204⟩ : RowR)]).map RowR.dat = zs ++ [(⟨clN s (rdN s (rst q1 bd)) (rst q190 bad191)⟩ : RowD)] := by rw [List.map_append, show r.Back.xs.map RowR.dat = zs by have h9 := congrArg ScrD.Back p4; exact h9]; rfl
    exact ScrD.ext' f_W f_H f_Main f_Alt f_OnAlt f_X f_Y f_Wrap f_A f_Top f_Bot f_NoWrap f_Hide f_SaveX f_SaveY f_SaveA f_Tabs f_Limit f_Back
 have hst2 : (rdN s (eS s)).toNat ≤ i ∨ bd = true := by
   have h9 := h186; cases bd with
   | true => exact .inr rfl
   | false => simp at h9; left; omega
 have hrS : rS s = (zs, rst q1 bd) := by rw [p3, rowsV_stop hst2]; simp
 have hss : r.dat = (termS s).S := by rw [p4]; show _ = ({ (termS s).S with Back := (rS s).1 } : ScrD); rw [hrS]
 have hrr : (rst q1 bd).isSome = (rS s).2.isSome := by rw [hrS]
 have hsm0 := termS_sm hok
 have hvr : (⟨v.dat, r.dat⟩ : TermD) = termS s := TermD.ext' hvv hss
 have hsmX : smTerm 1048576 (⟨v.dat, r.dat⟩ : TermD) := by rw [hvr]; exact hsm0
 have hsmXB : smTerm 549755813888 (⟨v.dat, r.dat⟩ : TermD) := smTerm_mono hsmX (by decide)
 have hsmv : smVp 549755813888 v.dat := hsmXB.1
 have hsmr : smScr 549755813888 r.dat := hsmXB.2
 have hkk := readOkS_is hok hrr
 rw [← hvr] at hkk
 have hol := termOut_len (⟨v.dat, r.dat⟩ : TermD)
 refine WC.exit (hK172 _ _ (WC.sr (WL.r 2 hs184 [2, 0] rfl ?_)))
 refine WL.val rfl rfl rfl (Run.build rfl rfl rfl rfl (built_35_0_1 _ _ _ _ _ _ _ _ _ _ _ _ _ _ _ _ _ _ _ _ _ _ _ _ _ _ _ _ _ _ _ _ _ _ _)) (WL.al hs184 Tryz.zeroValue35 rfl rfl (fun b243 _ hs244 => WL.st tbk hs244 0 rfl rfl (fun _ hs245 => WL.nil (WC.sr (WL.r 1 hs245 [0] rfl ?_)))))
 have hk247 := (ownVpR.ok (B := 549755813888) ho112 (hs245.ow L111) hsmv)
 have hk248 := (ownScrR.ok (B := 549755813888) ho181 (hs245.ow L180) hsmr)
 have hk249 := (ownVpR.ok (B := 549755813888) ho112 (hs245.ow L111) hsmv)
 have hk250 := (ownScrR.ok (B := 549755813888) ho181 (hs245.ow L180) hsmr)
 refine WL.cl Tryz.call54 rfl (k93_ (⟨⟨v.State, v.Mark, v.Args, v.Part⟩, ⟨r.W, r.H, ⟨r.Main.W, r.Main.H, r.Main.Cells⟩, ⟨r.Alt.W, r.Alt.H, r.Alt.Cells⟩, r.OnAlt, r.X, r.Y, r.Wrap, ⟨r.A.Fg, r.A.Bg, r.A.Bold, r.A.Under, r.A.Turn⟩, r.Top, r.Bot, r.NoWrap, r.Hide, r.SaveX, r.SaveY, ⟨r.SaveA.Fg, r.SaveA.Bg, r.SaveA.Bold, r.SaveA.Under, r.SaveA.Turn⟩, r.Tabs, r.Limit, r.Back⟩⟩ : TermR) _ ⟨⟨hk247.Args, hk247.Args_c, hk247.Args_n, hk247.Part, hk247.Part_c, hk247.Part_n⟩, ⟨⟨hk248.Main.Cells, hk248.Main.Cells_c, hk248.Main.Cells_n⟩, ⟨hk248.Alt.Cells, hk248.Alt.Cells_c, hk248.Alt.Cells_n⟩, hk248.Tabs, hk248.Tabs_c, hk248.Tabs_n, hk248.Back, hk248.Back_c, hk248.Back_n⟩⟩ ?_) ?_
 · first | assumption | rfl | omega | exact hsmX
 rintro _ whs246 ⟨A251, c252, L1_253, rfl, hs246, ho254⟩
 replace hs246 := hs245.callF hs246
 refine ⟨_, rfl, ?_⟩
 replace hs246 := St.back [_, _, _, _, _, _, _] hs246
 refine WL.r 5 hs246 [] rfl (WL.nil (WC.seq (fun K255 hK255 => WC.sr (WL.r 5 hs246 [2] rfl (WL.pO tbk 2 Acts.nil hs246 [] rfl rfl rfl rfl (fun g_ => trivial) (WL.r 1 hs246 [] rfl ?_))))))
 apply WL.gO 5 Acts.nil hs246 rfl
 ·intro g256 J257
  have qg256 := g256
  try simp only [bf, within_iff, within_not] at qg256
  refine WL.runA tbk 1 (Acts.nil.cons (j := 8) rfl g256) hs246 [] rfl trivial (WL.val (wantF rfl g256) rfl rfl (Run.strOf (SlF.ofOwn ho254 (hs246.ow L1_253)) Tryz.underlying22 Tryz.underlying5 Tryz.underlying9 rfl rfl) (WL.runA tbk 1 (Acts.nil.cons (j := 8) rfl g256) hs246 [] rfl trivial (WL.val (wantF rfl g256) rfl rfl (Run.strOf (SlF.st0 f_s hs246) Tryz.underlying22 Tryz.underlying5 Tryz.underlying9 rfl rfl) (WL.runA tbk 1 (Acts.nil.cons (j := 8) rfl g256) hs246 [] rfl trivial (WL.eO 5 Acts.nil J257 hs246 g256 rfl rfl)))))
 intro _ hs258
 refine WL.nil (WC.cq rfl (fun h259 qh259 => ?_) (fun h259 qh259 => ?_))
 ·have hg : readOkI s = false := hkk.trans (congrArg (!·) h259)
  refine WC.sr ?_
  refine WL.val rfl rfl rfl (Run.build rfl rfl rfl rfl (built_35)) (WL.st tbk hs258 6 rfl rfl (fun _ hs260 => WL.r 1 hs260 [] rfl (WL.nil (WC.ret (tkR ?_)))))
  clear hK255
  refine retV2 rfl (resV.cellA tbk hs260 6 rfl rfl rfl rfl) (resV.tmp rfl) ?_
  rw [hg]
  obtain ⟨L268, hs267, ho269⟩ := ownTermR.fl hs260 (OwnF.nil _ _) (OwnF.nil _ _) (OwnF.nil _ _) (OwnF.nil _ _) (OwnF.nil _ _) (OwnN.nil _ _ _)
  have hs270 := (((((((hs267.fb b2).fb b88).fb b92).fb b100).fb b4).fb b97).fb b243)
  refine ⟨⟨⟨0, false, ⟨none, 0, 0, []⟩, ⟨none, 0, 0, []⟩⟩, ⟨0, 0, ⟨0, 0, ⟨none, 0, 0, []⟩⟩, ⟨0, 0, ⟨none, 0, 0, []⟩⟩, false, 0, 0, false, ⟨0, 0, false, false, false⟩, 0, 0, false, false, 0, 0, ⟨0, 0, false, false, false⟩, ⟨none, 0, 0, []⟩, 0, ⟨none, 0, 0, []⟩⟩⟩, _, rfl, (St.keep1 (hs270.fr L268)), ?_, ?_⟩
  · exact (by exact ho269)
  · unfold readRes; rw [hg]; rfl
 have hg : readOkI s = true := hkk.trans (congrArg (!·) h259)
 refine WC.skip (hK255 _ _ (WC.sr (WL.r 1 hs258 [0] rfl (WL.st tbk hs258 6 rfl rfl (fun _ hs271 => WL.r 1 hs271 [] rfl (WL.nil (WC.ret ?_)))))))
 refine retV2 rfl (resV.cellA tbk hs271 6 rfl rfl rfl rfl) (resV.tmp rfl) ?_
 rw [hg]
 obtain ⟨L272, L273, hs276, ho274, ho275⟩ := ownVpR.op hs271 ho112
 have hs277 := (((((((hs276.fb b2).fb b88).fb b92).fb b100).fb b4).fb b97).fb b243)
 obtain ⟨L278, L279, L280, L281, hs286, ho282, ho283, ho284, ho285⟩ := ownScrR.op hs277 ho181
 have hs287 := (((((((hs286.fb b2).fb b88).fb b92).fb b100).fb b4).fb b97).fb b243)
 obtain ⟨L289, hs288, ho290⟩ := ownTermR.fl hs287 ho274 ho275 ho282 ho283 ho284 ho285
 have hs291 := (((((((hs288.fb b2).fb b88).fb b92).fb b100).fb b4).fb b97).fb b243)
 refine ⟨⟨⟨v.State, v.Mark, SlD.of ho274, SlD.of ho275⟩, ⟨r.W, r.H, ⟨r.Main.W, r.Main.H, SlD.of ho282⟩, ⟨r.Alt.W, r.Alt.H, SlD.of ho283⟩, r.OnAlt, r.X, r.Y, r.Wrap, ⟨r.A.Fg, r.A.Bg, r.A.Bold, r.A.Under, r.A.Turn⟩, r.Top, r.Bot, r.NoWrap, r.Hide, r.SaveX, r.SaveY, ⟨r.SaveA.Fg, r.SaveA.Bg, r.SaveA.Bold, r.SaveA.Under, r.SaveA.Turn⟩, SlD.of ho284, r.Limit, SlD.ofN ho285⟩⟩, _, rfl, (St.keep1 (hs291.fr L289)), ?_, ?_⟩
 · exact (by exact ho290)
 · rw [readRes_S hg]; exact TermD.ext' hvv hss
set_option maxHeartbeats 4000000 in
theorem k95_ (a : ScrR) (b : ScrR) (w : World) (f_a : okScrR 549755813888 w a) (f_b : okScrR 549755813888 w b) (hab : a.dat = b.dat) :
    Calls Tryz.prog 23 #[.agg (cScr a).toArray, .agg (cScr b).toArray] w fun e w' => e = .returned (.bool true) ∧ St w [] [] w' := by
 have nb_a_Main_Cells := f_a.Main.Cells_n
 have nl_a_Main_Cells := f_a.Main.Cells.len
 have nb_a_Alt_Cells := f_a.Alt.Cells_n
 have nl_a_Alt_Cells := f_a.Alt.Cells.len
 have nb_a_Tabs := f_a.Tabs_n
 have nl_a_Tabs := f_a.Tabs.len
 have nb_a_Back := f_a.Back_n
 have nl_a_Back := f_a.Back.sl.len
 have nb_b_Main_Cells := f_b.Main.Cells_n
 have nl_b_Main_Cells := f_b.Main.Cells.len
 have nb_b_Alt_Cells := f_b.Alt.Cells_n
 have nl_b_Alt_Cells := f_b.Alt.Cells.len
 have nb_b_Tabs := f_b.Tabs_n
 have nl_b_Tabs := f_b.Tabs.len
 have nb_b_Back := f_b.Back_n
 have nl_b_Back := f_b.Back.sl.len
 have e_W : a.W = b.W := congrArg (fun d : ScrD => d.W) hab
 have e_H : a.H = b.H := congrArg (fun d : ScrD => d.H) hab
 have e_Main : a.Main.dat = b.Main.dat := congrArg (fun d : ScrD => d.Main) hab
 have e_Main_W : a.Main.W = b.Main.W := congrArg (fun d : ScrD => d.Main.W) hab
 have e_Main_H : a.Main.H = b.Main.H := congrArg (fun d : ScrD => d.Main.H) hab
 have e_Main_Cells : a.Main.Cells.xs = b.Main.Cells.xs := congrArg (fun d : ScrD => d.Main.Cells) hab
 have e_Alt : a.Alt.dat = b.Alt.dat := congrArg (fun d : ScrD => d.Alt) hab
 have e_Alt_W : a.Alt.W = b.Alt.W := congrArg (fun d : ScrD => d.Alt.W) hab
 have e_Alt_H : a.Alt.H = b.Alt.H := congrArg (fun d : ScrD => d.Alt.H) hab
 have e_Alt_Cells : a.Alt.Cells.xs = b.Alt.Cells.xs := congrArg (fun d : ScrD => d.Alt.Cells) hab
 have e_OnAlt : a.OnAlt = b.OnAlt := congrArg (fun d : ScrD => d.OnAlt) hab
 have e_X : a.X = b.X := congrArg (fun d : ScrD => d.X) hab
 have e_Y : a.Y = b.Y := congrArg (fun d : ScrD => d.Y) hab
 have e_Wrap : a.Wrap = b.Wrap := congrArg (fun d : ScrD => d.Wrap) hab
 have e_A : a.A = b.A := congrArg (fun d : ScrD => d.A) hab
 have e_A_Fg : a.A.Fg = b.A.Fg := congrArg (fun d : ScrD => d.A.Fg) hab
 have e_A_Bg : a.A.Bg = b.A.Bg := congrArg (fun d : ScrD => d.A.Bg) hab
 have e_A_Bold : a.A.Bold = b.A.Bold := congrArg (fun d : ScrD => d.A.Bold) hab
 have e_A_Under : a.A.Under = b.A.Under := congrArg (fun d : ScrD => d.A.Under) hab
 have e_A_Turn : a.A.Turn = b.A.Turn := congrArg (fun d : ScrD => d.A.Turn) hab
 have e_Top : a.Top = b.Top := congrArg (fun d : ScrD => d.Top) hab
 have e_Bot : a.Bot = b.Bot := congrArg (fun d : ScrD => d.Bot) hab
 have e_NoWrap : a.NoWrap = b.NoWrap := congrArg (fun d : ScrD => d.NoWrap) hab
 have e_Hide : a.Hide = b.Hide := congrArg (fun d : ScrD => d.Hide) hab
 have e_SaveX : a.SaveX = b.SaveX := congrArg (fun d : ScrD => d.SaveX) hab
 have e_SaveY : a.SaveY = b.SaveY := congrArg (fun d : ScrD => d.SaveY) hab
 have e_SaveA : a.SaveA = b.SaveA := congrArg (fun d : ScrD => d.SaveA) hab
 have e_SaveA_Fg : a.SaveA.Fg = b.SaveA.Fg := congrArg (fun d : ScrD => d.SaveA.Fg) hab
 have e_SaveA_Bg : a.SaveA.Bg = b.SaveA.Bg := congrArg (fun d : ScrD => d.SaveA.Bg) hab
 have e_SaveA_Bold : a.SaveA.Bold = b.SaveA.Bold := congrArg (fun d : ScrD => d.SaveA.Bold) hab
 have e_SaveA_Under : a.SaveA.Under = b.SaveA.Under := congrArg (fun d : ScrD => d.SaveA.Under) hab
 have e_SaveA_Turn : a.SaveA.Turn = b.SaveA.Turn := congrArg (fun d : ScrD => d.SaveA.Turn) hab
 have e_Tabs : a.Tabs.xs = b.Tabs.xs := congrArg (fun d : ScrD => d.Tabs) hab
 have e_Limit : a.Limit = b.Limit := congrArg (fun d : ScrD => d.Limit) hab
 have e_Back : a.Back.xs.map RowR.dat = b.Back.xs.map RowR.dat := congrArg (fun d : ScrD => d.Back) hab
 refine enter 106 Tryz.func23 rfl Tryz.ntmps23 rfl rfl ?_
 have hs1 := St.init w
 refine WC.sr (WL.bx hs1 rfl (fun b2 _ hs3 => WL.bx hs3 rfl (fun b4 _ hs5 => WL.r 1 hs5 [] rfl (WL.nil (WC.seq (fun K6 hK6 => WC.r1 hs5 [1, 0] rfl (WC.condF rfl (by simp [e_W, e_H, e_Main_W, e_Main_H, e_Alt_W, e_Alt_H, e_OnAlt, e_X, e_Y, e_Wrap, e_A_Fg, e_A_Bg, e_A_Bold, e_A_Under, e_A_Turn, e_Top, e_Bot, e_NoWrap, e_Hide, e_SaveX, e_SaveY, e_SaveA_Fg, e_SaveA_Bg, e_SaveA_Bold, e_SaveA_Under, e_SaveA_Turn, e_Limit]) ?_)))))))
 refine WC.skip (hK6 _ _ (WC.seq (fun K8 hK8 => WC.r1 hs5 [1, 0] rfl (WC.condF rfl (by simp [e_W, e_H, e_Main_W, e_Main_H, e_Alt_W, e_Alt_H, e_OnAlt, e_X, e_Y, e_Wrap, e_A_Fg, e_A_Bg, e_A_Bold, e_A_Under, e_A_Turn, e_Top, e_Bot, e_NoWrap, e_Hide, e_SaveX, e_SaveY, e_SaveA_Fg, e_SaveA_Bg, e_SaveA_Bold, e_SaveA_Under, e_SaveA_Turn, e_Limit]) (WC.skip (hK8 _ _ (WC.seq (fun K10 hK10 => ?_))))))))
 refine WC.sr (WL.r 4 hs5 [1, 0] rfl (WL.cl Tryz.call77 rfl (k27_ a.Main b.Main _ (okGridR.st0 f_a.Main hs5) (okGridR.st0 f_b.Main hs5) ?_) ?_))
 · first | assumption | rfl | omega
 rintro _ whs11 ⟨rfl, hs11⟩
 replace hs11 := hs5.call0 hs11
 refine ⟨_, rfl, WL.r 1 hs11 [] rfl (WL.nil (WC.condF rfl (by simp [e_W, e_H, e_Main_W, e_Main_H, e_Alt_W, e_Alt_H, e_OnAlt, e_X, e_Y, e_Wrap, e_A_Fg, e_A_Bg, e_A_Bold, e_A_Under, e_A_Turn, e_Top, e_Bot, e_NoWrap, e_Hide, e_SaveX, e_SaveY, e_SaveA_Fg, e_SaveA_Bg, e_SaveA_Bold, e_SaveA_Under, e_SaveA_Turn, e_Limit]) (WC.skip (hK10 _ _ (WC.seq (fun K13 hK13 => WC.sr ?_))))))⟩
 refine WL.r 4 hs11 [1, 0] rfl (WL.cl Tryz.call77 rfl (k27_ a.Alt b.Alt _ (okGridR.st0 f_a.Alt hs11) (okGridR.st0 f_b.Alt hs11) ?_) ?_)
 · first | assumption | rfl | omega
 rintro _ whs14 ⟨rfl, hs14⟩
 replace hs14 := hs11.call0 hs14
 refine ⟨_, rfl, WL.r 1 hs14 [] rfl (WL.nil (WC.condF rfl (by simp [e_W, e_H, e_Main_W, e_Main_H, e_Alt_W, e_Alt_H, e_OnAlt, e_X, e_Y, e_Wrap, e_A_Fg, e_A_Bg, e_A_Bold, e_A_Under, e_A_Turn, e_Top, e_Bot, e_NoWrap, e_Hide, e_SaveX, e_SaveY, e_SaveA_Fg, e_SaveA_Bg, e_SaveA_Bold, e_SaveA_Under, e_SaveA_Turn, e_Limit]) (WC.skip (hK13 _ _ (WC.seq (fun K16 hK16 => WC.r1 hs14 [1, 0] rfl ?_))))))⟩
 refine WC.condF rfl (by simp [e_W, e_H, e_Main_W, e_Main_H, e_Alt_W, e_Alt_H, e_OnAlt, e_X, e_Y, e_Wrap, e_A_Fg, e_A_Bg, e_A_Bold, e_A_Under, e_A_Turn, e_Top, e_Bot, e_NoWrap, e_Hide, e_SaveX, e_SaveY, e_SaveA_Fg, e_SaveA_Bg, e_SaveA_Bold, e_SaveA_Under, e_SaveA_Turn, e_Limit]) (WC.skip (hK16 _ _ (WC.seq (fun K18 hK18 => WC.r1 hs14 [1, 0] rfl (WC.condF rfl (by simp [e_W, e_H, e_Main_W, e_Main_H, e_Alt_W, e_Alt_H, e_OnAlt, e_X, e_Y, e_Wrap, e_A_Fg, e_A_Bg, e_A_Bold, e_A_Under, e_A_Turn, e_Top, e_Bot, e_NoWrap, e_Hide, e_SaveX, e_SaveY, e_SaveA_Fg, e_SaveA_Bg, e_SaveA_Bold, e_SaveA_Under, e_SaveA_Turn, e_Limit]) ?_)))))
 refine WC.skip (hK18 _ _ (WC.seq (fun K20 hK20 => WC.r1 hs14 [1, 0] rfl (WC.condF rfl (by simp [e_W, e_H, e_Main_W, e_Main_H, e_Alt_W, e_Alt_H, e_OnAlt, e_X, e_Y, e_Wrap, e_A_Fg, e_A_Bg, e_A_Bold, e_A_Under, e_A_Turn, e_Top, e_Bot, e_NoWrap, e_Hide, e_SaveX, e_SaveY, e_SaveA_Fg, e_SaveA_Bg, e_SaveA_Bold, e_SaveA_Under, e_SaveA_Turn, e_Limit]) (WC.skip (hK20 _ _ (WC.seq (fun K22 hK22 => ?_))))))))
 refine WC.r1 hs14 [1, 0] rfl (WC.condF rfl (by simp [e_W, e_H, e_Main_W, e_Main_H, e_Alt_W, e_Alt_H, e_OnAlt, e_X, e_Y, e_Wrap, e_A_Fg, e_A_Bg, e_A_Bold, e_A_Under, e_A_Turn, e_Top, e_Bot, e_NoWrap, e_Hide, e_SaveX, e_SaveY, e_SaveA_Fg, e_SaveA_Bg, e_SaveA_Bold, e_SaveA_Under, e_SaveA_Turn, e_Limit]) (WC.skip (hK22 _ _ (WC.seq (fun K24 hK24 => WC.sr (WL.r 4 hs14 [1, 0] rfl ?_))))))
 refine WL.cl Tryz.call78 rfl (k4_ _ _ _ _ _ _ _ _ _ _ _ ?_) ?_
 · first | assumption | rfl | omega
 rintro _ whs25 ⟨rfl, hs25⟩
 replace hs25 := hs14.call0 hs25
 refine ⟨_, rfl, WL.r 1 hs25 [] rfl (WL.nil (WC.condF rfl (by simp [e_W, e_H, e_Main_W, e_Main_H, e_Alt_W, e_Alt_H, e_OnAlt, e_X, e_Y, e_Wrap, e_A_Fg, e_A_Bg, e_A_Bold, e_A_Under, e_A_Turn, e_Top, e_Bot, e_NoWrap, e_Hide, e_SaveX, e_SaveY, e_SaveA_Fg, e_SaveA_Bg, e_SaveA_Bold, e_SaveA_Under, e_SaveA_Turn, e_Limit]) (WC.skip (hK24 _ _ (WC.seq (fun K27 hK27 => WC.r1 hs25 [1, 0] rfl ?_))))))⟩
 refine WC.condF rfl (by simp [e_W, e_H, e_Main_W, e_Main_H, e_Alt_W, e_Alt_H, e_OnAlt, e_X, e_Y, e_Wrap, e_A_Fg, e_A_Bg, e_A_Bold, e_A_Under, e_A_Turn, e_Top, e_Bot, e_NoWrap, e_Hide, e_SaveX, e_SaveY, e_SaveA_Fg, e_SaveA_Bg, e_SaveA_Bold, e_SaveA_Under, e_SaveA_Turn, e_Limit]) (WC.skip (hK27 _ _ (WC.seq (fun K29 hK29 => WC.r1 hs25 [1, 0] rfl (WC.condF rfl (by simp [e_W, e_H, e_Main_W, e_Main_H, e_Alt_W, e_Alt_H, e_OnAlt, e_X, e_Y, e_Wrap, e_A_Fg, e_A_Bg, e_A_Bold, e_A_Under, e_A_Turn, e_Top, e_Bot, e_NoWrap, e_Hide, e_SaveX, e_SaveY, e_SaveA_Fg, e_SaveA_Bg, e_SaveA_Bold, e_SaveA_Under, e_SaveA_Turn, e_Limit]) ?_)))))
 refine WC.skip (hK29 _ _ (WC.seq (fun K31 hK31 => WC.r1 hs25 [1, 0] rfl (WC.condF rfl (by simp [e_W, e_H, e_Main_W, e_Main_H, e_Alt_W, e_Alt_H, e_OnAlt, e_X, e_Y, e_Wrap, e_A_Fg, e_A_Bg, e_A_Bold, e_A_Under, e_A_Turn, e_Top, e_Bot, e_NoWrap, e_Hide, e_SaveX, e_SaveY, e_SaveA_Fg, e_SaveA_Bg, e_SaveA_Bold, e_SaveA_Under, e_SaveA_Turn, e_Limit]) (WC.skip (hK31 _ _ (WC.seq (fun K33 hK33 => ?_))))))))
 refine WC.r1 hs25 [1, 0] rfl (WC.condF rfl (by simp [e_W, e_H, e_Main_W, e_Main_H, e_Alt_W, e_Alt_H, e_OnAlt, e_X, e_Y, e_Wrap, e_A_Fg, e_A_Bg, e_A_Bold, e_A_Under, e_A_Turn, e_Top, e_Bot, e_NoWrap, e_Hide, e_SaveX, e_SaveY, e_SaveA_Fg, e_SaveA_Bg, e_SaveA_Bold, e_SaveA_Under, e_SaveA_Turn, e_Limit]) (WC.skip (hK33 _ _ (WC.seq (fun K35 hK35 => WC.r1 hs25 [1, 0] rfl (WC.condF rfl (by simp [e_W, e_H, e_Main_W, e_Main_H, e_Alt_W, e_Alt_H, e_OnAlt, e_X, e_Y, e_Wrap, e_A_Fg, e_A_Bg, e_A_Bold, e_A_Under, e_A_Turn, e_Top, e_Bot, e_NoWrap, e_Hide, e_SaveX, e_SaveY, e_SaveA_Fg, e_SaveA_Bg, e_SaveA_Bold, e_SaveA_Under, e_SaveA_Turn, e_Limit]) ?_))))))
 refine WC.skip (hK35 _ _ (WC.seq (fun K37 hK37 => WC.r1 hs25 [1, 0] rfl (WC.condF rfl (by simp [e_W, e_H, e_Main_W, e_Main_H, e_Alt_W, e_Alt_H, e_OnAlt, e_X, e_Y, e_Wrap, e_A_Fg, e_A_Bg, e_A_Bold, e_A_Under, e_A_Turn, e_Top, e_Bot, e_NoWrap, e_Hide, e_SaveX, e_SaveY, e_SaveA_Fg, e_SaveA_Bg, e_SaveA_Bold, e_SaveA_Under, e_SaveA_Turn, e_Limit]) (WC.skip (hK37 _ _ (WC.seq (fun K39 hK39 => ?_))))))))
 refine WC.sr (WL.r 4 hs25 [1, 0] rfl (WL.cl Tryz.call78 rfl (k4_ _ _ _ _ _ _ _ _ _ _ _ ?_) ?_))
 · first | assumption | rfl | omega
 rintro _ whs40 ⟨rfl, hs40⟩
 replace hs40 := hs25.call0 hs40
 refine ⟨_, rfl, WL.r 1 hs40 [] rfl (WL.nil (WC.condF rfl (by simp [e_W, e_H, e_Main_W, e_Main_H, e_Alt_W, e_Alt_H, e_OnAlt, e_X, e_Y, e_Wrap, e_A_Fg, e_A_Bg, e_A_Bold, e_A_Under, e_A_Turn, e_Top, e_Bot, e_NoWrap, e_Hide, e_SaveX, e_SaveY, e_SaveA_Fg, e_SaveA_Bg, e_SaveA_Bold, e_SaveA_Under, e_SaveA_Turn, e_Limit]) (WC.skip (hK39 _ _ (WC.seq (fun K42 hK42 => WC.sr ?_))))))⟩
 refine WL.r 4 hs40 [1, 0] rfl (WL.cl Tryz.call33 rfl (k7_ _ _ _ _ _ _ _ _ _ (SlF.st0 f_a.Tabs hs40) (SlF.st0 f_b.Tabs hs40) ?_ ?_) ?_)
 iterate 2 first | assumption | rfl | omega
 rintro _ whs43 ⟨rfl, hs43⟩
 replace hs43 := hs40.call0 hs43
 refine ⟨_, rfl, WL.r 1 hs43 [] rfl (WL.nil (WC.condF rfl (by simp [e_W, e_H, e_Main_W, e_Main_H, e_Alt_W, e_Alt_H, e_OnAlt, e_X, e_Y, e_Wrap, e_A_Fg, e_A_Bg, e_A_Bold, e_A_Under, e_A_Turn, e_Top, e_Bot, e_NoWrap, e_Hide, e_SaveX, e_SaveY, e_SaveA_Fg, e_SaveA_Bg, e_SaveA_Bold, e_SaveA_Under, e_SaveA_Turn, e_Limit]) (WC.skip (hK42 _ _ (WC.seq (fun K45 hK45 => WC.r1 hs43 [1, 0] rfl ?_))))))⟩
 refine WC.condF rfl (by simp [e_W, e_H, e_Main_W, e_Main_H, e_Alt_W, e_Alt_H, e_OnAlt, e_X, e_Y, e_Wrap, e_A_Fg, e_A_Bg, e_A_Bold, e_A_Under, e_A_Turn, e_Top, e_Bot, e_NoWrap, e_Hide, e_SaveX, e_SaveY, e_SaveA_Fg, e_SaveA_Bg, e_SaveA_Bold, e_SaveA_Under, e_SaveA_Turn, e_Limit]) (WC.skip (hK45 _ _ (WC.seq (fun K47 hK47 => WC.sr (WL.r 4 hs43 [1, 0] rfl ?_)))))
 refine WL.cl Tryz.call79 rfl (k30_ _ _ _ _ _ _ _ _ _ (SlN.st0 okRowR.st0 f_a.Back hs43) (SlN.st0 okRowR.st0 f_b.Back hs43) ?_ ?_) ?_
 iterate 2 first | assumption | rfl | omega
 rintro _ whs48 ⟨rfl, hs48⟩
 replace hs48 := hs43.call0 hs48
 refine ⟨_, rfl, WL.r 1 hs48 [] rfl (WL.nil (WC.condF rfl (by simp [e_W, e_H, e_Main_W, e_Main_H, e_Alt_W, e_Alt_H, e_OnAlt, e_X, e_Y, e_Wrap, e_A_Fg, e_A_Bg, e_A_Bold, e_A_Under, e_A_Turn, e_Top, e_Bot, e_NoWrap, e_Hide, e_SaveX, e_SaveY, e_SaveA_Fg, e_SaveA_Bg, e_SaveA_Bold, e_SaveA_Under, e_SaveA_Turn, e_Limit]) (WC.skip (hK47 _ _ (WC.r1 hs48 [] rfl (WC.ret ?_))))))⟩
 refine rtv rfl rfl hs48 ?_
 rfl
set_option maxHeartbeats 4000000 in
theorem k96_ (a : ScrR) (L_a : Hp) (k : Int) (w : World) (o_a : ownScrR a L_a) (h_a : Hh w L_a) (hd_ : ((L_a).map (·.1)).Nodup) (h1 : 0 ≤ k) (h2 : endScr k a ≤ 549755813888) (hb_Back : a.Back.xs.length ≤ 549755813888) :
    Calls Tryz.prog 24 #[.agg (cScr a).toArray, i64 k] w fun e w' => ∃ L1, e = .returned (.int .i64 (endScr k a)) ∧ St w (L_a.map (·.1)) L1 w' ∧ ownScrR (markScr k a) L1 := by
 have hq2 := h2
 simp only [endGrid, endScr] at hq2
 have hcn_Back := cnts_nonneg (c := cntERow) (fun x => by simp only [cntERow]; omega) a.Back.xs
 refine enter 22 Tryz.func24 rfl Tryz.ntmps24 rfl rfl ?_
 have hs1 := St.takes1 w L_a h_a hd_
 refine WC.sr (WL.bx hs1 rfl (fun b2 _ hs3 => WL.r 1 hs3 [] rfl (WL.nil (WC.sr (WL.r 3 hs3 [0] rfl ?_)))))
 obtain ⟨L4, L5, L6, L7, hs12, ho8, ho9, ho10, ho11⟩ := ownScrR.op hs3 o_a
 have hs13 := (hs12.fb b2)
 refine WL.cl Tryz.call80 rfl (k33_ ⟨a.Main.W, a.Main.H, SlD.of ho8⟩ _ _ _ ho8 (hs13.ow L4) (St.nodupL (hs13.fr L4)) ?_ ?_) ?_
 · first | assumption | omega | (simp only [endGrid, endScr]; omega)
 · first | assumption | omega | (simp only [endGrid]; omega) | (simp only [endGrid, endScr]; omega)
 rintro _ whs14 ⟨L1_15, rfl, hs14, ho16⟩
 replace hs14 := St.lend (hs13.fr L4) hs14
 refine ⟨_, rfl, ?_⟩
 replace hs14 := St.back [_] hs14
 refine WL.r 1 hs14 [] rfl (WL.nil (WC.sr (WL.r 3 hs14 [0] rfl (WL.cl Tryz.call80 rfl (k33_ ⟨a.Alt.W, a.Alt.H, SlD.of ho9⟩ _ _ _ ho9 (hs14.ow L5) (St.nodupL (hs14.fr L5)) ?_ ?_) ?_))))
 · first | assumption | omega | (simp only [endGrid, endScr]; omega)
 · first | assumption | omega | (simp only [endGrid]; omega) | (simp only [endGrid, endScr]; omega)
 rintro _ whs17 ⟨L1_18, rfl, hs17, ho19⟩
 replace hs17 := St.lend (hs14.fr L5) hs17
 refine ⟨_, rfl, ?_⟩
 replace hs17 := St.back [_] hs17
 refine WL.r 1 hs17 [] rfl (WL.nil (WC.sr (WL.r 3 hs17 [0] rfl (WL.cl Tryz.call34 rfl (k12_ _ _ _ _ _ ho10 (hs17.ow L6) ?_ ?_ ?_) ?_))))
 iterate 3 first | assumption | rfl | omega | (simp only [endGrid, endScr]; omega)
 rintro _ whs20 ⟨L1_21, rfl, hs20, ho22⟩
 replace hs20 := St.lend (hs17.fr L6) hs20
 refine ⟨_, rfl, ?_⟩
 replace hs20 := St.back [_] hs20
 refine WL.r 1 hs20 [] rfl (WL.nil (WC.sr (WL.r 3 hs20 [0] rfl (WL.cl Tryz.call81 rfl (k31_ _ _ _ _ _ ho11 (hs20.ow L7) (St.nodupL (hs20.fr L7)) ?_ ?_ ?_) ?_))))
 iterate 3 first | assumption | omega | (simp only [endGrid, endScr]; omega)
 rintro _ whs23 ⟨L1_24, rfl, hs23, ho25⟩
 replace hs23 := St.lend (hs20.fr L7) hs23
 refine ⟨_, rfl, ?_⟩
 replace hs23 := St.back [_] hs23
 refine WL.r 1 hs23 [] rfl (WL.nil (WC.r1 hs23 [] rfl (WC.ret (retV1 rfl (resV.tmp rfl) ?_))))
 obtain ⟨L27, hs26, ho28⟩ := ownScrR.fl hs23 ho16 ho19 ho22 ho25
 have hs29 := (hs26.fb b2)
 refine ⟨_, congrArg Ending.returned ?_, (St.keep1 (hs29.fr L27)), (by exact ho28)⟩
 first | rfl | (simp [endScr]; done) | (simp [endScr]; omega)
set_option maxHeartbeats 4000000 in
theorem k97_ (a : ScrR) (k : Int) (w : World) (f_a : okScrR 549755813888 w (markScr k a)) (h1 : 0 ≤ k) (h2 : endScr k a ≤ 549755813888) :
    Calls Tryz.prog 25 #[.agg (cScr a).toArray, i64 k] w fun e w' => e = .returned (.int .i64 (endScr k a)) ∧ St w [] [] w' := by
 have fm_Main : okGridR 549755813888 w (markGrid k a.Main) := f_a.Main
 have fm_Alt : okGridR 549755813888 w (markGrid (endGrid k a.Main) a.Alt) := f_a.Alt
 have nb_Main_Cells : a.Main.Cells.n ≤ 549755813888 := f_a.Main.Cells_n
 have nl_Main_Cells : a.Main.Cells.xs.length = a.Main.Cells.n := by have h_ := f_a.Main.Cells.len; simpa [markGrid, markScr, marks_len, mrks_len] using h_
 have nb_Alt_Cells : a.Alt.Cells.n ≤ 549755813888 := f_a.Alt.Cells_n
 have nl_Alt_Cells : a.Alt.Cells.xs.length = a.Alt.Cells.n := by have h_ := f_a.Alt.Cells.len; simpa [markGrid, markScr, marks_len, mrks_len] using h_
 have nb_Tabs : a.Tabs.n ≤ 549755813888 := f_a.Tabs_n
 have nl_Tabs : a.Tabs.xs.length = a.Tabs.n := by have h_ := f_a.Tabs.len; simpa [markGrid, markScr, marks_len, mrks_len] using h_
 have nb_Back : a.Back.n ≤ 549755813888 := f_a.Back_n
 have nl_Back : a.Back.xs.length = a.Back.n := by have h_ := f_a.Back.sl.len; simpa [markGrid, markScr, marks_len, mrks_len] using h_
 have fm_Main : okGridR 549755813888 w (markGrid k a.Main) := f_a.Main
 have fm_Alt : okGridR 549755813888 w (markGrid (endGrid k a.Main) a.Alt) := f_a.Alt
 have nb_Main_Cells : a.Main.Cells.n ≤ 549755813888 := f_a.Main.Cells_n
 have nl_Main_Cells : a.Main.Cells.xs.length = a.Main.Cells.n := by have h_ := f_a.Main.Cells.len; simpa [markGrid, markScr, marks_len, mrks_len] using h_
 have nb_Alt_Cells : a.Alt.Cells.n ≤ 549755813888 := f_a.Alt.Cells_n
 have nl_Alt_Cells : a.Alt.Cells.xs.length = a.Alt.Cells.n := by have h_ := f_a.Alt.Cells.len; simpa [markGrid, markScr, marks_len, mrks_len] using h_
 have nb_Tabs : a.Tabs.n ≤ 549755813888 := f_a.Tabs_n
 have nl_Tabs : a.Tabs.xs.length = a.Tabs.n := by have h_ := f_a.Tabs.len; simpa [markGrid, markScr, marks_len, mrks_len] using h_
 have nb_Back : a.Back.n ≤ 549755813888 := f_a.Back_n
 have nl_Back : a.Back.xs.length = a.Back.n := by have h_ := f_a.Back.sl.len; simpa [markGrid, markScr, marks_len, mrks_len] using h_
 have hq2 := h2
 simp only [endGrid, endScr] at hq2
 have hcn_Back := cnts_nonneg (c := cntERow) (fun x => by simp only [cntERow]; omega) a.Back.xs
 refine enter 30 Tryz.func25 rfl Tryz.ntmps25 rfl rfl ?_
 have hs1 := St.init w
 refine WC.sr (WL.bx hs1 rfl (fun b2 _ hs3 => WL.r 1 hs3 [] rfl (WL.nil (WC.sr (WL.r 3 hs3 [0] rfl ?_)))))
 refine WL.cl Tryz.call82 rfl (k34_ _ _ _ (okGridR.st0 fm_Main hs3) ?_ ?_) ?_
 · first | assumption | omega | (simp only [endGrid, endScr]; omega)
 · first | assumption | omega | (simp only [endGrid]; omega) | (simp only [endGrid, endScr]; omega)
 rintro _ whs4 ⟨rfl, hs4⟩
 replace hs4 := hs3.call0 hs4
 refine ⟨_, rfl, WL.r 1 hs4 [] rfl (WL.nil (WC.seq (fun K5 hK5 => WC.r1 hs4 [] rfl ?_)))⟩
 refine WC.condF rfl (by first | (simp; omega) | (rw [decide_eq_false_iff_not]; simp only [endGrid, endScr]; omega)) (WC.skip (hK5 _ _ (WC.sr (WL.r 3 hs4 [0] rfl ?_))))
 refine WL.cl Tryz.call82 rfl (k34_ _ _ _ (okGridR.st0 fm_Alt hs4) ?_ ?_) ?_
 · first | assumption | omega | (simp only [endGrid, endScr]; omega)
 · first | assumption | omega | (simp only [endGrid]; omega) | (simp only [endGrid, endScr]; omega)
 rintro _ whs7 ⟨rfl, hs7⟩
 replace hs7 := hs4.call0 hs7
 refine ⟨_, rfl, WL.r 1 hs7 [] rfl (WL.nil (WC.seq (fun K8 hK8 => WC.r1 hs7 [] rfl ?_)))⟩
 refine WC.condF rfl (by first | (simp; omega) | (rw [decide_eq_false_iff_not]; simp only [endGrid, endScr]; omega)) (WC.skip (hK8 _ _ (WC.sr (WL.r 3 hs7 [0] rfl ?_))))
 refine WL.cl Tryz.call83 rfl (k13_ _ _ _ _ _ _ _ (SlF.st0 f_a.Tabs hs7) rfl ?_ ?_ ?_) ?_
 iterate 3 first | assumption | rfl | omega | (simp only [endGrid, endScr]; omega)
 rintro _ whs10 ⟨rfl, hs10⟩
 replace hs10 := hs7.call0 hs10
 refine ⟨_, rfl, WL.r 1 hs10 [] rfl (WL.nil (WC.seq (fun K11 hK11 => WC.r1 hs10 [] rfl ?_)))⟩
 refine WC.condF rfl (by first | (simp; omega) | (rw [decide_eq_false_iff_not]; simp only [endGrid, endScr]; omega)) (WC.skip (hK11 _ _ (WC.sr (WL.r 3 hs10 [0] rfl ?_))))
 refine WL.cl Tryz.call84 rfl (k32_ _ _ _ _ _ _ (SlN.st0 okRowR.st0 f_a.Back hs10) ?_ ?_ ?_) ?_
 iterate 3 first | assumption | omega | (simp only [endGrid, endScr]; omega)
 rintro _ whs13 ⟨rfl, hs13⟩
 replace hs13 := hs10.call0 hs13
 refine ⟨_, rfl, WL.r 1 hs13 [] rfl (WL.nil (WC.seq (fun K14 hK14 => WC.r1 hs13 [] rfl ?_)))⟩
 refine WC.condF rfl (by first | (simp; omega) | (rw [decide_eq_false_iff_not]; simp only [endGrid, endScr]; omega)) (WC.skip (hK14 _ _ (WC.r1 hs13 [] rfl (WC.ret (rtv rfl rfl hs13 ?_)))))
 first | rfl | (simp [endGrid, endScr, *]; done) | (simp [endGrid, endScr, *]; omega)
set_option maxHeartbeats 4000000 in
theorem k98_ (a : TermR) (b : TermR) (w : World) (f_a : okTermR 549755813888 w a) (f_b : okTermR 549755813888 w b) (hab : a.dat = b.dat) :
    Calls Tryz.prog 14 #[.agg #[i64 a.P.State, .bool a.P.Mark, .slice a.P.Args.A a.P.Args.n a.P.Args.c, .slice a.P.Part.A a.P.Part.n a.P.Part.c, i64 a.S.W, i64 a.S.H, i64 a.S.Main.W, i64 a.S.Main.H, .slice a.S.Main.Cells.A a.S.Main.Cells.n a.S.Main.Cells.c, i64 a.S.Alt.W, i64 a.S.Alt.H, .slice a.S.Alt.Cells.A a.S.Alt.Cells.n a.S.Alt.Cells.c, .bool a.S.OnAlt, i64 a.S.X, i64 a.S.Y, .bool a.S.Wrap, i64 a.S.A.Fg, i64 a.S.A.Bg, .bool a.S.A.Bold, .bool a.S.A.Under, .bool a.S.A.Turn, i64 a.S.Top, i64 a.S.Bot, .bool a.S.NoWrap, .bool a.S.Hide, i64 a.S.SaveX, i64 a.S.SaveY, i64 a.S.SaveA.Fg, i64 a.S.SaveA.Bg, .bool a.S.SaveA.Bold, .bool a.S.SaveA.Under, .bool a.S.SaveA.Turn, .slice a.S.Tabs.A a.S.Tabs.n a.S.Tabs.c, i64 a.S.Limit, .slice a.S.Back.A a.S.Back.n a.S.Back.c], .agg #[i64 b.P.State, .bool b.P.Mark, .slice b.P.Args.A b.P.Args.n b.P.Args.c, .slice b.P.Part.A b.P.Part.n b.P.Part.c, i64 b.S.W, i64 b.S.H, i64 b.S.Main.W, i64 b.S.Main.H, .slice b.S.Main.Cells.A b.S.Main.Cells.n b.S.Main.Cells.c, i64 b.S.Alt.W, i64 b.S.Alt.H, .slice b.S.Alt.Cells.A b.S.Alt.Cells.n b.S.Alt.Cells.c, .bool b.S.OnAlt, i64 b.S.X, i64 b.S.Y, .bool b.S.Wrap, i64 b.S.A.Fg, i64 b.S.A.Bg, .bool b.S.A.Bold, .bool b.S.A.Under, .bool b.S.A.Turn, i64 b.S.Top, i64 b.S.Bot, .bool b.S.NoWrap, .bool b.S.Hide, i64 b.S.SaveX, i64 b.S.SaveY, i64 b.S.SaveA.Fg, i64 b.S.SaveA.Bg, .bool b.S.SaveA.Bold, .bool b.S.SaveA.Under, .bool b.S.SaveA.Turn, .slice b.S.Tabs.A b.S.Tabs.n b.S.Tabs.c, i64 b.S.Limit, .slice b.S.Back.A b.S.Back.n b.S.Back.c]] w fun e w' => e = .returned (.bool true) ∧ St w [] [] w' := by
 have nb_a_P_Args := f_a.P.Args_n
 have nl_a_P_Args := f_a.P.Args.len
 have nb_a_P_Part := f_a.P.Part_n
 have nl_a_P_Part := f_a.P.Part.len
 have nb_a_S_Main_Cells := f_a.S.Main.Cells_n
 have nl_a_S_Main_Cells := f_a.S.Main.Cells.len
 have nb_a_S_Alt_Cells := f_a.S.Alt.Cells_n
 have nl_a_S_Alt_Cells := f_a.S.Alt.Cells.len
 have nb_a_S_Tabs := f_a.S.Tabs_n
 have nl_a_S_Tabs := f_a.S.Tabs.len
 have nb_a_S_Back := f_a.S.Back_n
 have nl_a_S_Back := f_a.S.Back.sl.len
 have nb_b_P_Args := f_b.P.Args_n
 have nl_b_P_Args := f_b.P.Args.len
 have nb_b_P_Part := f_b.P.Part_n
 have nl_b_P_Part := f_b.P.Part.len
 have nb_b_S_Main_Cells := f_b.S.Main.Cells_n
 have nl_b_S_Main_Cells := f_b.S.Main.Cells.len
 have nb_b_S_Alt_Cells := f_b.S.Alt.Cells_n
 have nl_b_S_Alt_Cells := f_b.S.Alt.Cells.len
 have nb_b_S_Tabs := f_b.S.Tabs_n
 have nl_b_S_Tabs := f_b.S.Tabs.len
 have nb_b_S_Back := f_b.S.Back_n
 have nl_b_S_Back := f_b.S.Back.sl.len
 have e_P : a.P.dat = b.P.dat := congrArg (fun d : TermD => d.P) hab
 have e_P_State : a.P.State = b.P.State := congrArg (fun d : TermD => d.P.State) hab
 have e_P_Mark : a.P.Mark = b.P.Mark := congrArg (fun d : TermD => d.P.Mark) hab
 have e_P_Args : a.P.Args.xs = b.P.Args.xs := congrArg (fun d : TermD => d.P.Args) hab
 have e_P_Part : a.P.Part.xs = b.P.Part.xs := congrArg (fun d : TermD => d.P.Part) hab
 have e_S : a.S.dat = b.S.dat := congrArg (fun d : TermD => d.S) hab
 have e_S_W : a.S.W = b.S.W := congrArg (fun d : TermD => d.S.W) hab
 have e_S_H : a.S.H = b.S.H := congrArg (fun d : TermD => d.S.H) hab
 have e_S_Main : a.S.Main.dat = b.S.Main.dat := congrArg (fun d : TermD => d.S.Main) hab
 have e_S_Main_W : a.S.Main.W = b.S.Main.W := congrArg (fun d : TermD => d.S.Main.W) hab
 have e_S_Main_H : a.S.Main.H = b.S.Main.H := congrArg (fun d : TermD => d.S.Main.H) hab
 have e_S_Main_Cells : a.S.Main.Cells.xs = b.S.Main.Cells.xs := congrArg (fun d : TermD => d.S.Main.Cells) hab
 have e_S_Alt : a.S.Alt.dat = b.S.Alt.dat := congrArg (fun d : TermD => d.S.Alt) hab
 have e_S_Alt_W : a.S.Alt.W = b.S.Alt.W := congrArg (fun d : TermD => d.S.Alt.W) hab
 have e_S_Alt_H : a.S.Alt.H = b.S.Alt.H := congrArg (fun d : TermD => d.S.Alt.H) hab
 have e_S_Alt_Cells : a.S.Alt.Cells.xs = b.S.Alt.Cells.xs := congrArg (fun d : TermD => d.S.Alt.Cells) hab
 have e_S_OnAlt : a.S.OnAlt = b.S.OnAlt := congrArg (fun d : TermD => d.S.OnAlt) hab
 have e_S_X : a.S.X = b.S.X := congrArg (fun d : TermD => d.S.X) hab
 have e_S_Y : a.S.Y = b.S.Y := congrArg (fun d : TermD => d.S.Y) hab
 have e_S_Wrap : a.S.Wrap = b.S.Wrap := congrArg (fun d : TermD => d.S.Wrap) hab
 have e_S_A : a.S.A = b.S.A := congrArg (fun d : TermD => d.S.A) hab
 have e_S_A_Fg : a.S.A.Fg = b.S.A.Fg := congrArg (fun d : TermD => d.S.A.Fg) hab
 have e_S_A_Bg : a.S.A.Bg = b.S.A.Bg := congrArg (fun d : TermD => d.S.A.Bg) hab
 have e_S_A_Bold : a.S.A.Bold = b.S.A.Bold := congrArg (fun d : TermD => d.S.A.Bold) hab
 have e_S_A_Under : a.S.A.Under = b.S.A.Under := congrArg (fun d : TermD => d.S.A.Under) hab
 have e_S_A_Turn : a.S.A.Turn = b.S.A.Turn := congrArg (fun d : TermD => d.S.A.Turn) hab
 have e_S_Top : a.S.Top = b.S.Top := congrArg (fun d : TermD => d.S.Top) hab
 have e_S_Bot : a.S.Bot = b.S.Bot := congrArg (fun d : TermD => d.S.Bot) hab
 have e_S_NoWrap : a.S.NoWrap = b.S.NoWrap := congrArg (fun d : TermD => d.S.NoWrap) hab
 have e_S_Hide : a.S.Hide = b.S.Hide := congrArg (fun d : TermD => d.S.Hide) hab
 have e_S_SaveX : a.S.SaveX = b.S.SaveX := congrArg (fun d : TermD => d.S.SaveX) hab
 have e_S_SaveY : a.S.SaveY = b.S.SaveY := congrArg (fun d : TermD => d.S.SaveY) hab
 have e_S_SaveA : a.S.SaveA = b.S.SaveA := congrArg (fun d : TermD => d.S.SaveA) hab
 have e_S_SaveA_Fg : a.S.SaveA.Fg = b.S.SaveA.Fg := congrArg (fun d : TermD => d.S.SaveA.Fg) hab
 have e_S_SaveA_Bg : a.S.SaveA.Bg = b.S.SaveA.Bg := congrArg (fun d : TermD => d.S.SaveA.Bg) hab
 have e_S_SaveA_Bold : a.S.SaveA.Bold = b.S.SaveA.Bold := congrArg (fun d : TermD => d.S.SaveA.Bold) hab
 have e_S_SaveA_Under : a.S.SaveA.Under = b.S.SaveA.Under := congrArg (fun d : TermD => d.S.SaveA.Under) hab
 have e_S_SaveA_Turn : a.S.SaveA.Turn = b.S.SaveA.Turn := congrArg (fun d : TermD => d.S.SaveA.Turn) hab
 have e_S_Tabs : a.S.Tabs.xs = b.S.Tabs.xs := congrArg (fun d : TermD => d.S.Tabs) hab
 have e_S_Limit : a.S.Limit = b.S.Limit := congrArg (fun d : TermD => d.S.Limit) hab
 have e_S_Back : a.S.Back.xs.map RowR.dat = b.S.Back.xs.map RowR.dat := congrArg (fun d : TermD => d.S.Back) hab
 refine enter 17 Tryz.func14 rfl Tryz.ntmps14 rfl rfl ?_
 have hs1 := St.init w
 refine WC.sr (WL.bx hs1 rfl (fun b2 _ hs3 => WL.bx hs3 rfl (fun b4 _ hs5 => WL.r 1 hs5 [] rfl (WL.nil (WC.seq (fun K6 hK6 => WC.sr (WL.r 4 hs5 [1, 0] rfl ?_)))))))
 refine WL.cl Tryz.call57 rfl (k28_ a.P b.P _ (okVpR.st0 f_a.P hs5) (okVpR.st0 f_b.P hs5) ?_) ?_
 · first | assumption | rfl | omega
 rintro _ whs7 ⟨rfl, hs7⟩
 replace hs7 := hs5.call0 hs7
 refine ⟨_, rfl, WL.r 1 hs7 [] rfl (WL.nil (WC.condF rfl (by simp [e_P_State, e_P_Mark, e_S_W, e_S_H, e_S_Main_W, e_S_Main_H, e_S_Alt_W, e_S_Alt_H, e_S_OnAlt, e_S_X, e_S_Y, e_S_Wrap, e_S_A_Fg, e_S_A_Bg, e_S_A_Bold, e_S_A_Under, e_S_A_Turn, e_S_Top, e_S_Bot, e_S_NoWrap, e_S_Hide, e_S_SaveX, e_S_SaveY, e_S_SaveA_Fg, e_S_SaveA_Bg, e_S_SaveA_Bold, e_S_SaveA_Under, e_S_SaveA_Turn, e_S_Limit]) (WC.skip (hK6 _ _ (WC.seq (fun K9 hK9 => WC.sr ?_))))))⟩
 refine WL.r 4 hs7 [1, 0] rfl (WL.cl Tryz.call23 rfl (k95_ a.S b.S _ (okScrR.st0 f_a.S hs7) (okScrR.st0 f_b.S hs7) ?_) ?_)
 · first | assumption | rfl | omega
 rintro _ whs10 ⟨rfl, hs10⟩
 replace hs10 := hs7.call0 hs10
 refine ⟨_, rfl, WL.r 1 hs10 [] rfl (WL.nil (WC.condF rfl (by simp [e_P_State, e_P_Mark, e_S_W, e_S_H, e_S_Main_W, e_S_Main_H, e_S_Alt_W, e_S_Alt_H, e_S_OnAlt, e_S_X, e_S_Y, e_S_Wrap, e_S_A_Fg, e_S_A_Bg, e_S_A_Bold, e_S_A_Under, e_S_A_Turn, e_S_Top, e_S_Bot, e_S_NoWrap, e_S_Hide, e_S_SaveX, e_S_SaveY, e_S_SaveA_Fg, e_S_SaveA_Bg, e_S_SaveA_Bold, e_S_SaveA_Under, e_S_SaveA_Turn, e_S_Limit]) (WC.skip (hK9 _ _ (WC.r1 hs10 [] rfl (WC.ret ?_))))))⟩
 refine rtv rfl rfl hs10 ?_
 rfl
set_option maxHeartbeats 4000000 in
theorem k99_ (a : TermR) (L_a : Hp) (k : Int) (w : World) (o_a : ownTermR a L_a) (h_a : Hh w L_a) (hd_ : ((L_a).map (·.1)).Nodup) (h1 : 0 ≤ k) (h2 : endTerm k a ≤ 549755813888) (hb_S_Back : a.S.Back.xs.length ≤ 549755813888) :
    Calls Tryz.prog 17 #[.agg #[i64 a.P.State, .bool a.P.Mark, .slice a.P.Args.A a.P.Args.n a.P.Args.c, .slice a.P.Part.A a.P.Part.n a.P.Part.c, i64 a.S.W, i64 a.S.H, i64 a.S.Main.W, i64 a.S.Main.H, .slice a.S.Main.Cells.A a.S.Main.Cells.n a.S.Main.Cells.c, i64 a.S.Alt.W, i64 a.S.Alt.H, .slice a.S.Alt.Cells.A a.S.Alt.Cells.n a.S.Alt.Cells.c, .bool a.S.OnAlt, i64 a.S.X, i64 a.S.Y, .bool a.S.Wrap, i64 a.S.A.Fg, i64 a.S.A.Bg, .bool a.S.A.Bold, .bool a.S.A.Under, .bool a.S.A.Turn, i64 a.S.Top, i64 a.S.Bot, .bool a.S.NoWrap, .bool a.S.Hide, i64 a.S.SaveX, i64 a.S.SaveY, i64 a.S.SaveA.Fg, i64 a.S.SaveA.Bg, .bool a.S.SaveA.Bold, .bool a.S.SaveA.Under, .bool a.S.SaveA.Turn, .slice a.S.Tabs.A a.S.Tabs.n a.S.Tabs.c, i64 a.S.Limit, .slice a.S.Back.A a.S.Back.n a.S.Back.c], i64 k] w fun e w' => ∃ L1, e = .returned (.int .i64 (endTerm k a)) ∧ St w (L_a.map (·.1)) L1 w' ∧ ownTermR (markTerm k a) L1 := by
 have hq2 := h2
 simp only [endGrid, endScr, endTerm, endVp] at hq2
 have hcn_S_Back := cnts_nonneg (c := cntERow) (fun x => by simp only [cntERow]; omega) a.S.Back.xs
 refine enter 14 Tryz.func17 rfl Tryz.ntmps17 rfl rfl ?_
 have hs1 := St.takes1 w L_a h_a hd_
 refine WC.sr (WL.bx hs1 rfl (fun b2 _ hs3 => WL.r 1 hs3 [] rfl (WL.nil (WC.sr (WL.r 3 hs3 [0] rfl ?_)))))
 obtain ⟨L4, L5, L6, L7, L8, L9, hs16, ho10, ho11, ho12, ho13, ho14, ho15⟩ := ownTermR.op hs3 o_a
 have hs17 := (hs16.fb b2)
 obtain ⟨L19, hs18, ho20⟩ := ownVpR.fl hs17 ho10 ho11
 have hs21 := (hs18.fb b2)
 refine WL.cl Tryz.call58 rfl (k35_ ⟨a.P.State, a.P.Mark, SlD.of ho10, SlD.of ho11⟩ _ _ _ (by exact ho20) (hs21.ow L19) (St.nodupL (hs21.fr L19)) ?_ ?_) ?_
 · first | assumption | omega | (simp only [endGrid, endScr, endTerm, endVp]; omega)
 · first | assumption | omega | (simp only [endVp]; omega) | (simp only [endGrid, endScr, endTerm, endVp]; omega)
 rintro _ whs22 ⟨L1_23, rfl, hs22, ho24⟩
 replace hs22 := St.lend (hs21.fr L19) hs22
 refine ⟨_, rfl, ?_⟩
 replace hs22 := St.back [_] hs22
 refine WL.r 1 hs22 [] rfl (WL.nil (WC.sr (WL.r 3 hs22 [0] rfl ?_)))
 obtain ⟨L26, hs25, ho27⟩ := ownScrR.fl hs22 ho12 ho13 ho14 ho15
 have hs28 := (hs25.fb b2)
 refine WL.cl Tryz.call24 rfl (k96_ ⟨a.S.W, a.S.H, ⟨a.S.Main.W, a.S.Main.H, SlD.of ho12⟩, ⟨a.S.Alt.W, a.S.Alt.H, SlD.of ho13⟩, a.S.OnAlt, a.S.X, a.S.Y, a.S.Wrap, ⟨a.S.A.Fg, a.S.A.Bg, a.S.A.Bold, a.S.A.Under, a.S.A.Turn⟩, a.S.Top, a.S.Bot, a.S.NoWrap, a.S.Hide, a.S.SaveX, a.S.SaveY, ⟨a.S.SaveA.Fg, a.S.SaveA.Bg, a.S.SaveA.Bold, a.S.SaveA.Under, a.S.SaveA.Turn⟩, SlD.of ho14, a.S.Limit, SlD.ofN ho15⟩ _ _ _ (by exact ho27) (hs28.ow L26) (St.nodupL (hs28.fr L26)) ?_ ?_ ?_) ?_
 · first | assumption | omega | (simp only [endGrid, endScr, endTerm, endVp]; omega)
 · first | assumption | omega | (simp only [endGrid, endScr]; omega) | (simp only [endGrid, endScr, endTerm, endVp]; omega)
 · first | assumption | omega | (simp only [endGrid, endScr, endTerm, endVp]; omega)
 rintro _ whs29 ⟨L1_30, rfl, hs29, ho31⟩
 replace hs29 := St.lend (hs28.fr L26) hs29
 refine ⟨_, rfl, ?_⟩
 replace hs29 := St.back [_] hs29
 refine WL.r 1 hs29 [] rfl (WL.nil (WC.r1 hs29 [] rfl (WC.ret (retV1 rfl (resV.tmp rfl) ?_))))
 obtain ⟨L32, L33, hs36, ho34, ho35⟩ := ownVpR.op hs29 ho24
 have hs37 := (hs36.fb b2)
 obtain ⟨L38, L39, L40, L41, hs46, ho42, ho43, ho44, ho45⟩ := ownScrR.op hs37 ho31
 have hs47 := (hs46.fb b2)
 obtain ⟨L49, hs48, ho50⟩ := ownTermR.fl hs47 ho34 ho35 ho42 ho43 ho44 ho45
 have hs51 := (hs48.fb b2)
 refine ⟨_, congrArg Ending.returned ?_, (St.keep1 (hs51.fr L49)), (by exact ho50)⟩
 first | rfl | (simp [endTerm]; done) | (simp [endTerm]; omega)
set_option maxHeartbeats 4000000 in
theorem k100_ (a : TermR) (k : Int) (w : World) (f_a : okTermR 549755813888 w (markTerm k a)) (h1 : 0 ≤ k) (h2 : endTerm k a ≤ 549755813888) :
    Calls Tryz.prog 18 #[.agg #[i64 a.P.State, .bool a.P.Mark, .slice a.P.Args.A a.P.Args.n a.P.Args.c, .slice a.P.Part.A a.P.Part.n a.P.Part.c, i64 a.S.W, i64 a.S.H, i64 a.S.Main.W, i64 a.S.Main.H, .slice a.S.Main.Cells.A a.S.Main.Cells.n a.S.Main.Cells.c, i64 a.S.Alt.W, i64 a.S.Alt.H, .slice a.S.Alt.Cells.A a.S.Alt.Cells.n a.S.Alt.Cells.c, .bool a.S.OnAlt, i64 a.S.X, i64 a.S.Y, .bool a.S.Wrap, i64 a.S.A.Fg, i64 a.S.A.Bg, .bool a.S.A.Bold, .bool a.S.A.Under, .bool a.S.A.Turn, i64 a.S.Top, i64 a.S.Bot, .bool a.S.NoWrap, .bool a.S.Hide, i64 a.S.SaveX, i64 a.S.SaveY, i64 a.S.SaveA.Fg, i64 a.S.SaveA.Bg, .bool a.S.SaveA.Bold, .bool a.S.SaveA.Under, .bool a.S.SaveA.Turn, .slice a.S.Tabs.A a.S.Tabs.n a.S.Tabs.c, i64 a.S.Limit, .slice a.S.Back.A a.S.Back.n a.S.Back.c], i64 k] w fun e w' => e = .returned (.int .i64 (endTerm k a)) ∧ St w [] [] w' := by
 have fm_P : okVpR 549755813888 w (markVp k a.P) := f_a.P
 have fm_S : okScrR 549755813888 w (markScr (endVp k a.P) a.S) := f_a.S
 have nb_P_Args : a.P.Args.n ≤ 549755813888 := f_a.P.Args_n
 have nl_P_Args : a.P.Args.xs.length = a.P.Args.n := by have h_ := f_a.P.Args.len; simpa [markGrid, markScr, markTerm, markVp, marks_len, mrks_len] using h_
 have nb_P_Part : a.P.Part.n ≤ 549755813888 := f_a.P.Part_n
 have nl_P_Part : a.P.Part.xs.length = a.P.Part.n := by have h_ := f_a.P.Part.len; simpa [markGrid, markScr, markTerm, markVp, marks_len, mrks_len] using h_
 have nb_S_Main_Cells : a.S.Main.Cells.n ≤ 549755813888 := f_a.S.Main.Cells_n
 have nl_S_Main_Cells : a.S.Main.Cells.xs.length = a.S.Main.Cells.n := by have h_ := f_a.S.Main.Cells.len; simpa [markGrid, markScr, markTerm, markVp, marks_len, mrks_len] using h_
 have nb_S_Alt_Cells : a.S.Alt.Cells.n ≤ 549755813888 := f_a.S.Alt.Cells_n
 have nl_S_Alt_Cells : a.S.Alt.Cells.xs.length = a.S.Alt.Cells.n := by have h_ := f_a.S.Alt.Cells.len; simpa [markGrid, markScr, markTerm, markVp, marks_len, mrks_len] using h_
 have nb_S_Tabs : a.S.Tabs.n ≤ 549755813888 := f_a.S.Tabs_n
 have nl_S_Tabs : a.S.Tabs.xs.length = a.S.Tabs.n := by have h_ := f_a.S.Tabs.len; simpa [markGrid, markScr, markTerm, markVp, marks_len, mrks_len] using h_
 have nb_S_Back : a.S.Back.n ≤ 549755813888 := f_a.S.Back_n
 have nl_S_Back : a.S.Back.xs.length = a.S.Back.n := by have h_ := f_a.S.Back.sl.len; simpa [markGrid, markScr, markTerm, markVp, marks_len, mrks_len] using h_
 have fm_P : okVpR 549755813888 w (markVp k a.P) := f_a.P
 have fm_S : okScrR 549755813888 w (markScr (endVp k a.P) a.S) := f_a.S
 have nb_P_Args : a.P.Args.n ≤ 549755813888 := f_a.P.Args_n
 have nl_P_Args : a.P.Args.xs.length = a.P.Args.n := by have h_ := f_a.P.Args.len; simpa [markGrid, markScr, markTerm, markVp, marks_len, mrks_len] using h_
 have nb_P_Part : a.P.Part.n ≤ 549755813888 := f_a.P.Part_n
 have nl_P_Part : a.P.Part.xs.length = a.P.Part.n := by have h_ := f_a.P.Part.len; simpa [markGrid, markScr, markTerm, markVp, marks_len, mrks_len] using h_
 have nb_S_Main_Cells : a.S.Main.Cells.n ≤ 549755813888 := f_a.S.Main.Cells_n
 have nl_S_Main_Cells : a.S.Main.Cells.xs.length = a.S.Main.Cells.n := by have h_ := f_a.S.Main.Cells.len; simpa [markGrid, markScr, markTerm, markVp, marks_len, mrks_len] using h_
 have nb_S_Alt_Cells : a.S.Alt.Cells.n ≤ 549755813888 := f_a.S.Alt.Cells_n
 have nl_S_Alt_Cells : a.S.Alt.Cells.xs.length = a.S.Alt.Cells.n := by have h_ := f_a.S.Alt.Cells.len; simpa [markGrid, markScr, markTerm, markVp, marks_len, mrks_len] using h_
 have nb_S_Tabs : a.S.Tabs.n ≤ 549755813888 := f_a.S.Tabs_n
 have nl_S_Tabs : a.S.Tabs.xs.length = a.S.Tabs.n := by have h_ := f_a.S.Tabs.len; simpa [markGrid, markScr, markTerm, markVp, marks_len, mrks_len] using h_
 have nb_S_Back : a.S.Back.n ≤ 549755813888 := f_a.S.Back_n
 have nl_S_Back : a.S.Back.xs.length = a.S.Back.n := by have h_ := f_a.S.Back.sl.len; simpa [markGrid, markScr, markTerm, markVp, marks_len, mrks_len] using h_
 have hq2 := h2
 simp only [endGrid, endScr, endTerm, endVp] at hq2
 have hcn_S_Back := cnts_nonneg (c := cntERow) (fun x => by simp only [cntERow]; omega) a.S.Back.xs
 refine enter 18 Tryz.func18 rfl Tryz.ntmps18 rfl rfl ?_
 have hs1 := St.init w
 refine WC.sr (WL.bx hs1 rfl (fun b2 _ hs3 => WL.r 1 hs3 [] rfl (WL.nil (WC.sr (WL.r 3 hs3 [0] rfl ?_)))))
 refine WL.cl Tryz.call59 rfl (k36_ _ _ _ (okVpR.st0 fm_P hs3) ?_ ?_) ?_
 · first | assumption | omega | (simp only [endGrid, endScr, endTerm, endVp]; omega)
 · first | assumption | omega | (simp only [endVp]; omega) | (simp only [endGrid, endScr, endTerm, endVp]; omega)
 rintro _ whs4 ⟨rfl, hs4⟩
 replace hs4 := hs3.call0 hs4
 refine ⟨_, rfl, WL.r 1 hs4 [] rfl (WL.nil (WC.seq (fun K5 hK5 => WC.r1 hs4 [] rfl ?_)))⟩
 refine WC.condF rfl (by first | (simp; omega) | (rw [decide_eq_false_iff_not]; simp only [endGrid, endScr, endTerm, endVp]; omega)) (WC.skip (hK5 _ _ (WC.sr (WL.r 3 hs4 [0] rfl ?_))))
 refine WL.cl Tryz.call25 rfl (k97_ _ _ _ (okScrR.st0 fm_S hs4) ?_ ?_) ?_
 · first | assumption | omega | (simp only [endGrid, endScr, endTerm, endVp]; omega)
 · first | assumption | omega | (simp only [endGrid, endScr]; omega) | (simp only [endGrid, endScr, endTerm, endVp]; omega)
 rintro _ whs7 ⟨rfl, hs7⟩
 replace hs7 := hs4.call0 hs7
 refine ⟨_, rfl, WL.r 1 hs7 [] rfl (WL.nil (WC.seq (fun K8 hK8 => WC.r1 hs7 [] rfl ?_)))⟩
 refine WC.condF rfl (by first | (simp; omega) | (rw [decide_eq_false_iff_not]; simp only [endGrid, endScr, endTerm, endVp]; omega)) (WC.skip (hK8 _ _ (WC.r1 hs7 [] rfl (WC.ret (rtv rfl rfl hs7 ?_)))))
 first | rfl | (simp [endGrid, endScr, endTerm, endVp, *]; done) | (simp [endGrid, endScr, endTerm, endVp, *]; omega)
set_option maxHeartbeats 8000000 in
theorem k101_ (A_aB : Option Addr) (n_aB c_aB : Nat) (aB : List UInt8) (w : World) (f_aB : SlF encB w A_aB n_aB aB) :
    Calls Tryz.prog 3 #[.slice A_aB n_aB c_aB] w fun e w' => e = .returned (.bool true) ∧ St w [] [] w' := by
 refine enter 93 Tryz.func3 rfl Tryz.ntmps3 rfl rfl ?_
 have hs1 := St.init w
 refine WC.r1 hs1 [] rfl (WC.seq (fun K2 hK2 => WC.r1 hs1 [] rfl ?_))
 refine WC.cD rfl (fun qh3 => ?_) (fun qh3 => ?_)
 ·refine WC.r1 hs1 [] rfl (WC.ret (tkR ?_))
  clear hK2
  refine rtv rfl rfl hs1 ?_
  rfl
 have hn : n_aB ≤ 1048576 := by have h9 := qh3; first | omega | (simp at h9; omega)
 have hbl := f_aB.len
 have hT := readRes_tot (s := aB)
 have hTB : smTerm 549755813888 (readRes aB) := totTerm_sm (by omega)
 refine WC.skip (hK2 _ _ (WC.sr (WL.r 1 hs1 [] rfl ?_)))
 refine WL.cl Tryz.call12 rfl (k2_ _ _ _ _ _ (SlF.st0 f_aB hs1) ?_) ?_
 · first | assumption | rfl | omega | (simp only [endAct, endGrid, endScr, endTerm, endVp]; first | done | assumption | omega)
 rintro _ whs4 ⟨A5, c6, L1_7, rfl, hs4, ho8⟩
 replace hs4 := hs1.callF hs4
 refine ⟨_, rfl, WL.cl Tryz.call11 rfl (k94_ _ _ _ _ _ (SlF.ofOwn ho8 (hs4.ow L1_7)) (OwnF.cap ho8) ?_) ?_⟩
 · first | assumption | rfl | omega | (simp only [endAct, endGrid, endScr, endTerm, endVp]; first | done | assumption | omega)
 rintro _ whs9 ⟨r10, L1_11, rfl, hs9, ho12, hd13⟩
 replace hs9 := hs4.callF hs9
 refine ⟨_, rfl, WL.r 3 hs9 [] rfl (WL.al hs9 Tryz.zeroValue35 rfl rfl (fun b14 _ hs15 => WL.st tbk hs15 0 rfl rfl (fun _ hs16 => WL.r 1 hs16 [] rfl (WL.nil (WC.sr (WL.r 1 hs16 [] rfl ?_))))))⟩
 refine WL.cl Tryz.call12 rfl (k2_ _ _ _ _ _ (SlF.st0 f_aB hs16) ?_) ?_
 · first | assumption | rfl | omega | (simp only [hd13, endAct, endGrid, endScr, endTerm, endVp]; first | done | assumption | omega)
 rintro _ whs17 ⟨A18, c19, L1_20, rfl, hs17, ho21⟩
 replace hs17 := hs16.callF hs17
 refine ⟨_, rfl, ?_⟩
 replace hs17 := St.back [_] hs17
 refine WL.r 1 hs17 [] rfl (WL.nil (WC.sr (WL.r 1 hs17 [] rfl (WL.cl Tryz.call13 rfl (k86_ _ _ _ _ _ (SlF.ofOwn ho21 (hs17.ow L1_20)) (OwnF.cap ho21) ?_) ?_))))
 · first | assumption | rfl | omega | (simp only [hd13, endAct, endGrid, endScr, endTerm, endVp]; first | done | assumption | omega)
 rintro _ whs22 ⟨r23, L1_24, rfl, hs22, ho25, hd26⟩
 try simp only [hd13] at hd26
 replace hs22 := hs17.callF hs22
 refine ⟨_, rfl, ?_⟩
 replace hs22 := St.back [_] hs22
 have el0 := endTerm_le 1 r23
 rw [hd26] at el0
 have eg0 := endTerm_ge 1 r23
 have eb0 : endTerm 1 r23 ≤ 549755813888 := by omega
 have en0_S_Back : r23.S.Back.xs.length ≤ 549755813888 := by have h1 := tots_len totRow (r23.S.Back.xs.map RowR.dat); rw [List.length_map] at h1; have h2 : totTerm r23.dat ≤ 20230 := (by rw [hd26]; exact hT); simp only [GridR.dat, ScrR.dat, TermR.dat, VpR.dat, totGrid, totScr, totTerm, totVp] at h2; omega
 refine WL.r 3 hs22 [] rfl (WL.al hs22 Tryz.zeroValue35 rfl rfl (fun b27 _ hs28 => WL.st tbk hs28 0 rfl rfl (fun _ hs29 => WL.r 1 hs29 [] rfl (WL.nil (WC.seq (fun K30 hK30 => WC.sr (WL.r 2 hs29 [0, 1] rfl ?_)))))))
 refine WL.cl Tryz.call14 rfl (k98_ r23 r10 _ (ownTermR.ok (B := 549755813888) ho25 (hs29.ow L1_24) (by rw [hd26]; assumption)) (ownTermR.ok (B := 549755813888) ho12 (hs29.ow L1_11) (by rw [hd13]; assumption)) ?_) ?_
 · first | assumption | rfl | omega | (simp only [hd13, hd26, endAct, endGrid, endScr, endTerm, endVp]; first | done | assumption | omega)
 rintro _ whs31 ⟨rfl, hs31⟩
 replace hs31 := hs29.call0 hs31
 refine ⟨_, rfl, WL.r 2 hs31 [] rfl (WL.pO tbk 3 Acts.nil hs31 [] rfl rfl rfl rfl (fun g_ => trivial) (WL.nil ?_))⟩
 refine WC.condF rfl (by first | (simp; done) | (simp; omega) | (simp [hd13, hd26]; done) | (simp [hd13, hd26]; omega) | (simp only [endAct, endGrid, endScr, endTerm, endVp]; simp; omega)) (WC.skip (hK30 _ _ (WC.seq (fun K33 hK33 => WC.sr (WL.r 2 hs31 [] rfl ?_)))))
 refine WL.cl Tryz.call12 rfl (k2_ _ _ _ _ _ (SlF.st0 f_aB hs31) ?_) ?_
 · first | assumption | rfl | omega | (simp only [hd13, hd26, endAct, endGrid, endScr, endTerm, endVp]; first | done | assumption | omega)
 rintro _ whs34 ⟨A35, c36, L1_37, rfl, hs34, ho38⟩
 replace hs34 := hs31.callF hs34
 refine ⟨_, rfl, ?_⟩
 replace hs34 := St.back [_, _] hs34
 refine WL.cl Tryz.call15 rfl (k3_ _ _ _ _ _ _ _ _ _ (SlF.ofOwn ho21 (hs34.ow L1_20)) (SlF.ofOwn ho38 (hs34.ow L1_37)) ?_ ?_) ?_
 iterate 2 first | assumption | rfl | omega | (simp only [hd13, hd26, endAct, endGrid, endScr, endTerm, endVp]; first | done | assumption | omega)
 rintro _ whs39 ⟨rfl, hs39⟩
 replace hs39 := hs34.call0 hs39
 refine ⟨_, rfl, WL.r 1 hs39 [] rfl (WL.nil ?_)⟩
 refine WC.condF rfl (by first | (simp; done) | (simp; omega) | (simp [hd13, hd26]; done) | (simp [hd13, hd26]; omega) | (simp only [endAct, endGrid, endScr, endTerm, endVp]; simp; omega)) (WC.skip (hK33 _ _ (WC.r1 hs39 [] rfl (WC.sr (WL.r 2 hs39 [] rfl ?_)))))
 refine WL.cl Tryz.call16 rfl (k8_ _ _ _ _ _ ho21 (hs39.ow L1_20) ?_ ?_ ?_) ?_
 iterate 3 first | assumption | rfl | omega | (simp only [hd13, hd26, endAct, endGrid, endScr, endTerm, endVp]; first | done | assumption | omega)
 rintro _ whs41 ⟨L1_42, rfl, hs41, ho43⟩
 replace hs41 := St.lend (hs39.fr L1_20) hs41
 refine ⟨_, rfl, ?_⟩
 replace hs41 := St.back [_, _] hs41
 refine WL.r 1 hs41 [] rfl (WL.nil (WC.seq (fun K44 hK44 => WC.sr (WL.r 3 hs41 [] rfl ?_))))
 apply WL.gO 4 Acts.nil hs41 rfl
 ·intro g45 J46
  have qg45 := g45
  try simp only [bf, within_iff, within_not] at qg45
  refine WL.runA tbk 2 (Acts.nil.cons (j := 2) rfl g45) hs41 [0, 1] rfl ⟨rfl, rfl, trivial⟩ ?_
  refine WL.call (wantF rfl g45) rfl rfl (Run.call Tryz.call14 rfl rfl rfl) (k98_ r23 r10 _ (ownTermR.ok (B := 549755813888) ho25 (hs41.ow L1_24) (by rw [hd26]; assumption)) (ownTermR.ok (B := 549755813888) ho12 (hs41.ow L1_11) (by rw [hd13]; assumption)) ?_) ?_
  · first | assumption | rfl | omega | (simp only [hd13, hd26, endAct, endGrid, endScr, endTerm, endVp]; first | done | assumption | omega)
  rintro _ whs47 ⟨rfl, hs47⟩
  replace hs47 := hs41.call0 hs47
  refine ⟨_, rfl, WL.runA tbk 1 (Acts.nil.cons (j := 2) rfl g45) hs47 [] rfl trivial (WL.eO 4 Acts.nil J46 hs47 g45 rfl rfl)⟩
 intro _ hs48
 refine WL.r 1 hs48 [] rfl (WL.pO tbk 3 Acts.nil hs48 [] rfl rfl rfl rfl (fun g_ => trivial) (WL.nil ?_))
 refine WC.condF rfl (by first | (simp; done) | (simp; omega) | (simp [hd13, hd26]; done) | (simp [hd13, hd26]; omega) | (simp only [endAct, endGrid, endScr, endTerm, endVp]; simp; omega)) (WC.skip (hK44 _ _ (WC.r1 hs48 [] rfl (WC.sr (WL.r 2 hs48 [0] rfl ?_)))))
 refine WL.cl Tryz.call17 rfl (k99_ r23 _ _ _ ho25 (hs48.ow L1_24) (St.nodupL (hs48.fr L1_24)) ?_ ?_ ?_) ?_
 · first | assumption | omega | (simp only [hd13, hd26, endAct, endGrid, endScr, endTerm, endVp]; first | done | assumption | omega)
 · first | assumption | omega | (simp only [endGrid, endScr, endTerm, endVp]; omega) | (simp only [hd13, hd26, endAct, endGrid, endScr, endTerm, endVp]; first | done | assumption | omega)
 · first | assumption | omega | (simp only [hd13, hd26, endAct, endGrid, endScr, endTerm, endVp]; first | done | assumption | omega)
 rintro _ whs50 ⟨L1_51, rfl, hs50, ho52⟩
 replace hs50 := St.lend (hs48.fr L1_24) hs50
 refine ⟨_, rfl, ?_⟩
 replace hs50 := St.back [_, _] hs50
 refine WL.r 1 hs50 [] rfl (WL.nil (WC.r1 hs50 [] rfl (WC.sr (WL.r 2 hs50 [0] rfl ?_))))
 refine WL.cl Tryz.call18 rfl (k100_ _ _ _ (ownTermR.ok (B := 549755813888) ho52 (hs50.ow L1_51) (markTerm_sm (by rw [hd26]; assumption))) ?_ ?_) ?_
 · first | assumption | omega | (simp only [hd13, hd26, endAct, endGrid, endScr, endTerm, endVp]; first | done | assumption | omega)
 · first | assumption | omega | (simp only [endGrid, endScr, endTerm, endVp]; omega) | (simp only [hd13, hd26, endAct, endGrid, endScr, endTerm, endVp]; first | done | assumption | omega)
 rintro _ whs53 ⟨rfl, hs53⟩
 replace hs53 := hs50.call0 hs53
 refine ⟨_, rfl, WL.r 1 hs53 [] rfl (WL.nil (WC.seq (fun K54 hK54 => WC.r1 hs53 [] rfl ?_)))⟩
 refine WC.condF rfl (by first | (simp; done) | (simp; omega) | (simp [hd13, hd26]; done) | (simp [hd13, hd26]; omega) | (simp only [endAct, endGrid, endScr, endTerm, endVp]; simp; omega)) (WC.skip (hK54 _ _ (WC.seq (fun K56 hK56 => WC.r1 hs53 [] rfl ?_))))
 refine WC.condF rfl (by first | (simp; done) | (simp; omega) | (simp [hd13, hd26]; done) | (simp [hd13, hd26]; omega) | (simp only [endAct, endGrid, endScr, endTerm, endVp]; simp; omega)) (WC.skip (hK56 _ _ (WC.sr (WL.r 1 hs53 [] rfl ?_))))
 refine WL.cl Tryz.call12 rfl (k2_ _ _ _ _ _ (SlF.st0 f_aB hs53) ?_) ?_
 · first | assumption | rfl | omega | (simp only [hd13, hd26, endAct, endGrid, endScr, endTerm, endVp]; first | done | assumption | omega)
 rintro _ whs58 ⟨A59, c60, L1_61, rfl, hs58, ho62⟩
 replace hs58 := hs53.callF hs58
 refine ⟨_, rfl, ?_⟩
 replace hs58 := St.back [_, _] hs58
 refine WL.cl Tryz.call13 rfl (k86_ _ _ _ _ _ (SlF.ofOwn ho62 (hs58.ow L1_61)) (OwnF.cap ho62) ?_) ?_
 · first | assumption | rfl | omega | (simp only [hd13, hd26, endAct, endGrid, endScr, endTerm, endVp]; first | done | assumption | omega)
 rintro _ whs63 ⟨r64, L1_65, rfl, hs63, ho66, hd67⟩
 try simp only [hd13, hd26] at hd67
 replace hs63 := hs58.callF hs63
 refine ⟨_, rfl, ?_⟩
 replace hs63 := St.back [_, _] hs63
 refine WL.r 3 hs63 [] rfl (WL.al hs63 Tryz.zeroValue35 rfl rfl (fun b68 _ hs69 => WL.st tbk hs69 0 rfl rfl (fun _ hs70 => WL.r 1 hs70 [] rfl (WL.nil (WC.seq (fun K71 hK71 => WC.sr (WL.r 2 hs70 [0, 2] rfl ?_)))))))
 refine WL.cl Tryz.call14 rfl (k98_ r64 r10 _ (ownTermR.ok (B := 549755813888) ho66 (hs70.ow L1_65) (by rw [hd67]; assumption)) (ownTermR.ok (B := 549755813888) ho12 (hs70.ow L1_11) (by rw [hd13]; assumption)) ?_) ?_
 · first | assumption | rfl | omega | (simp only [hd13, hd26, hd67, endAct, endGrid, endScr, endTerm, endVp]; first | done | assumption | omega)
 rintro _ whs72 ⟨rfl, hs72⟩
 replace hs72 := hs70.call0 hs72
 refine ⟨_, rfl, WL.r 2 hs72 [] rfl (WL.pO tbk 3 Acts.nil hs72 [] rfl rfl rfl rfl (fun g_ => trivial) (WL.nil ?_))⟩
 refine WC.condF rfl (by first | (simp; done) | (simp; omega) | (simp [hd13, hd26, hd67]; done) | (simp [hd13, hd26, hd67]; omega) | (simp only [endAct, endGrid, endScr, endTerm, endVp]; simp; omega)) (WC.skip (hK71 _ _ (WC.r1 hs72 [] rfl (WC.sr (WL.r 2 hs72 [1] rfl ?_)))))
 refine WL.cl Tryz.call18 rfl (k100_ _ _ _ (ownTermR.ok (B := 549755813888) ho52 (hs72.ow L1_51) (markTerm_sm (by rw [hd26]; assumption))) ?_ ?_) ?_
 · first | assumption | omega | (simp only [hd13, hd26, hd67, endAct, endGrid, endScr, endTerm, endVp]; first | done | assumption | omega)
 · first | assumption | omega | (simp only [endGrid, endScr, endTerm, endVp]; omega) | (simp only [hd13, hd26, hd67, endAct, endGrid, endScr, endTerm, endVp]; first | done | assumption | omega)
 rintro _ whs74 ⟨rfl, hs74⟩
 replace hs74 := hs72.call0 hs74
 refine ⟨_, rfl, WL.r 1 hs74 [] rfl (WL.nil (WC.seq (fun K75 hK75 => WC.r1 hs74 [] rfl ?_)))⟩
 refine WC.condF rfl (by first | (simp; done) | (simp; omega) | (simp [hd13, hd26, hd67]; done) | (simp [hd13, hd26, hd67]; omega) | (simp only [endAct, endGrid, endScr, endTerm, endVp]; simp; omega)) (WC.skip (hK75 _ _ (WC.seq (fun K77 hK77 => WC.r1 hs74 [] rfl ?_))))
 refine WC.condF rfl (by first | (simp; done) | (simp; omega) | (simp [hd13, hd26, hd67]; done) | (simp [hd13, hd26, hd67]; omega) | (simp only [endAct, endGrid, endScr, endTerm, endVp]; simp; omega)) (WC.skip (hK77 _ _ (WC.r1 hs74 [] rfl (WC.ret (rtv rfl rfl hs74 ?_)))))
 rfl
open Go Go.RowKit Go.ChangeShapes Go.WideShapes Go.ChangeAt Go.Deep
section
variable {H : Type} {enc : TypeId × Value → H} {P : Program} {w : World} {base : Nat} {spare : Nat → Bool} {held : Bool} {fuel : Nat} {t e : TypeId} {cs : List Value} {x : DataW H × List MemPlace}
theorem open_SlB (ht : P.underlying t = some (.slice e)) (he : P.underlying e = some (.int .u8)) (hc : P.cellsOf e = 1) (h : DataW.trod enc P w base spare held fuel t cs = some x) :
  ∃ A n c xs, cs = [.slice A n c] ∧ SlB w A n xs ∧ n ≤ 9223372036854775807 := by
 rcases open_ints ht he hc h with ⟨rfl, _⟩ | ⟨a, l, c, zs, rfl, _, hl, hm, hz, _, hcell, hwz⟩
 ·exact ⟨none, 0, 0, [], rfl, ⟨rfl, SlR.nil _ _ _⟩, by omega⟩
 ·have hlz : l ≤ zs.length := by rw [hz]; split <;> omega
  refine ⟨some a, l, c, (zs.take l).map (fun z => UInt8.ofNat z.toNat), rfl, ⟨by simp; omega, ⟨by rw [rows_len]; simp [encB]; omega, fun _ => rfl, fun j v hv => ?_⟩⟩, by simp only [maxLen] at hm; omega⟩
  have hj : j < l := by
   have := (List.getElem?_eq_some_iff.1 hv).1
   simp [bytesV_len] at this; omega
  have hc1 := hcell j (by omega)
  have hw := hwz (zs.getD j 0) (by rw [List.getD_eq_getElem?_getD, List.getElem?_eq_getElem (show j < zs.length by omega)]; exact List.getElem_mem _)
  simp [Lit.wf, IntKind.min, IntKind.max, IntKind.signed, IntKind.bits] at hw
  show w.cell? (a.add j) = some v
  rw [hc1, ← hv]
  have hlt : j < zs.length := by omega
  have e1 : zs.getD j 0 = zs[j] := by rw [List.getD_eq_getElem?_getD, List.getElem?_eq_getElem hlt]; rfl
  rw [e1]
  simp only [List.getElem?_eq_getElem hlt, Option.getD_some] at hw
  simp [bytesV_map, hj, List.getElem?_eq_getElem hlt, UInt8.toNat_ofNat']
  omega
end
namespace fnExactTermRead
open Go.ChangeShapes Go.WideShapes Go.ChangeAt Go.RowKit
theorem own : ownKnob Tryz.prog.godebug = none := by kernel_rfl
theorem laidOut : laidOutB Tryz.prog = true := by kernel_rfl
set_option maxRecDepth 100000 in
set_option maxHeartbeats 1000000 in
theorem lifted (os : Os) (started : os.Started) (H : Type) (enc : TypeId × Value → H) :
    ReturnsInHanded {} Tryz.checked os 3 .any (Rows.fnExactTermReadSpec.pre6 enc Tryz.prog Tryz.f3 Rows.fnExactTermReadRow.domain false) (Rows.fnExactTermReadSpec.post enc Tryz.prog Tryz.f3 false true false false) := by
  refine returnsInHanded_of_change (C := Tryz.checked) own started (by kernel_rfl) Tryz.func3
    (ChangeSpec.witness6 (enc := enc) (C := Tryz.checked) false ⟨#[], #[.slice none 0 0], []⟩ 8 (by kernel_rfl) (by kernel_rfl) (by kernel_rfl) (by kernel_rfl)) ?_
  intro W base args ds gs before hval0 hW hcnd _
  have hval : ∀ (j : Nat) t v, Tryz.f3.params[j]? = some t → args[j]? = some v → Value.okWide Tryz.prog W .any base t v := hval0
  have hW' := hW
  obtain ⟨p, q, hA0, hV, rfl, hfz, hnd⟩ := hW
  have hA : DataW.TrodAll enc Tryz.prog W 0 (fun _ => true) true Tryz.f3.params.toList args.toList ds p := hA0
  rw [Tryz.params3] at hA hval
  obtain ⟨v0, vs0, d0, ds0, p0, q0, hargs, rfl, rfl, h0, r0⟩ := trodAll_cons hA
  obtain ⟨rfl, rfl, rfl⟩ := trodAll_nil r0
  obtain rfl : args = #[v0] := by cases args; simp_all
  obtain ⟨rfl, rfl⟩ := trodVars_none hV
  have k0 := h0
  have lt0 : ∀ x ∈ p0, x.block < W.heap.size := by obtain ⟨m, hm⟩ := k0; exact DataW.trod_lt m _ _ _ hm
  obtain ⟨a0, l0, q0, rfl⟩ := okWide_slice Tryz.underlying22 (hval 0 22 v0 rfl rfl)
  obtain ⟨fuel0, hf0⟩ := h0
  replace hf0 : DataW.trod _ _ _ _ _ _ _ 22 [.slice a0 l0 q0] = _ := hf0
  obtain ⟨A_aB, n_aB, c_aB, aB, e0, f_aB, w_aB⟩ := open_SlB Tryz.underlying22 Tryz.underlying5 (by kernel_rfl) hf0
  obtain ⟨rfl, rfl, rfl⟩ : A_aB = a0 ∧ n_aB = l0 ∧ c_aB = q0 := by cases e0; exact ⟨rfl, rfl, rfl⟩
  clear hA0 hval0
  refine (k101_ A_aB n_aB c_aB aB W f_aB).mono fun e W' ⟨he, hst⟩ => ?_
  have bel := hst.toBelow
  subst he
  exact ⟨_, rfl, _, _, _, [], _, [], hW', trodAll_mk1 (shut_bool Tryz.underlying4 _), (trodAll_cons_mk (Below.trod laidOut (by kernel_rfl) (of_decide_eq_true (by kernel_rfl)) k0 bel lt0) trodAll_mk0), rfl, bel.frame _, fun h => by cases h⟩
theorem over : Rows.fnExactTermReadRow.holds Tryz.pinned (OpenSpec.ofChange Rows.fnExactTermReadSpec) :=
  OpenClaim.holds_of_wide 3 Tryz.f3 rfl rfl rfl rfl rfl rfl rfl ⟨rfl, rfl, rfl, rfl, rfl⟩ rfl rfl rfl rfl rfl (by kernel_rfl) Tryz.func3 (by kernel_rfl)
    (of_decide_eq_true (by kernel_rfl)) (by unfold Func.isWrapper; first | (rw [if_pos (by decide +kernel)]; kernel_rfl) | (rw [if_neg (by decide +kernel)]; exact ⟨rfl, rfl⟩))
    (fun os started H enc _ => lifted os started H enc)
end fnExactTermRead
theorem fnExactTermRead_holds : Rows.FnExactTermReadSaid := fnExactTermRead.over
end Go.Proofs.YtjmegoiclgancaaGreat
