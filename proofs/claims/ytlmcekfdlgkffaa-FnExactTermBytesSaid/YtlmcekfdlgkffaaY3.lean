/- Walks of Go functions, printed by a program (wip/gen). -/
import Derived.Test.YtlmcekfdlgkffaaY2
import Derived.Test.YtlmcekfdlgkffaaV2
namespace Go.Proofs.Ytlmcekfdlgkffaa
open Go Go.RowKit
set_option linter.unusedVariables false
set_option linter.unusedSimpArgs false
theorem c_impl_TermBytes (t : TermR) (w : World) (f_t : okTermR 549755813888 w t) (hsm : smTerm 1048576 t.dat) :
    Calls Try.prog 57 #[.agg #[i64 t.P.State, .bool t.P.Mark, .slice t.P.Args.A t.P.Args.n t.P.Args.c, .slice t.P.Part.A t.P.Part.n t.P.Part.c, i64 t.S.W, i64 t.S.H, i64 t.S.Main.W, i64 t.S.Main.H, .slice t.S.Main.Cells.A t.S.Main.Cells.n t.S.Main.Cells.c, i64 t.S.Alt.W, i64 t.S.Alt.H, .slice t.S.Alt.Cells.A t.S.Alt.Cells.n t.S.Alt.Cells.c, .bool t.S.OnAlt, i64 t.S.X, i64 t.S.Y, .bool t.S.Wrap, i64 t.S.A.Fg, i64 t.S.A.Bg, .bool t.S.A.Bold, .bool t.S.A.Under, .bool t.S.A.Turn, i64 t.S.Top, i64 t.S.Bot, .bool t.S.NoWrap, .bool t.S.Hide, i64 t.S.SaveX, i64 t.S.SaveY, i64 t.S.SaveA.Fg, i64 t.S.SaveA.Bg, .bool t.S.SaveA.Bold, .bool t.S.SaveA.Under, .bool t.S.SaveA.Turn, .slice t.S.Tabs.A t.S.Tabs.n t.S.Tabs.c, i64 t.S.Limit, .slice t.S.Back.A t.S.Back.n t.S.Back.c]] w fun e w' => ∃ A c L1, e = .returned (.tuple #[.slice A (termOut t.dat).length c, .bool (termFine t.dat)]) ∧ St w [] L1 w' ∧ OwnF encB 5 (.slice A (termOut t.dat).length c) (termOut t.dat) L1 := by
 have nb_t_P_Args := f_t.P.Args_n
 have nl_t_P_Args := f_t.P.Args.len
 have nb_t_P_Part := f_t.P.Part_n
 have nl_t_P_Part := f_t.P.Part.len
 have nb_t_S_Main_Cells := f_t.S.Main.Cells_n
 have nl_t_S_Main_Cells := f_t.S.Main.Cells.len
 have nb_t_S_Alt_Cells := f_t.S.Alt.Cells_n
 have nl_t_S_Alt_Cells := f_t.S.Alt.Cells.len
 have nb_t_S_Tabs := f_t.S.Tabs_n
 have nl_t_S_Tabs := f_t.S.Tabs.len
 have nb_t_S_Back := f_t.S.Back_n
 have nl_t_S_Back := f_t.S.Back.sl.len
 refine enter (vs := [.agg #[i64 t.P.State, .bool t.P.Mark, .slice t.P.Args.A t.P.Args.n t.P.Args.c, .slice t.P.Part.A t.P.Part.n t.P.Part.c, i64 t.S.W, i64 t.S.H, i64 t.S.Main.W, i64 t.S.Main.H, .slice t.S.Main.Cells.A t.S.Main.Cells.n t.S.Main.Cells.c, i64 t.S.Alt.W, i64 t.S.Alt.H, .slice t.S.Alt.Cells.A t.S.Alt.Cells.n t.S.Alt.Cells.c, .bool t.S.OnAlt, i64 t.S.X, i64 t.S.Y, .bool t.S.Wrap, i64 t.S.A.Fg, i64 t.S.A.Bg, .bool t.S.A.Bold, .bool t.S.A.Under, .bool t.S.A.Turn, i64 t.S.Top, i64 t.S.Bot, .bool t.S.NoWrap, .bool t.S.Hide, i64 t.S.SaveX, i64 t.S.SaveY, i64 t.S.SaveA.Fg, i64 t.S.SaveA.Bg, .bool t.S.SaveA.Bold, .bool t.S.SaveA.Under, .bool t.S.SaveA.Turn, .slice t.S.Tabs.A t.S.Tabs.n t.S.Tabs.c, i64 t.S.Limit, .slice t.S.Back.A t.S.Back.n t.S.Back.c]]) 14 Try.func57 rfl Try.ntmps57 rfl rfl ?_
 have hs1 := St.init w
 refine WC.sr ?_
 refine WL.bx hs1 rfl (fun b2 _ hs3 => ?_)
 refine WL.run tbk 2 hs3 [] rfl trivial ?_
 refine WL.nil ?_
 refine WC.seq (fun K4 hK4 => ?_)
 refine WC.sr ?_
 refine WL.run tbk 1 hs3 [0] rfl ⟨rfl, trivial⟩ ?_
 refine WL.call rfl rfl rfl (Run.call Try.call38 rfl rfl rfl) (c_impl_TermOk t _ (okTermR.st0 f_t hs3)) ?_
 rintro _ whs5 ⟨rfl, hs5⟩
 replace hs5 := hs3.call0 hs5
 refine ⟨_, rfl, ?_⟩
 refine WL.run tbk 1 hs5 [] rfl trivial ?_
 refine WL.nil ?_
 refine WC.cond rfl (fun h6 => ?_) (fun h6 => ?_)
 ·have qh6 := h6
  try simp only [bf, within_iff, within_not] at qh6
  have hf : termFine t.dat = false := by unfold termFine; rw [show termOk t.dat = false from by have h9 := h6; simpa using h9]; rfl
  refine WC.rr tbk hs5 [] rfl trivial ?_
  refine WC.ret ?_
  refine tkR ?_
  clear hK4
  refine retV2 rfl (resV.tmp rfl) (resV.tmp rfl) ?_
  rw [hf]
  have hx_ := OwnF.eqOf (xs := termOut t.dat) (OwnF.nil encB 5) (by simp [termOut, hf])
  rw [← hx_]
  exact ⟨_, _, _, rfl, hs5.nil, (OwnF.nil encB 5)⟩
 ·have qh6 := h6
  try simp only [bf, within_iff, within_not] at qh6
  have hok : termOk t.dat = true := by have h9 := h6; simpa using h9
  refine WC.skip ?_
  refine hK4 _ _ ?_
  refine WC.sr ?_
  refine WL.run tbk 1 hs5 [0] rfl ⟨rfl, trivial⟩ ?_
  refine WL.call rfl rfl rfl (Run.call Try.call129 rfl rfl rfl) (c_impl_Term_bytes t _ (okTermR.st0 f_t hs5) ?_ ?_) ?_
  · first | (first | assumption | rfl | omega) | (assumption)
  · first | (first | assumption | rfl | omega) | (assumption)
  rintro _ whs7 ⟨A8, c9, L1_10, rfl, hs7, ho11⟩
  replace hs7 := hs5.callF hs7
  refine ⟨_, rfl, ?_⟩
  replace hs7 := St.back [_] hs7
  refine WL.run tbk 1 hs7 [] rfl trivial ?_
  refine WL.nil ?_
  refine WC.seq (fun K12 hK12 => ?_)
  refine WC.rr tbk hs7 [] rfl trivial ?_
  refine WC.cond rfl (fun h13 => ?_) (fun h13 => ?_)
  ·have qh13 := h13
   try simp only [bf, within_iff, within_not] at qh13
   have hf : termFine t.dat = false := by unfold termFine; rw [hok, Bool.true_and, decide_eq_false_iff_not]; have h9 := qh13; omega
   refine WC.rr tbk hs7 [] rfl trivial ?_
   refine WC.ret ?_
   refine tkR ?_
   clear hK12
   refine retV2 rfl (resV.tmp rfl) (resV.tmp rfl) ?_
   rw [hf]
   have hx_ := OwnF.eqOf (xs := termOut t.dat) (OwnF.nil encB 5) (by simp [termOut, hf])
   rw [← hx_]
   exact ⟨_, _, _, rfl, hs7.nil, (OwnF.nil encB 5)⟩
  ·have qh13 := h13
   try simp only [bf, within_iff, within_not] at qh13
   have hf : termFine t.dat = true := by unfold termFine; rw [hok, Bool.true_and, decide_eq_true_eq]; have h9 := qh13; omega
   refine WC.skip ?_
   refine hK12 _ _ ?_
   refine WC.rr tbk hs7 [] rfl trivial ?_
   refine WC.ret ?_
   refine retV2 rfl (resV.tmp rfl) (resV.tmp rfl) ?_
   rw [hf]
   have hx_ := OwnF.eqOf (xs := termOut t.dat) ho11 (by unfold termOut; rw [hf]; rfl)
   rw [← hx_]
   first | exact ⟨_, _, _, rfl, (St.keep1 (St.perm hs7 (L' := L1_10 ++ _) (perm_front (A := [_]) (List.Perm.refl _)))), ho11⟩ | exact ⟨A8, c9, _, by rw [OwnF.len_ ho11], (St.keep1 (St.perm hs7 (L' := L1_10 ++ _) (perm_front (A := [_]) (List.Perm.refl _)))), by rw [OwnF.len_ ho11]; exact ho11⟩
theorem c_spec_TermBytes (t : TermR) (w : World) (f_t : okTermR 549755813888 w t) (hsm : smTerm 1048576 t.dat) :
    Calls Try.prog 56 #[.agg #[i64 t.P.State, .bool t.P.Mark, .slice t.P.Args.A t.P.Args.n t.P.Args.c, .slice t.P.Part.A t.P.Part.n t.P.Part.c, i64 t.S.W, i64 t.S.H, i64 t.S.Main.W, i64 t.S.Main.H, .slice t.S.Main.Cells.A t.S.Main.Cells.n t.S.Main.Cells.c, i64 t.S.Alt.W, i64 t.S.Alt.H, .slice t.S.Alt.Cells.A t.S.Alt.Cells.n t.S.Alt.Cells.c, .bool t.S.OnAlt, i64 t.S.X, i64 t.S.Y, .bool t.S.Wrap, i64 t.S.A.Fg, i64 t.S.A.Bg, .bool t.S.A.Bold, .bool t.S.A.Under, .bool t.S.A.Turn, i64 t.S.Top, i64 t.S.Bot, .bool t.S.NoWrap, .bool t.S.Hide, i64 t.S.SaveX, i64 t.S.SaveY, i64 t.S.SaveA.Fg, i64 t.S.SaveA.Bg, .bool t.S.SaveA.Bold, .bool t.S.SaveA.Under, .bool t.S.SaveA.Turn, .slice t.S.Tabs.A t.S.Tabs.n t.S.Tabs.c, i64 t.S.Limit, .slice t.S.Back.A t.S.Back.n t.S.Back.c]] w fun e w' => ∃ A c L1, e = .returned (.tuple #[.slice A (termOut t.dat).length c, .bool (termFine t.dat)]) ∧ St w [] L1 w' ∧ OwnF encB 5 (.slice A (termOut t.dat).length c) (termOut t.dat) L1 := by
 have nb_t_P_Args := f_t.P.Args_n
 have nl_t_P_Args := f_t.P.Args.len
 have nb_t_P_Part := f_t.P.Part_n
 have nl_t_P_Part := f_t.P.Part.len
 have nb_t_S_Main_Cells := f_t.S.Main.Cells_n
 have nl_t_S_Main_Cells := f_t.S.Main.Cells.len
 have nb_t_S_Alt_Cells := f_t.S.Alt.Cells_n
 have nl_t_S_Alt_Cells := f_t.S.Alt.Cells.len
 have nb_t_S_Tabs := f_t.S.Tabs_n
 have nl_t_S_Tabs := f_t.S.Tabs.len
 have nb_t_S_Back := f_t.S.Back_n
 have nl_t_S_Back := f_t.S.Back.sl.len
 refine enter (vs := [.agg #[i64 t.P.State, .bool t.P.Mark, .slice t.P.Args.A t.P.Args.n t.P.Args.c, .slice t.P.Part.A t.P.Part.n t.P.Part.c, i64 t.S.W, i64 t.S.H, i64 t.S.Main.W, i64 t.S.Main.H, .slice t.S.Main.Cells.A t.S.Main.Cells.n t.S.Main.Cells.c, i64 t.S.Alt.W, i64 t.S.Alt.H, .slice t.S.Alt.Cells.A t.S.Alt.Cells.n t.S.Alt.Cells.c, .bool t.S.OnAlt, i64 t.S.X, i64 t.S.Y, .bool t.S.Wrap, i64 t.S.A.Fg, i64 t.S.A.Bg, .bool t.S.A.Bold, .bool t.S.A.Under, .bool t.S.A.Turn, i64 t.S.Top, i64 t.S.Bot, .bool t.S.NoWrap, .bool t.S.Hide, i64 t.S.SaveX, i64 t.S.SaveY, i64 t.S.SaveA.Fg, i64 t.S.SaveA.Bg, .bool t.S.SaveA.Bold, .bool t.S.SaveA.Under, .bool t.S.SaveA.Turn, .slice t.S.Tabs.A t.S.Tabs.n t.S.Tabs.c, i64 t.S.Limit, .slice t.S.Back.A t.S.Back.n t.S.Back.c]]) 147 Try.func56 rfl Try.ntmps56 rfl rfl ?_
 have hs1 := St.init w
 refine WC.sr ?_
 refine WL.bx hs1 rfl (fun b2 _ hs3 => ?_)
 refine WL.run tbk 2 hs3 [] rfl trivial ?_
 refine WL.nil ?_
 refine WC.seq (fun K4 hK4 => ?_)
 refine WC.sr ?_
 refine WL.run tbk 1 hs3 [0] rfl ⟨rfl, trivial⟩ ?_
 refine WL.call rfl rfl rfl (Run.call Try.call36 rfl rfl rfl) (c_spec_TermOk t _ (okTermR.st0 f_t hs3)) ?_
 rintro _ whs5 ⟨rfl, hs5⟩
 replace hs5 := hs3.call0 hs5
 refine ⟨_, rfl, ?_⟩
 refine WL.run tbk 1 hs5 [] rfl trivial ?_
 refine WL.nil ?_
 refine WC.cond rfl (fun h6 => ?_) (fun h6 => ?_)
 ·have qh6 := h6
  try simp only [bf, within_iff, within_not] at qh6
  have hf : termFine t.dat = false := by unfold termFine; rw [show termOk t.dat = false from by have h9 := h6; simpa using h9]; rfl
  refine WC.rr tbk hs5 [] rfl trivial ?_
  refine WC.ret ?_
  refine tkR ?_
  clear hK4
  refine retV2 rfl (resV.tmp rfl) (resV.tmp rfl) ?_
  rw [hf]
  have hx_ := OwnF.eqOf (xs := termOut t.dat) (OwnF.nil encB 5) (by simp [termOut, hf])
  rw [← hx_]
  exact ⟨_, _, _, rfl, hs5.nil, (OwnF.nil encB 5)⟩
 ·have qh6 := h6
  try simp only [bf, within_iff, within_not] at qh6
  have hok : termOk t.dat = true := by have h9 := h6; simpa using h9
  have hT0 := termOk_P hok
  obtain ⟨hv1, hv2, hv3⟩ := vpOk_bnd hT0.1
  obtain ⟨hgm, hga⟩ := scrOk_main hT0.2
  obtain ⟨hm1, hm2⟩ := gridOk_cells hgm
  obtain ⟨ha1, ha2⟩ := gridOk_cells hga
  have hh := headL_bnd hok
  have htb := scrOk_tabs hT0.2
  have hrw := scrOk_rows hT0.2
  obtain ⟨_, _, _, _, hb5, hb6⟩ := scrOk_bnd hT0.2
  have hp1 : t.P.Part.xs.length ≤ 1048576 := hsm.1.2
  have hp2 : t.S.Tabs.xs.length ≤ 1048576 := hsm.2.2.2.1
  have hp3 : t.P.Args.xs.length ≤ 8 := hv2
  have hp4 : t.S.Main.Cells.xs.length ≤ 4000 := hm1
  have hp5 : t.S.Alt.Cells.xs.length ≤ 4000 := ha1
  have hp6 : t.S.Back.xs.length ≤ 100 := by have h9 : ((t.S.Back.xs.map RowR.dat).length : Int) ≤ t.S.Limit := hb6; have h8 : t.S.Limit ≤ 100 := hb5.2; rw [List.length_map] at h9; omega
  have q1 := numsL_len (l := headL t.dat) (fun x hx => by have := (hh x hx).2; omega)
  have q2 := numsL_len (l := t.P.Args.xs) (fun x hx => by have := (hv3 x hx).2; omega)
  have q3 := numsL_len (l := partI t.P.Part.xs) (fun x hx => by have := (partI_bnd x hx).2; omega)
  rw [partI_len] at q3
  have q4 := numsL_len (l := t.S.Tabs.xs) (fun x hx => by have := (htb x hx).2; omega)
  have q5 : (cellsB t.S.Main.Cells.xs).length ≤ 15 * t.S.Main.Cells.xs.length := cellsB_len hm1 hm2
  have q6 : (cellsB t.S.Alt.Cells.xs).length ≤ 15 * t.S.Alt.Cells.xs.length := cellsB_len ha1 ha2
  have w4 := varL_len ((t.S.Back.n : Int)).toNat (by omega)
  have hhl : (headL t.dat).length = 13 := rfl
  have hhe : [t.S.W, t.S.H, flagsL [t.S.OnAlt, t.S.Wrap, t.S.NoWrap, t.S.Hide, t.P.Mark], t.S.X, t.S.Y, attrNum ⟨t.S.A.Fg, t.S.A.Bg, t.S.A.Bold, t.S.A.Under, t.S.A.Turn⟩, t.S.Top, t.S.Bot, t.S.SaveX, t.S.SaveY, attrNum ⟨t.S.SaveA.Fg, t.S.SaveA.Bg, t.S.SaveA.Bold, t.S.SaveA.Under, t.S.SaveA.Turn⟩, t.S.Limit, t.P.State] = headL t.dat := by rw [flagsL_5]; rfl
  have w1 := varL_len t.P.Args.xs.length (by omega)
  have w2 := varL_len t.P.Part.xs.length (by omega)
  have w3 := varL_len t.S.Tabs.xs.length (by omega)
  have z1 := cellsOut_len t.S.Main.Cells.xs
  have z2 := cellsOut_len t.S.Alt.Cells.xs
  have z5 : (numsL ([t.S.W, t.S.H, flagsL [t.S.OnAlt, t.S.Wrap, t.S.NoWrap, t.S.Hide, t.P.Mark], t.S.X, t.S.Y, attrNum ⟨t.S.A.Fg, t.S.A.Bg, t.S.A.Bold, t.S.A.Under, t.S.A.Turn⟩, t.S.Top, t.S.Bot, t.S.SaveX, t.S.SaveY, attrNum ⟨t.S.SaveA.Fg, t.S.SaveA.Bg, t.S.SaveA.Bold, t.S.SaveA.Under, t.S.SaveA.Turn⟩, t.S.Limit, t.P.State])).length ≤ 65 := by rw [hhe]; omega
  have hcm : cellsOut t.S.Main.Cells.xs = cellsB t.S.Main.Cells.xs := cellsOut_ok hm1 hm2
  have hca : cellsOut t.S.Alt.Cells.xs = cellsB t.S.Alt.Cells.xs := cellsOut_ok ha1 ha2
  refine WC.skip ?_
  refine hK4 _ _ ?_
  refine WC.sr ?_
  refine WL.run tbk 2 hs5 [0] rfl ⟨rfl, trivial⟩ ?_
  refine WL.al hs5 Try.zeroValue33 rfl rfl (fun b7 _ hs8 => ?_)
  refine WL.st tbk hs8 0 rfl rfl (fun _ hs9 => ?_)
  refine WL.nil ?_
  refine WC.sr ?_
  refine WL.buildF (F := encI) hs9 ([]) Try.runUnderlying22 Try.sizeOf3 Try.zeroValue3 rfl rfl rfl rfl rfl rfl rfl rfl rfl rfl rfl rfl (fun A13 c14 L10 whs11 hs11 ho12 => ?_)
  replace hs11 := St.back [_, _] hs11
  refine WL.run tbk 1 hs11 [] rfl trivial ?_
  refine WL.nil ?_
  refine WC.seq (fun K15 hK15 => ?_)
  refine WC.rr tbk hs11 [1] rfl ⟨rfl, trivial⟩ ?_
  refine WC.block ?_
  refine WC.loopO [(1, _), (2, _), (3, _), (4, _), (19, _), (25, _), (26, _)] ⟨rfl, rfl, rfl, rfl, rfl, rfl, rfl, trivial⟩ (St.perm hs11 (L' := L10 ++ _) (perm_front (A := [_, _]) (List.Perm.refl _))) (fun k_ f L_ => ∃ (zs : List Int) (i : Nat) (A16 : Option Addr) (c17 : Nat), k_ = t.P.Part.n - i ∧ (i ≤ t.P.Part.n) ∧ (zs = partI (t.P.Part.xs.take i)) ∧ OwnF encI 3 (.slice A16 (zs.length) c17) (zs) L_ ∧ Sub [(5, .slice A16 (zs.length) c17), (27, .int .i64 i)] f) (t.P.Part.n) ?_ ?_
  ·refine ⟨[], 0, _, _, rfl, ?_, ?_, ho12, ⟨rfl, rfl, trivial⟩⟩
   · exact Nat.zero_le _
   · rfl
  ·clear hs11
   rintro _ f w L18 ⟨zs, i, A16, c17, rfl, p0, p1, ho19, hG⟩ hF hs20
   refine WC.sub _ (hG.app hF) ?_
   clear hG hF
   replace hs20 := St.back [_, _] hs20
   have hz1 : zs.length ≤ 1048576 := by rw [p1, partI_len, List.length_take]; omega
   refine WC.rr tbk hs20 [] rfl trivial ?_
   refine WC.seq (fun K21 hK21 => ?_)
   refine WC.cond rfl (fun h22 => ?_) (fun h22 => ?_)
   ·have qh22 := h22
    try simp only [bf, within_iff, within_not] at qh22
    refine WC.skip ?_
    refine hK21 _ _ ?_
    refine WC.seq (fun K23 hK23 => ?_)
    refine WC.block ?_
    refine WC.sr ?_
    refine WL.val rfl rfl rfl (Run.idxN Try.runUnderlying23 Try.sizeOf5 rfl rfl rfl ?_ ?_ ?_) ?_
    · exact SlF.some_ (SlF.st0 f_t.P.Part hs20)
    · omega
    · omega
    refine WL.val rfl rfl rfl (Run.load Try.isAgg5 rfl rfl (SlF.one1 (SlF.st0 f_t.P.Part hs20) ?_ rfl)) ?_
    · omega
    refine WL.run tbk 1 hs20 [] rfl trivial ?_
    refine WL.nil ?_
    refine WC.region ?_
    refine WL.run tbk 3 hs20 [] rfl ⟨(u8_in _), trivial⟩ ?_
    refine WL.buildSlice hs20 Try.runUnderlying22 Try.sizeOf3 Try.zeroValue3 rfl rfl rfl rfl rfl rfl rfl rfl rfl rfl (fun b24 whs25 hs25 => ?_)
    refine WL.appendG (St.perm hs25 (L' := L18 ++ _) (perm_front (A := [_, _, _]) (List.Perm.refl _))) ho19 (srcI1 Try.underlying22 (hs25.own _ (nthL_mem (i := 0) rfl)).1) Try.underlying22 info_3 rfl rfl rfl rfl rfl rfl rfl rfl rfl rfl ?_ (fun A29 c30 L26 whs27 hs27 ho28 => ?_)
    · first | omega | (simp only [List.length_append, List.length_nil, List.length_singleton, partI_len]; omega)
    replace hs27 := St.back [_, _, _] hs27
    refine WL.run tbk 1 hs27 [] rfl trivial ?_
    refine WL.nil ?_
    refine hK23 _ _ ?_
    refine WC.region ?_
    refine WL.run tbk 2 hs27 [] rfl ⟨by omega, trivial⟩ ?_
    refine WL.nil ?_
    refine tkN ?_
    replace hs27 := St.drop hs27 (List.sublist_append_right [_] _)
    refine ⟨⟨rfl, rfl, rfl, rfl, rfl, rfl, rfl, trivial⟩, _, (St.perm hs27 (L' := L26 ++ _) (perm_front (A := [_, _]) (List.Perm.refl _))), _, ?_, _, i + 1, _, _, rfl, ?_, ?_, ho28, ⟨rfl, rfl, trivial⟩⟩
    · omega
    · omega
    · rw [p1, partI_take (by omega)]
   ·have qh22 := h22
    try simp only [bf, within_iff, within_not] at qh22
    have hin : i = t.P.Part.n := by omega
    have hz3 : zs = partI t.P.Part.xs := by rw [p1, hin, List.take_of_length_le (by omega)]
    subst hz3
    refine WC.exit ?_
    refine hK15 _ _ ?_
    refine WC.seq (fun K31 hK31 => ?_)
    refine WC.regionH2 (fun w' => St _ _ _ w') (fun w' => St _ _ _ w') mixed (St.drew hs20) (St.drew hs20) (fun whs32 hs32 => ?_)
    replace hs32 : St _ _ _ _ := hs32
    refine WH.take 0 rfl (by kernel_rfl) rfl rfl rfl hs32 (fun w_ hs_ => (Run.field Try.runUnderlying33 rfl rfl rfl Try.sizeOf3 rfl)) ?_
    refine WH.take 1 rfl (by kernel_rfl) rfl rfl rfl hs32 (fun w_ hs_ => (Run.loadL (hs_ : St _ _ _ _) 0 Try.isAgg3 rfl rfl rfl rfl)) ?_
    refine WH.take 2 rfl (by kernel_rfl) rfl rfl rfl hs32 (fun w_ hs_ => (Run.field Try.runUnderlying33 rfl rfl rfl Try.sizeOf3 rfl)) ?_
    refine WH.take 3 rfl (by kernel_rfl) rfl rfl rfl hs32 (fun w_ hs_ => (Run.loadL (hs_ : St _ _ _ _) 0 Try.isAgg3 rfl rfl rfl rfl)) ?_
    refine WH.take 4 rfl (by kernel_rfl) rfl rfl rfl hs32 (fun w_ hs_ => (Run.field Try.runUnderlying33 rfl rfl rfl Try.sizeOf4 rfl)) ?_
    refine WH.take 5 rfl (by kernel_rfl) rfl rfl rfl hs32 (fun w_ hs_ => (Run.loadL (hs_ : St _ _ _ _) 0 Try.isAgg4 rfl rfl rfl rfl)) ?_
    refine WH.take 6 rfl (by kernel_rfl) rfl rfl rfl hs32 (fun w_ hs_ => (Run.field Try.runUnderlying33 rfl rfl rfl Try.sizeOf4 rfl)) ?_
    refine WH.take 7 rfl (by kernel_rfl) rfl rfl rfl hs32 (fun w_ hs_ => (Run.loadL (hs_ : St _ _ _ _) 0 Try.isAgg4 rfl rfl rfl rfl)) ?_
    refine WH.take 8 rfl (by kernel_rfl) rfl rfl rfl hs32 (fun w_ hs_ => (Run.field Try.runUnderlying33 rfl rfl rfl Try.sizeOf4 rfl)) ?_
    refine WH.take 9 rfl (by kernel_rfl) rfl rfl rfl hs32 (fun w_ hs_ => (Run.loadL (hs_ : St _ _ _ _) 0 Try.isAgg4 rfl rfl rfl rfl)) ?_
    refine WH.take 10 rfl (by kernel_rfl) rfl rfl rfl hs32 (fun w_ hs_ => (Run.field Try.runUnderlying33 rfl rfl rfl Try.sizeOf4 rfl)) ?_
    refine WH.take 11 rfl (by kernel_rfl) rfl rfl rfl hs32 (fun w_ hs_ => (Run.loadL (hs_ : St _ _ _ _) 0 Try.isAgg4 rfl rfl rfl rfl)) ?_
    refine WH.take 12 rfl (by kernel_rfl) rfl rfl rfl hs32 (fun w_ hs_ => (Run.field Try.runUnderlying35 rfl rfl rfl Try.sizeOf25 rfl)) ?_
    refine WH.take 13 rfl (by kernel_rfl) rfl rfl rfl hs32 (fun w_ hs_ => (Run.field Try.runUnderlying25 rfl rfl rfl Try.sizeOf4 rfl)) ?_
    refine WH.take 14 rfl (by kernel_rfl) rfl rfl rfl hs32 (fun w_ hs_ => (Run.loadL (hs_ : St _ _ _ _) 1 Try.isAgg4 rfl rfl rfl rfl)) ?_
    refine WH.take 17 rfl (by kernel_rfl) rfl rfl rfl hs32 (fun w_ hs_ => (Run.field Try.runUnderlying33 rfl rfl rfl Try.sizeOf3 rfl)) ?_
    refine WH.take 18 rfl (by kernel_rfl) rfl rfl rfl hs32 (fun w_ hs_ => (Run.loadL (hs_ : St _ _ _ _) 0 Try.isAgg3 rfl rfl rfl rfl)) ?_
    refine WH.take 19 rfl (by kernel_rfl) rfl rfl rfl hs32 (fun w_ hs_ => (Run.field Try.runUnderlying33 rfl rfl rfl Try.sizeOf3 rfl)) ?_
    refine WH.take 20 rfl (by kernel_rfl) rfl rfl rfl hs32 (fun w_ hs_ => (Run.loadL (hs_ : St _ _ _ _) 0 Try.isAgg3 rfl rfl rfl rfl)) ?_
    refine WH.take 21 rfl (by kernel_rfl) rfl rfl rfl hs32 (fun w_ hs_ => (Run.field Try.runUnderlying33 rfl rfl rfl Try.sizeOf30 rfl)) ?_
    refine WH.take 22 rfl (by kernel_rfl) rfl rfl rfl hs32 (fun w_ hs_ => (Run.loadLA (hs_ : St _ _ _ _) 0 Try.isAgg30 Try.sizeOf30 rfl rfl rfl rfl rfl)) ?_
    refine WH.take 24 rfl (by kernel_rfl) rfl rfl rfl hs32 (fun w_ hs_ => (Run.field Try.runUnderlying33 rfl rfl rfl Try.sizeOf3 rfl)) ?_
    refine WH.take 25 rfl (by kernel_rfl) rfl rfl rfl hs32 (fun w_ hs_ => (Run.loadL (hs_ : St _ _ _ _) 0 Try.isAgg3 rfl rfl rfl rfl)) ?_
    refine WH.take 26 rfl (by kernel_rfl) rfl rfl rfl hs32 (fun w_ hs_ => (Run.field Try.runUnderlying33 rfl rfl rfl Try.sizeOf3 rfl)) ?_
    refine WH.take 27 rfl (by kernel_rfl) rfl rfl rfl hs32 (fun w_ hs_ => (Run.loadL (hs_ : St _ _ _ _) 0 Try.isAgg3 rfl rfl rfl rfl)) ?_
    refine WH.take 28 rfl (by kernel_rfl) rfl rfl rfl hs32 (fun w_ hs_ => (Run.field Try.runUnderlying33 rfl rfl rfl Try.sizeOf3 rfl)) ?_
    refine WH.take 29 rfl (by kernel_rfl) rfl rfl rfl hs32 (fun w_ hs_ => (Run.loadL (hs_ : St _ _ _ _) 0 Try.isAgg3 rfl rfl rfl rfl)) ?_
    refine WH.take 30 rfl (by kernel_rfl) rfl rfl rfl hs32 (fun w_ hs_ => (Run.field Try.runUnderlying33 rfl rfl rfl Try.sizeOf3 rfl)) ?_
    refine WH.take 31 rfl (by kernel_rfl) rfl rfl rfl hs32 (fun w_ hs_ => (Run.loadL (hs_ : St _ _ _ _) 0 Try.isAgg3 rfl rfl rfl rfl)) ?_
    refine WH.take 32 rfl (by kernel_rfl) rfl rfl rfl hs32 (fun w_ hs_ => (Run.field Try.runUnderlying33 rfl rfl rfl Try.sizeOf30 rfl)) ?_
    refine WH.take 33 rfl (by kernel_rfl) rfl rfl rfl hs32 (fun w_ hs_ => (Run.loadLA (hs_ : St _ _ _ _) 0 Try.isAgg30 Try.sizeOf30 rfl rfl rfl rfl rfl)) ?_
    refine WH.take 35 rfl (by kernel_rfl) rfl rfl rfl hs32 (fun w_ hs_ => (Run.field Try.runUnderlying33 rfl rfl rfl Try.sizeOf3 rfl)) ?_
    refine WH.take 36 rfl (by kernel_rfl) rfl rfl rfl hs32 (fun w_ hs_ => (Run.loadL (hs_ : St _ _ _ _) 0 Try.isAgg3 rfl rfl rfl rfl)) ?_
    refine WH.take 37 rfl (by kernel_rfl) rfl rfl rfl hs32 (fun w_ hs_ => (Run.field Try.runUnderlying35 rfl rfl rfl Try.sizeOf25 rfl)) ?_
    refine WH.take 38 rfl (by kernel_rfl) rfl rfl rfl hs32 (fun w_ hs_ => (Run.field Try.runUnderlying25 rfl rfl rfl Try.sizeOf3 rfl)) ?_
    refine WH.take 39 rfl (by kernel_rfl) rfl rfl rfl hs32 (fun w_ hs_ => (Run.loadL (hs_ : St _ _ _ _) 1 Try.isAgg3 rfl rfl rfl rfl)) ?_
    refine WH.all [15] (by kernel_rfl) rfl (WHs.cons (i := 15) rfl ?_ WHs.nil)
    refine WL.buildF (F := encT) hs32 ([t.S.OnAlt, t.S.Wrap, t.S.NoWrap, t.S.Hide, t.P.Mark]) Try.runUnderlying148 Try.sizeOf4 Try.zeroValue4 rfl rfl rfl rfl rfl rfl rfl rfl rfl rfl rfl rfl (fun A36 c37 L33 whs34 hs34 ho35 => ?_)
    replace hs34 := St.back [_, _] hs34
    refine WL.nil ⟨(St.drop (St.perm hs34 (L' := L33 ++ _) (perm_front (A := [_, _]) (List.Perm.refl _))) (List.sublist_append_right L33 _)), ?_⟩
    refine WH.all [16] (by kernel_rfl) rfl (WHs.cons (i := 16) rfl ?_ WHs.nil)
    refine WL.call rfl rfl rfl (Run.call Try.call124 rfl rfl rfl) (c_spec_l12Flags _ _ _ _ _ (SlF.ofOwn ho35 (fun p_ hp_ => (hs34.own p_ (List.mem_append_right [_, _] (List.mem_append_left _ hp_))).1)) ?_) ?_
    · first | (first | assumption | rfl | omega) | (first | assumption | omega | exact Nat.le_refl 5)
    rintro _ whs38 ⟨rfl, hs38⟩
    replace hs38 := hs34.call0 hs38
    refine ⟨_, rfl, ?_⟩
    refine WL.nil ⟨(St.drop (St.perm hs38 (L' := L33 ++ _) (perm_front (A := [_, _]) (List.Perm.refl _))) (List.sublist_append_right L33 _)), ?_⟩
    refine WH.all [23] (by kernel_rfl) rfl (WHs.cons (i := 23) rfl ?_ WHs.nil)
    refine WL.call rfl rfl rfl (Run.call Try.call125 rfl rfl rfl) (c_spec_AttrNum _ _ _ _ _ _) ?_
    rintro _ whs39 ⟨rfl, hs39⟩
    replace hs39 := hs38.call0 hs39
    refine ⟨_, rfl, ?_⟩
    refine WL.nil ⟨(St.drop (St.perm hs39 (L' := L33 ++ _) (perm_front (A := [_, _]) (List.Perm.refl _))) (List.sublist_append_right L33 _)), ?_⟩
    refine WH.all [34] (by kernel_rfl) rfl (WHs.cons (i := 34) rfl ?_ WHs.nil)
    refine WL.call rfl rfl rfl (Run.call Try.call125 rfl rfl rfl) (c_spec_AttrNum _ _ _ _ _ _) ?_
    rintro _ whs40 ⟨rfl, hs40⟩
    replace hs40 := hs39.call0 hs40
    refine ⟨_, rfl, ?_⟩
    refine WL.nil ⟨(St.drop (St.perm hs40 (L' := L33 ++ _) (perm_front (A := [_, _]) (List.Perm.refl _))) (List.sublist_append_right L33 _)), ?_⟩
    refine WH.all [40] (by kernel_rfl) rfl (WHs.cons (i := 40) rfl ?_ WHs.nil)
    refine WL.buildF (F := encI) hs40 (([t.S.W, t.S.H, flagsL [t.S.OnAlt, t.S.Wrap, t.S.NoWrap, t.S.Hide, t.P.Mark], t.S.X, t.S.Y, attrNum ⟨t.S.A.Fg, t.S.A.Bg, t.S.A.Bold, t.S.A.Under, t.S.A.Turn⟩, t.S.Top, t.S.Bot, t.S.SaveX, t.S.SaveY, attrNum ⟨t.S.SaveA.Fg, t.S.SaveA.Bg, t.S.SaveA.Bold, t.S.SaveA.Under, t.S.SaveA.Turn⟩, t.S.Limit, t.P.State])) Try.runUnderlying22 Try.sizeOf3 Try.zeroValue3 rfl rfl rfl rfl rfl rfl rfl rfl rfl rfl rfl rfl (fun A44 c45 L41 whs42 hs42 ho43 => ?_)
    replace hs42 := St.back [_, _] hs42
    refine WL.nil ⟨(St.drop (St.perm (St.drop (St.perm hs42 (L' := L41 ++ _) (perm_front (A := [_, _]) (List.Perm.refl _))) (List.sublist_append_right L41 _)) (L' := L33 ++ _) (perm_front (A := [_, _]) (List.Perm.refl _))) (List.sublist_append_right L33 _)), ?_⟩
    refine WH.all [41] (by kernel_rfl) rfl (WHs.cons (i := 41) rfl ?_ WHs.nil)
    refine WL.call rfl rfl rfl (Run.call Try.call123 rfl rfl rfl) (c_spec_l12Nums _ _ _ _ _ _ _ _ (OwnF.nil _ _) (by simp) (SlF.ofOwn ho43 (fun p_ hp_ => (hs42.own p_ (List.mem_append_right [_, _] (List.mem_append_left _ hp_))).1)) sep_nil ?_ ?_) ?_
    · first | (exact fun x hx => (by have := hh x (hhe ▸ hx); omega)) | (first | assumption | omega | exact Nat.le_refl 5)
    · first | (simp only [List.length_cons, List.length_nil]; omega) | (first | assumption | omega | exact Nat.le_refl 5)
    rintro _ whs46 ⟨A47, c48, L1_49, rfl, hs46, ho50⟩
    replace hs46 := St.lend (A := []) hs42 hs46
    refine ⟨_, rfl, ?_⟩
    replace hs46 := St.back [_, _] hs46
    refine WL.nil ⟨(St.drop (St.perm (St.drop (St.perm (St.drop (St.perm hs46 (L' := L1_49 ++ _) (perm_front (A := [_, _]) (List.Perm.refl _))) (List.sublist_append_right L1_49 _)) (L' := L41 ++ _) (perm_front (A := [_, _]) (List.Perm.refl _))) (List.sublist_append_right L41 _)) (L' := L33 ++ _) (perm_front (A := [_, _]) (List.Perm.refl _))) (List.sublist_append_right L33 _)), ?_⟩
    refine WH.take 42 rfl (by kernel_rfl) rfl rfl rfl (St.drop (St.perm (St.drop (St.perm (St.drop (St.perm hs46 (L' := L1_49 ++ _) (perm_front (A := [_, _]) (List.Perm.refl _))) (List.sublist_append_right L1_49 _)) (L' := L41 ++ _) (perm_front (A := [_, _]) (List.Perm.refl _))) (List.sublist_append_right L41 _)) (L' := L33 ++ _) (perm_front (A := [_, _]) (List.Perm.refl _))) (List.sublist_append_right L33 _)) (fun w_ hs_ => (Run.assign rfl rfl)) ?_
    refine WH.done (by kernel_rfl) ?_
    refine hK31 _ _ ?_
    refine WC.sr ?_
    refine WL.run tbk 4 hs46 [1] rfl ⟨rfl, trivial⟩ ?_
    refine WL.call rfl rfl rfl (Run.call Try.call126 rfl rfl rfl) (c_spec_l12List _ _ _ _ _ _ _ _ ho50 (fun p_ hp_ => (hs46.own p_ (List.mem_append_right [_, _] (List.mem_append_left _ hp_))).1) (SlF.st0 f_t.P.Args hs46) (St.sep (St.perm hs46 (L' := L1_49 ++ _) (perm_front (A := [_, _]) (List.Perm.refl _))) f_t.P.Args) ?_ ?_) ?_
    · first | (first | exact fun x hx => (by have := hv3 x hx; omega) | exact fun x hx => (by have := partI_bnd x hx; omega) | exact fun x hx => (by have := htb x hx; omega)) | (first | assumption | omega | exact Nat.le_refl 5)
    · first | (first | omega | (simp only [List.length_append, List.length_nil, partI_len]; omega)) | (first | assumption | omega | exact Nat.le_refl 5)
    rintro _ whs51 ⟨A52, c53, L1_54, rfl, hs51, ho55⟩
    replace hs51 := St.lend (St.perm hs46 (L' := L1_49 ++ _) (perm_front (A := [_, _]) (List.Perm.refl _))) hs51
    refine ⟨_, rfl, ?_⟩
    replace hs51 := St.back [_, _] hs51
    refine WL.run tbk 1 hs51 [] rfl trivial ?_
    refine WL.nil ?_
    refine WC.sr ?_
    refine WL.run tbk 2 hs51 [] rfl trivial ?_
    refine WL.call rfl rfl rfl (Run.call Try.call126 rfl rfl rfl) (c_spec_l12List _ _ _ _ _ _ _ _ ho55 (fun p_ hp_ => (hs51.own p_ (List.mem_append_right [_, _] (List.mem_append_left _ hp_))).1) (SlF.ofOwn ho19 (fun p_ hp_ => (hs51.own p_ (List.mem_append_right [_, _] (List.mem_append_right _ (List.mem_append_right _ (List.mem_append_right _ (List.mem_append_left _ hp_)))))).1)) (OwnF.sep (St.perm hs51 (L' := L1_54 ++ _) (perm_front (A := [_, _]) (List.Perm.refl _))) (fun p_ hp_ => (List.mem_append_right [_, _] (List.mem_append_right _ (List.mem_append_right _ (List.mem_append_left _ hp_))))) ho19) ?_ ?_) ?_
    · first | (first | exact fun x hx => (by have := hv3 x hx; omega) | exact fun x hx => (by have := partI_bnd x hx; omega) | exact fun x hx => (by have := htb x hx; omega)) | (first | assumption | omega | exact Nat.le_refl 5)
    · first | (first | omega | (simp only [List.length_append, List.length_nil, partI_len]; omega)) | (first | assumption | omega | exact Nat.le_refl 5)
    rintro _ whs56 ⟨A57, c58, L1_59, rfl, hs56, ho60⟩
    replace hs56 := St.lend (St.perm hs51 (L' := L1_54 ++ _) (perm_front (A := [_, _]) (List.Perm.refl _))) hs56
    refine ⟨_, rfl, ?_⟩
    replace hs56 := St.back [_, _] hs56
    refine WL.run tbk 1 hs56 [] rfl trivial ?_
    refine WL.nil ?_
    refine WC.sr ?_
    refine WL.run tbk 3 hs56 [0] rfl ⟨rfl, trivial⟩ ?_
    refine WL.call rfl rfl rfl (Run.call Try.call126 rfl rfl rfl) (c_spec_l12List _ _ _ _ _ _ _ _ ho60 (fun p_ hp_ => (hs56.own p_ (List.mem_append_right [_, _] (List.mem_append_left _ hp_))).1) (SlF.st0 f_t.S.Tabs hs56) (St.sep (St.perm hs56 (L' := L1_59 ++ _) (perm_front (A := [_, _]) (List.Perm.refl _))) f_t.S.Tabs) ?_ ?_) ?_
    · first | (first | exact fun x hx => (by have := hv3 x hx; omega) | exact fun x hx => (by have := partI_bnd x hx; omega) | exact fun x hx => (by have := htb x hx; omega)) | (first | assumption | omega | exact Nat.le_refl 5)
    · first | (first | omega | (simp only [List.length_append, List.length_nil, partI_len]; omega)) | (first | assumption | omega | exact Nat.le_refl 5)
    rintro _ whs61 ⟨A62, c63, L1_64, rfl, hs61, ho65⟩
    replace hs61 := St.lend (St.perm hs56 (L' := L1_59 ++ _) (perm_front (A := [_, _]) (List.Perm.refl _))) hs61
    refine ⟨_, rfl, ?_⟩
    replace hs61 := St.back [_, _] hs61
    refine WL.run tbk 1 hs61 [] rfl trivial ?_
    refine WL.nil ?_
    refine WC.sr ?_
    refine WL.run tbk 3 hs61 [0] rfl ⟨rfl, trivial⟩ ?_
    refine WL.call rfl rfl rfl (Run.call Try.call127 rfl rfl rfl) (c_spec_CellsBytes _ _ _ _ _ (SlF.st0 f_t.S.Main.Cells hs61) ?_) ?_
    · first | (first | assumption | rfl | omega) | (first | assumption | omega | exact Nat.le_refl 5)
    rintro _ whs66 ⟨A67, c68, L1_69, rfl, hs66, ho70⟩
    replace hs66 := hs61.callF hs66
    refine ⟨_, rfl, ?_⟩
    replace hs66 := St.back [_, _] hs66
    refine WL.run tbk 5 hs66 [] rfl trivial ?_
    refine WL.nil ?_
    refine WC.sr ?_
    refine WL.run tbk 3 hs66 [0] rfl ⟨rfl, trivial⟩ ?_
    refine WL.call rfl rfl rfl (Run.call Try.call127 rfl rfl rfl) (c_spec_CellsBytes _ _ _ _ _ (SlF.st0 f_t.S.Alt.Cells hs66) ?_) ?_
    · first | (first | assumption | rfl | omega) | (first | assumption | omega | exact Nat.le_refl 5)
    rintro _ whs71 ⟨A72, c73, L1_74, rfl, hs71, ho75⟩
    replace hs71 := hs66.callF hs71
    refine ⟨_, rfl, ?_⟩
    replace hs71 := St.back [_, _] hs71
    refine WL.run tbk 5 hs71 [] rfl trivial ?_
    refine WL.nil ?_
    refine WC.sr ?_
    refine WL.run tbk 2 hs71 [] rfl trivial ?_
    refine WL.appendG (St.perm hs71 (L' := L1_64 ++ _) (perm_front (A := [_, _]) (perm_front (A := L1_74) (perm_front (A := L1_69) (List.Perm.refl _))))) ho65 (SlF.src (SlF.ofOwn ho70 (fun p_ hp_ => (hs71.own p_ (List.mem_append_right [_, _] (List.mem_append_right _ (List.mem_append_left _ hp_)))).1)) Try.underlying23) Try.underlying23 info_5 rfl rfl rfl rfl rfl rfl rfl rfl rfl rfl ?_ (fun A79 c80 L76 whs77 hs77 ho78 => ?_)
    · first | omega | (simp only [List.length_append, List.length_nil, List.length_singleton, partI_len]; omega)
    replace hs77 := St.back [_, _] hs77
    refine WL.run tbk 1 hs77 [] rfl trivial ?_
    refine WL.appendG (St.perm hs77 (L' := L76 ++ _) (perm_front (A := [_, _]) (List.Perm.refl _))) ho78 (SlF.src (SlF.ofOwn ho75 (fun p_ hp_ => (hs77.own p_ (List.mem_append_right [_, _] (List.mem_append_right _ (List.mem_append_left _ hp_)))).1)) Try.underlying23) Try.underlying23 info_5 rfl rfl rfl rfl rfl rfl rfl rfl rfl rfl ?_ (fun A84 c85 L81 whs82 hs82 ho83 => ?_)
    · first | omega | (simp only [List.length_append, List.length_nil, List.length_singleton, partI_len]; omega)
    replace hs82 := St.back [_, _] hs82
    refine WL.run tbk 1 hs82 [] rfl trivial ?_
    refine WL.nil ?_
    refine WC.sr ?_
    refine WL.run tbk 4 hs82 [0] rfl ⟨rfl, trivial⟩ ?_
    refine WL.call rfl rfl rfl (Run.call Try.call128 rfl rfl rfl) (c_spec_PutVar _ _ _ _ _ _ (SlF.ofOwn ho83 (fun p_ hp_ => (hs82.own p_ (List.mem_append_right [_, _] (List.mem_append_left _ hp_))).1)) ?_ ?_ ?_) ?_
    · first | (omega) | (first | assumption | omega | exact Nat.le_refl 5)
    · first | (omega) | (first | assumption | omega | exact Nat.le_refl 5)
    · first | (first | omega | (simp only [List.length_append, List.length_nil, partI_len, List.length_take]; omega)) | (first | assumption | omega | exact Nat.le_refl 5)
    rintro _ whs86 ⟨A87, c88, L1_89, rfl, hs86, ho90⟩
    replace hs86 := hs82.callF hs86
    refine ⟨_, rfl, ?_⟩
    replace hs86 := St.back [_, _] hs86
    refine WL.run tbk 4 hs86 [] rfl trivial ?_
    refine WL.nil ?_
    refine WC.seq (fun K91 hK91 => ?_)
    refine WC.rr tbk hs86 [0] rfl ⟨rfl, trivial⟩ ?_
    refine WC.block ?_
    refine WC.loopO [(2, _), (3, _), (19, _), (28, _), (119, _), (120, _)] ⟨rfl, rfl, rfl, rfl, rfl, rfl, trivial⟩ (St.perm hs86 (L' := L1_89 ++ _) (perm_front (A := [_, _]) (List.Perm.refl _))) (fun k_ f L_ => ∃ (zs : List UInt8) (i : Nat) (A92 : Option Addr) (c93 : Nat), k_ = t.S.Back.n - i ∧ (i ≤ t.S.Back.n) ∧ (zs = [] ++ numsL ([t.S.W, t.S.H, flagsL [t.S.OnAlt, t.S.Wrap, t.S.NoWrap, t.S.Hide, t.P.Mark], t.S.X, t.S.Y, attrNum ⟨t.S.A.Fg, t.S.A.Bg, t.S.A.Bold, t.S.A.Under, t.S.A.Turn⟩, t.S.Top, t.S.Bot, t.S.SaveX, t.S.SaveY, attrNum ⟨t.S.SaveA.Fg, t.S.SaveA.Bg, t.S.SaveA.Bold, t.S.SaveA.Under, t.S.SaveA.Turn⟩, t.S.Limit, t.P.State]) ++ varL t.P.Args.xs.length ++ numsL t.P.Args.xs ++ varL (partI t.P.Part.xs).length ++ numsL (partI t.P.Part.xs) ++ varL t.S.Tabs.xs.length ++ numsL t.S.Tabs.xs ++ cellsOut t.S.Main.Cells.xs ++ cellsOut t.S.Alt.Cells.xs ++ varL ((t.S.Back.n : Int)).toNat ++ rowsL ((t.S.Back.xs.take i).map RowR.dat)) ∧ OwnF encB 5 (.slice A92 (zs.length) c93) (zs) L_ ∧ Sub [(8, .slice A92 (zs.length) c93), (121, .int .i64 i)] f) (t.S.Back.n) ?_ ?_
    ·refine ⟨[] ++ numsL ([t.S.W, t.S.H, flagsL [t.S.OnAlt, t.S.Wrap, t.S.NoWrap, t.S.Hide, t.P.Mark], t.S.X, t.S.Y, attrNum ⟨t.S.A.Fg, t.S.A.Bg, t.S.A.Bold, t.S.A.Under, t.S.A.Turn⟩, t.S.Top, t.S.Bot, t.S.SaveX, t.S.SaveY, attrNum ⟨t.S.SaveA.Fg, t.S.SaveA.Bg, t.S.SaveA.Bold, t.S.SaveA.Under, t.S.SaveA.Turn⟩, t.S.Limit, t.P.State]) ++ varL t.P.Args.xs.length ++ numsL t.P.Args.xs ++ varL (partI t.P.Part.xs).length ++ numsL (partI t.P.Part.xs) ++ varL t.S.Tabs.xs.length ++ numsL t.S.Tabs.xs ++ cellsOut t.S.Main.Cells.xs ++ cellsOut t.S.Alt.Cells.xs ++ varL ((t.S.Back.n : Int)).toNat, 0, _, _, rfl, ?_, ?_, ho90, ⟨rfl, rfl, trivial⟩⟩
     · exact Nat.zero_le _
     · simp [rowsL]
    ·clear hs86
     rintro _ f w L94 ⟨zs, i, A92, c93, rfl, r0, r1, ho95, hG⟩ hF hs96
     refine WC.sub _ (hG.app hF) ?_
     clear hG hF
     replace hs96 := St.back [_, _] hs96
     have hz2 : zs.length ≤ 20000000 := by rw [r1]; have q8 := rowsL_len (b := (t.S.Back.xs.take i).map RowR.dat) (fun r hr => hrw r (by obtain ⟨y, hy, rfl⟩ := List.mem_map.1 hr; exact List.mem_map_of_mem (List.mem_of_mem_take hy))); rw [List.length_map, List.length_take] at q8; rw [hhe]; simp only [List.length_append, List.length_nil, partI_len]; omega
     refine WC.rr tbk hs96 [] rfl trivial ?_
     refine WC.seq (fun K97 hK97 => ?_)
     refine WC.cond rfl (fun h98 => ?_) (fun h98 => ?_)
     ·have qh98 := h98
      try simp only [bf, within_iff, within_not] at qh98
      have hrk := rowOk_cells (hrw (RowR.dat (gat encRowR t.S.Back.xs i)) (List.mem_map_of_mem (gat_mem (by omega))))
      have hrc1 : (gat encRowR t.S.Back.xs i).Cells.xs.length ≤ 120 := hrk.1
      have hrn := (SlN.nth f_t.S.Back (show i < t.S.Back.n by omega)).Cells.len
      have hco : cellsOut (gat encRowR t.S.Back.xs i).Cells.xs = cellsB (gat encRowR t.S.Back.xs i).Cells.xs := cellsOut_ok (by omega) hrk.2
      have w5 := varL_len (((gat encRowR t.S.Back.xs i).Cells.n : Int)).toNat (by omega)
      have z6 := cellsOut_len (gat encRowR t.S.Back.xs i).Cells.xs
      refine WC.skip ?_
      refine hK97 _ _ ?_
      refine WC.seq (fun K99 hK99 => ?_)
      refine WC.block ?_
      refine WC.sr ?_
      refine WL.val rfl rfl rfl (Run.idxN Try.runUnderlying31 Try.sizeOf98 rfl rfl rfl ?_ ?_ ?_) ?_
      · exact SlF.some_ (SlF.st0 f_t.S.Back.sl hs96)
      · omega
      · omega
      refine WL.val rfl rfl rfl (Run.loadA Try.isAgg98 Try.sizeOf98 rfl rfl (SlF.whole (SlF.st0 f_t.S.Back.sl hs96) ?_)) ?_
      · omega
      refine WL.al hs96 Try.zeroValue98 rfl rfl (fun b100 _ hs101 => ?_)
      refine WL.st tbk hs101 0 rfl rfl (fun _ hs102 => ?_)
      refine WL.nil ?_
      refine WC.sr ?_
      refine WL.run tbk 2 hs102 [0] rfl ⟨rfl, trivial⟩ ?_
      refine WL.call rfl rfl rfl (Run.call Try.call127 rfl rfl rfl) (c_spec_CellsBytes _ _ _ _ _ (SlF.st0 (SlN.nth f_t.S.Back (by omega)).Cells hs102) ?_) ?_
      · first | (first | assumption | rfl | omega) | (first | assumption | omega | exact Nat.le_refl 5)
      rintro _ whs103 ⟨A104, c105, L1_106, rfl, hs103, ho107⟩
      replace hs103 := hs102.callF hs103
      refine ⟨_, rfl, ?_⟩
      replace hs103 := St.back [_, _, _] hs103
      refine WL.run tbk 5 hs103 [] rfl trivial ?_
      refine WL.nil ?_
      refine WC.sr ?_
      refine WL.run tbk 4 hs103 [0] rfl ⟨rfl, trivial⟩ ?_
      refine WL.call rfl rfl rfl (Run.call Try.call128 rfl rfl rfl) (c_spec_PutVar _ _ _ _ _ _ (SlF.ofOwn ho95 (fun p_ hp_ => (hs103.own p_ (List.mem_append_right [_, _, _] (List.mem_append_right _ (List.mem_append_left _ hp_)))).1)) ?_ ?_ ?_) ?_
      · first | (omega) | (first | assumption | omega | exact Nat.le_refl 5)
      · first | (omega) | (first | assumption | omega | exact Nat.le_refl 5)
      · first | (first | omega | (simp only [List.length_append, List.length_nil, partI_len, List.length_take]; omega)) | (first | assumption | omega | exact Nat.le_refl 5)
      rintro _ whs108 ⟨A109, c110, L1_111, rfl, hs108, ho112⟩
      replace hs108 := hs103.callF hs108
      refine ⟨_, rfl, ?_⟩
      replace hs108 := St.back [_, _, _] hs108
      refine WL.run tbk 4 hs108 [] rfl trivial ?_
      refine WL.nil ?_
      refine WC.region ?_
      refine WL.run tbk 2 hs108 [] rfl trivial ?_
      refine WL.appendG (St.perm hs108 (L' := L1_111 ++ _) (perm_front (A := [_, _, _]) (List.Perm.refl _))) ho112 (SlF.src (SlF.ofOwn ho107 (fun p_ hp_ => (hs108.own p_ (List.mem_append_right [_, _, _] (List.mem_append_right _ (List.mem_append_left _ hp_)))).1)) Try.underlying23) Try.underlying23 info_5 rfl rfl rfl rfl rfl rfl rfl rfl rfl rfl ?_ (fun A116 c117 L113 whs114 hs114 ho115 => ?_)
      · first | omega | (simp only [List.length_append, List.length_nil, List.length_singleton, partI_len]; omega)
      replace hs114 := St.back [_, _, _] hs114
      refine WL.run tbk 1 hs114 [] rfl trivial ?_
      refine WL.nil ?_
      refine hK99 _ _ ?_
      refine WC.region ?_
      refine WL.run tbk 2 hs114 [] rfl ⟨by omega, trivial⟩ ?_
      refine WL.nil ?_
      refine tkN ?_
      replace hs114 := St.drop hs114 (List.sublist_append_right [_] _)
      replace hs114 := St.drop (St.perm hs114 (L' := L1_106 ++ _) (perm_front (A := [_, _]) (perm_front (A := L113) (List.Perm.refl _)))) (List.sublist_append_right L1_106 _)
      replace hs114 := St.drop (St.perm hs114 (L' := L94 ++ _) (perm_front (A := [_, _]) (perm_front (A := L113) (List.Perm.refl _)))) (List.sublist_append_right L94 _)
      refine ⟨⟨rfl, rfl, rfl, rfl, rfl, rfl, trivial⟩, _, (St.perm hs114 (L' := L113 ++ _) (perm_front (A := [_, _]) (List.Perm.refl _))), _, ?_, _, i + 1, _, _, rfl, ?_, ?_, ho115, ⟨rfl, rfl, trivial⟩⟩
      · omega
      · omega
      · rw [r1, rowsL_take (by omega), hco, hrn]; simp only [List.append_assoc, Int.toNat_natCast, List.nil_append]; try rfl
     ·have qh98 := h98
      try simp only [bf, within_iff, within_not] at qh98
      have hzl : zs = termL t.dat := by rw [r1, List.take_of_length_le (by omega), hhe, hcm, hca]; unfold termL; simp only [Int.toNat_natCast, List.append_assoc, List.nil_append, partI_len]; have e_ : t.dat.S.Back.length = t.S.Back.n := (List.length_map _).trans nl_t_S_Back; rw [e_]; rfl
      refine WC.exit ?_
      refine hK91 _ _ ?_
      refine WC.seq (fun K118 hK118 => ?_)
      refine WC.rr tbk hs96 [] rfl trivial ?_
      refine WC.cond rfl (fun h119 => ?_) (fun h119 => ?_)
      ·have qh119 := h119
       try simp only [bf, within_iff, within_not] at qh119
       have hf : termFine t.dat = false := by unfold termFine; rw [hok, Bool.true_and, decide_eq_false_iff_not]; rw [← hzl]; have h9 := qh119; omega
       refine WC.rr tbk hs96 [] rfl trivial ?_
       refine WC.ret ?_
       refine tkR ?_
       clear hK118
       refine retV2 rfl (resV.tmp rfl) (resV.tmp rfl) ?_
       rw [hf]
       have hx_ := OwnF.eqOf (xs := termOut t.dat) (OwnF.nil encB 5) (by simp [termOut, hf])
       rw [← hx_]
       exact ⟨_, _, _, rfl, hs96.nil, (OwnF.nil encB 5)⟩
      ·have qh119 := h119
       try simp only [bf, within_iff, within_not] at qh119
       have hf : termFine t.dat = true := by unfold termFine; rw [hok, Bool.true_and, decide_eq_true_eq]; rw [← hzl]; have h9 := qh119; omega
       refine WC.skip ?_
       refine hK118 _ _ ?_
       refine WC.rr tbk hs96 [] rfl trivial ?_
       refine WC.ret ?_
       refine retV2 rfl (resV.tmp rfl) (resV.tmp rfl) ?_
       rw [hf]
       have hx_ := OwnF.eqOf (xs := termOut t.dat) ho95 (by unfold termOut; rw [hf, hzl]; rfl)
       rw [← hx_]
       first | exact ⟨_, _, _, rfl, (St.keep1 (St.perm hs96 (L' := L94 ++ _) (perm_front (A := [_, _]) (List.Perm.refl _)))), ho95⟩ | exact ⟨A92, c93, _, by rw [OwnF.len_ ho95], (St.keep1 (St.perm hs96 (L' := L94 ++ _) (perm_front (A := [_, _]) (List.Perm.refl _)))), by rw [OwnF.len_ ho95]; exact ho95⟩
end Go.Proofs.Ytlmcekfdlgkffaa
