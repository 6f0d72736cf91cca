/-
  The statement: for every input the law returns true. No condition. (And what it stands on, the last part.)
-/
import Derived.Test.YtjmegoiclgancaaGreatKF6
namespace Go.Proofs.YtjmegoiclgancaaGreat
open Go Go.RowKit
set_option linter.unusedVariables false
set_option linter.unusedSimpArgs false
theorem k155_ (t : TermR) (A_b : Option Addr) (n_b c_b : Nat) (b : List UInt8) (w : World) (f_t : okTermR 549755813888 w t) (f_b : SlF encB w A_b n_b b) (hsm : smTerm 1048576 t.dat) (hn : n_b ≤ 1048576) :
    Calls Tryz.prog 48 #[.agg #[i64 t.P.State, .bool t.P.Mark, .slice t.P.Args.A t.P.Args.n t.P.Args.c, .slice t.P.Part.A t.P.Part.n t.P.Part.c, i64 t.S.W, i64 t.S.H, i64 t.S.Main.W, i64 t.S.Main.H, .slice t.S.Main.Cells.A t.S.Main.Cells.n t.S.Main.Cells.c, i64 t.S.Alt.W, i64 t.S.Alt.H, .slice t.S.Alt.Cells.A t.S.Alt.Cells.n t.S.Alt.Cells.c, .bool t.S.OnAlt, i64 t.S.X, i64 t.S.Y, .bool t.S.Wrap, i64 t.S.A.Fg, i64 t.S.A.Bg, .bool t.S.A.Bold, .bool t.S.A.Under, .bool t.S.A.Turn, i64 t.S.Top, i64 t.S.Bot, .bool t.S.NoWrap, .bool t.S.Hide, i64 t.S.SaveX, i64 t.S.SaveY, i64 t.S.SaveA.Fg, i64 t.S.SaveA.Bg, .bool t.S.SaveA.Bold, .bool t.S.SaveA.Under, .bool t.S.SaveA.Turn, .slice t.S.Tabs.A t.S.Tabs.n t.S.Tabs.c, i64 t.S.Limit, .slice t.S.Back.A t.S.Back.n t.S.Back.c], .slice A_b n_b c_b] w fun e w' => ∃ r L1, e = .returned (.agg #[i64 r.P.State, .bool r.P.Mark, .slice r.P.Args.A r.P.Args.n r.P.Args.c, .slice r.P.Part.A r.P.Part.n r.P.Part.c, i64 r.S.W, i64 r.S.H, i64 r.S.Main.W, i64 r.S.Main.H, .slice r.S.Main.Cells.A r.S.Main.Cells.n r.S.Main.Cells.c, i64 r.S.Alt.W, i64 r.S.Alt.H, .slice r.S.Alt.Cells.A r.S.Alt.Cells.n r.S.Alt.Cells.c, .bool r.S.OnAlt, i64 r.S.X, i64 r.S.Y, .bool r.S.Wrap, i64 r.S.A.Fg, i64 r.S.A.Bg, .bool r.S.A.Bold, .bool r.S.A.Under, .bool r.S.A.Turn, i64 r.S.Top, i64 r.S.Bot, .bool r.S.NoWrap, .bool r.S.Hide, i64 r.S.SaveX, i64 r.S.SaveY, i64 r.S.SaveA.Fg, i64 r.S.SaveA.Bg, .bool r.S.SaveA.Bold, .bool r.S.SaveA.Under, .bool r.S.SaveA.Turn, .slice r.S.Tabs.A r.S.Tabs.n r.S.Tabs.c, i64 r.S.Limit, .slice r.S.Back.A r.S.Back.n r.S.Back.c]) ∧ St w [] L1 w' ∧ ownTermR r L1 ∧ r.dat = termFeedRes t.dat b := by
 have nb_t_P_Args := f_t.P.Args_n
 have nl_t_P_Args := f_t.P.Args.len
 have nb_t_P_Part := f_t.P.Part_n
 have nl_t_P_Part := f_t.P.Part.len
 have nb_t_S_Main_Cells := f_t.S.Main.Cells_n
 have nl_t_S_Main_Cells := f_t.S.Main.Cells.len
 have nb_t_S_Alt_Cells := f_t.S.Alt.Cells_n
 have nl_t_S_Alt_Cells := f_t.S.Alt.Cells.len
 have nb_t_S_Tabs := f_t.S.Tabs_n
 have nl_t_S_Tabs := f_t.S.Tabs.len
 have nb_t_S_Back := f_t.S.Back_n
 have nl_t_S_Back := f_t.S.Back.sl.len
 have hsmB : smTerm 549755813888 t.dat := smTerm_mono hsm (by decide)
 have hbl := f_b.len
 refine enter 37 Tryz.func48 rfl Tryz.ntmps48 rfl rfl ?_
 have hs1 := St.init w
 refine WC.sr (WL.bx hs1 rfl (fun b2 _ hs3 => WL.al hs3 Tryz.zeroValue35 rfl rfl (fun b4 _ hs5 => WL.nil (WC.seq (fun K6 hK6 => WC.sr (WL.r 1 hs5 [1] rfl (WL.cl Tryz.call105 rfl (k121_ t _ (okTermR.st0 f_t hs5)) ?_)))))))
 rintro _ whs7 ⟨rfl, hs7⟩
 replace hs7 := hs5.call0 hs7
 refine ⟨_, rfl, WL.r 1 hs7 [] rfl (WL.nil (WC.cq rfl (fun h8 qh8 => ?_) (fun h8 qh8 => ?_)))⟩
 ·have hok : termOk t.dat = false := by have h9 := h8; simpa using h9
  refine WC.sr ?_
  refine WL.val rfl rfl rfl (Run.build rfl rfl rfl rfl (built_35)) (WL.st tbk hs7 0 rfl rfl (fun _ hs9 => WL.nil (WC.ret (tkR ?_))))
  clear hK6
  refine retV1 rfl (resV.cellA tbk hs9 0 rfl rfl rfl rfl) ?_
  obtain ⟨L17, hs16, ho18⟩ := ownTermR.fl hs9 (OwnF.nil _ _) (OwnF.nil _ _) (OwnF.nil _ _) (OwnF.nil _ _) (OwnF.nil _ _) (OwnN.nil _ _ _)
  have hs19 := ((hs16.fb b2).fb b4)
  refine ownTermR.ret rfl (St.keep1 (hs19.fr L17)) ho18 ?_
  · unfold termFeedRes; rw [hok]; rfl
 have hok : termOk t.dat = true := by have h9 := h8; simpa using h9
 obtain ⟨hv, hs⟩ := termOk_P hok
 have hargs := vpParse_args (l := b) hv
 refine WC.skip (hK6 _ _ (WC.sr (WL.r 3 hs7 [1] rfl ?_)))
 refine WL.cl Tryz.call87 rfl (k118_ t.P _ _ _ _ _ (okVpR.st0 f_t.P hs7) (SlF.st0 f_b hs7) ?_ ?_) ?_
 iterate 2 first | assumption | rfl | omega | exact hsm.1 | exact hsm.2
 rintro _ whs20 ⟨r0_21, L0_22, A1_23, c1_24, x1_25, L1_26, rfl, hs20, ho27, ho28, hd0_29, hd1_30⟩
 replace hs20 := hs7.callF hs20
 refine ⟨_, rfl, ?_⟩
 replace hs20 := St.assoc hs20
 replace hs20 := St.back2 [_, _] hs20
 have hpe : vpBytes t.P.dat b = vpParse t.P.dat b := by unfold vpBytes; exact if_pos hv
 have hpp : r0_21.dat = (vpParse t.P.dat b).1 := by rw [← hpe]; exact hd0_29
 have hpx : x1_25.map ActR.dat = (vpParse t.P.dat b).2 := by rw [← hpe]; exact hd1_30
 have s1 : ∀ y, y ∈ x1_25.map ActR.dat → smAct 549755813888 y := by rw [hpx]; exact fun y hy => Nat.le_trans (areArgs_iff.1 (hargs y hy)).1 (by decide)
 have hxl : x1_25.length ≤ 1048576 := by have h9 := congrArg List.length hpx; rw [List.length_map] at h9; have h8 := vpParse_len (v := t.P.dat) (l := b); omega
 refine WL.r 3 hs20 [] rfl (WL.al hs20 Tryz.zeroValue25 rfl rfl (fun b31 _ hs32 => WL.st tbk hs32 0 rfl rfl (fun _ hs33 => WL.r 1 hs33 [] rfl (WL.nil (WC.sr (WL.r 2 hs33 [2] rfl ?_))))))
 refine WL.cl Tryz.call64 rfl (k45_ t.S _ (okScrR.st0 f_t.S hs33) ?_) ?_
 · first | assumption | rfl | omega | exact hsm.1 | exact hsm.2
 rintro _ whs34 ⟨r35, L1_36, rfl, hs34, ho37, hd38⟩
 replace hs34 := hs33.callF hs34
 refine ⟨_, rfl, ?_⟩
 replace hs34 := St.back [_, _, _] hs34
 skip
 refine WL.al hs34 Tryz.zeroValue33 rfl rfl (fun b39 _ hs40 => WL.st tbk hs40 0 rfl rfl (fun _ hs41 => WL.nil (WC.seq (fun K42 hK42 => WC.r1 hs41 [] rfl (WC.block ?_)))))
 have hM47 := (St.grp1 (L1 := L1_36) [_] (((((((hs41.fr L1_26).fr L0_22).fb b2).fb b4).fb b31).fr L1_36).fb b39))
 refine WC.lV [4, 5, 7, 12, 24, 25] rfl hM47 (fun k_ (a_ : Hp) f => ∃ (i : Nat) (r : ScrR) (L45 : Hp), k_ = x1_25.length - i ∧ a_ = [(b39, .cells (List.toArray (cScr r)) 33 (0, 0))] ++ L45 ∧ (i ≤ x1_25.length) ∧ (r.dat = actsD t.S.dat ((x1_25.take i).map ActR.dat)) ∧ ownScrR r L45 ∧ Sub [(26, .int .i64 i)] f) (((fun (i : Nat) => x1_25.length - i) (0))) ?_ ?_
 ·refine ⟨0, r35, L1_36, rfl, rfl, ?_, ?_, ho37, ⟨rfl, trivial⟩⟩
  · exact Nat.zero_le _
  · exact hd38
 rintro _ _ f w ⟨i, r, L45, rfl, rfl, p0, p1, ho46, hG⟩ hF hs48
 refine WC.sub _ (hG.app hF) ?_
 clear hG hF
 replace hs48 := St.ungrp1 [_] hs48
 have hs49 := ((((hs48.fb b2).fb b4).fb b31).fb b39)
 have hfr : ScrFine r.dat := by rw [p1]; exact (ScrFine.of hs).acts (acts_take hpx hargs)
 have hsmr : smScr 549755813888 r.dat := fine_smB hfr (by decide)
 have hsm1 : smScr 1048576 r.dat := fine_smB hfr (by decide)
 refine WC.r1 hs49 [] rfl (WC.seq (fun K50 hK50 => ?_))
 refine WC.cq rfl (fun h51 qh51 => ?_) (fun h51 qh51 => ?_)
 ·have hil : i < x1_25.length := by have h9 := h51; simp at h9; omega
  have haa : areArgs (gat encActR x1_25 i).dat.Args = true := acts_gat hpx hargs hil
  have hanA := (SlN.nth (OwnN.ok ho28 (hs49.ow L1_26) (fun y Li hy h3 hl => h3.ok hl (by have h9_ := List.mem_map_of_mem (f := ActR.dat) hy; first | exact s1 _ h9_))) hil).Args_n
  refine WC.skip (hK50 _ _ (WC.seq (fun K52 hK52 => WC.block (WC.sr ?_))))
  refine WL.val rfl rfl rfl (Run.idxN Tryz.runUnderlying126 Tryz.sizeOf59 rfl rfl rfl ?_ ?_ ?_) ?_
  · exact SlF.some_ (OwnN.sl ho28 (hs49.ow L1_26))
  · omega
  · omega
  refine WL.val rfl rfl rfl (Run.loadA Tryz.isAgg59 Tryz.sizeOf59 rfl rfl (SlF.whole (OwnN.sl ho28 (hs49.ow L1_26)) ?_)) ?_
  · omega
  refine WL.al hs49 Tryz.zeroValue59 rfl rfl (fun b53 _ hs54 => WL.st tbk hs54 0 rfl rfl (fun _ hs55 => WL.nil (WC.region (WL.r 2 hs55 [1, 0] rfl ?_))))
  refine WL.cl Tryz.call41 rfl (k99_ r (gat encActR x1_25 i) _ (ownScrR.ok (B := 549755813888) ho46 (hs55.ow L45) hsmr) (SlN.nth (OwnN.ok ho28 (hs55.ow L1_26) (fun y Li hy h3 hl => h3.ok hl (by have h9_ := List.mem_map_of_mem (f := ActR.dat) hy; first | exact s1 _ h9_))) (by omega)) ?_) ?_
  · first | assumption | rfl | omega | exact hsm.1 | exact hsm.2
  rintro _ whs56 ⟨r57, L1_58, rfl, hs56, ho59, hd60⟩
  replace hs56 := hs55.callF hs56
  refine ⟨_, rfl, ?_⟩
  replace hs56 := St.back [_, _, _, _, _] hs56
  refine WL.st tbk hs56 1 rfl rfl (fun _ hs61 => WL.nil (hK52 _ _ (WC.region (WL.r 2 hs61 [] rfl (WL.nil (tkN ?_))))))
  replace hs61 := (hs61.d1.rm L45)
  have hF62 := (St.grp1 (L1 := L1_58) [_] (((((((hs61.fr L1_26).fr L0_22).fb b2).fb b4).fb b31).fr L1_58).fb b39))
  refine ⟨sbF rfl, _, hF62, _, ?_, i + 1, r57, L1_58, rfl, rfl, ?_, ?_, ho59, ⟨rfl, trivial⟩⟩
  · omega
  · omega
  · rw [actsD_next (by omega), ← p1]; exact hd60.trans (act_res hfr haa)
 have hil : i = x1_25.length := by have h9 := h51; simp at h9; omega
 have hfin : r.dat = actsD t.S.dat (vpParse t.P.dat b).2 := by rw [p1, hil, List.take_length, hpx]
 refine WC.exit (hK42 _ _ (WC.sr (WL.r 2 hs49 [1, 0] rfl ?_)))
 refine WL.val rfl rfl rfl (Run.build rfl rfl rfl rfl (built_35_0_1 _ _ _ _ _ _ _ _ _ _ _ _ _ _ _ _ _ _ _ _ _ _ _ _ _ _ _ _ _ _ _ _ _ _ _)) (WL.st tbk hs49 2 rfl rfl (fun _ hs63 => WL.nil (WC.ret (retV1 rfl (resV.cellA tbk hs63 2 rfl rfl rfl rfl) ?_))))
 obtain ⟨L64, L65, hs68, ho66, ho67⟩ := ownVpR.op hs63 ho27
 have hs69 := ((((hs68.fb b2).fb b4).fb b31).fb b39)
 obtain ⟨L70, L71, L72, L73, hs78, ho74, ho75, ho76, ho77⟩ := ownScrR.op hs69 ho46
 have hs79 := ((((hs78.fb b2).fb b4).fb b31).fb b39)
 obtain ⟨L81, hs80, ho82⟩ := ownTermR.fl hs79 ho66 ho67 ho74 ho75 ho76 ho77
 have hs83 := ((((hs80.fb b2).fb b4).fb b31).fb b39)
 refine ownTermR.ret rfl (St.keep1 (hs83.fr L81)) ho82 ?_
 · unfold termFeedRes; rw [if_pos hok]; exact TermD.ext' hpp hfin
theorem vpParse_append : ∀ {a b : List UInt8} {v : VpD}, vpParse v (a ++ b) = ((vpParse (vpParse v a).1 b).1, (vpParse v a).2 ++ (vpParse (vpParse v a).1 b).2)
 | [], b, v => by
  show vpParse v b = ((vpParse v b).1, [] ++ (vpParse v b).2)
  rw [List.nil_append]
 | y :: r, b, v => by
  have h := vpParse_append (a := r) (b := b) (v := (vpStep v y.toNat).1)
  show ((vpParse _ (r ++ b)).1, _ ++ (vpParse _ (r ++ b)).2) = (_, (_ ++ _) ++ _)
  rw [h, List.append_assoc]; rfl
theorem termFeed_append {t : TermD} {a b : List UInt8} (h : termOk t = true) : termFeedRes (termFeedRes t a) b = termFeedRes t (a ++ b) := by
 have h2 := termFeed_ok (b := a) h
 have e : termFeedRes t a = ⟨(vpParse t.P a).1, actsD t.S (vpParse t.P a).2⟩ := by unfold termFeedRes; exact if_pos h
 have e2 : termFeedRes (termFeedRes t a) b = ⟨(vpParse (termFeedRes t a).P b).1, actsD (termFeedRes t a).S (vpParse (termFeedRes t a).P b).2⟩ := by
  rw [show termFeedRes (termFeedRes t a) b = _ from by unfold termFeedRes; rfl]
  show (if termOk (termFeedRes t a) = true then _ else _) = _
  exact if_pos h2
 have e3 : termFeedRes t (a ++ b) = ⟨(vpParse t.P (a ++ b)).1, actsD t.S (vpParse t.P (a ++ b)).2⟩ := by unfold termFeedRes; exact if_pos h
 rw [e2, e3, e, vpParse_append]
 unfold actsD
 rw [List.foldl_append]
theorem same_acts : ∀ {l : List ActD} {s : ScrD}, Small s → (∀ a, a ∈ l → areArgs a.Args = true) → Small (actsD s l)
 | [], _, h, _ => h
 | a :: r, s, h, ha => same_acts (l := r) (h.of (same_act h.fine) (h.fine.act (ha a List.mem_cons_self))) (fun b hb => ha b (List.mem_cons_of_mem _ hb))
structure SmallT (t : TermD) : Prop where
 v : vpOk t.P = true
 s : Small t.S
theorem SmallT.ok {t : TermD} (h : SmallT t) : termOk t = true := by unfold termOk; rw [h.v, h.s.fine.ok]; rfl
theorem SmallT.feed {t : TermD} {b : List UInt8} (h : SmallT t) : SmallT (termFeedRes t b) := by
 unfold termFeedRes
 rw [if_pos h.ok]
 exact ⟨vpParse_ok h.v, same_acts h.s (vpParse_args h.v)⟩
theorem SmallT.len {t : TermD} (h : SmallT t) : 1 ≤ (termL t).length ∧ (termL t).length ≤ 40000 := by
 have hok := h.ok
 obtain ⟨h1, h2⟩ := termOk_P hok
 obtain ⟨hgm, hga⟩ := scrOk_main h2
 obtain ⟨hm1, hm2⟩ := gridOk_cells hgm
 obtain ⟨ha1, ha2⟩ := gridOk_cells hga
 have f := h.s.fine
 have d := f.dim
 have lm := grid_len hgm
 have la := grid_len hga
 have bs := isSize_bnd f.size
 have hw := h.s.w
 have hh := h.s.h
 have hl := h.s.l
 have hmul : t.S.W * t.S.H ≤ 10 * 4 := Int.mul_le_mul hw hh (by omega) (by omega)
 rw [d.1, d.2.1] at lm
 rw [d.2.2.1, d.2.2.2] at la
 have q0 := numsL_len (l := headL t) (fun x hx => by have := (headL_bnd hok x hx).2; omega)
 have hv := vpOk_len h1
 have q1 := numsL_len (l := t.P.Args) (fun x hx => by have := ((vpOk_bnd h1).2.2 x hx).2; omega)
 have q2 := numsL_len (l := partI t.P.Part) (fun x hx => by have := (partI_bnd x hx).2; omega)
 have q3 := numsL_len (l := t.S.Tabs) (fun x hx => by have := (scrOk_tabs h2 x hx).2; omega)
 have ht := asc_len (by omega) (by omega) f.tab
 have c1 := cellsB_len hm1 hm2
 have c2 := cellsB_len ha1 ha2
 have r1 := rowsL_len (scrOk_rows h2)
 have hb := f.lim.2
 rw [partI_len] at q2
 have w1 := varL_len t.P.Args.length (by omega)
 have w2 := varL_len t.P.Part.length (by omega)
 have w3 := varL_len t.S.Tabs.length (by omega)
 have w4 := varL_len t.S.Back.length (by omega)
 have hd : (headL t).length = 13 := rfl
 have wp : 1 ≤ (varL t.S.Back.length).length := by
  unfold varL
  split <;> simp
 unfold termL
 simp only [List.length_append]
 omega
theorem SmallT.fine {t : TermD} (h : SmallT t) : termFine t = true := by
 unfold termFine
 rw [h.ok, Bool.true_and, decide_eq_true_eq]
 exact h.len.2
theorem SmallT.out {t : TermD} (h : SmallT t) : 1 ≤ (termOut t).length := by
 unfold termOut
 rw [if_pos h.fine]
 exact h.len.1
theorem SmallT.new {w h l : Int} (hw : 1 ≤ w ∧ w ≤ 10) (hh : 1 ≤ h ∧ h ≤ 4) (hl : 0 ≤ l ∧ l ≤ 3) : SmallT (termRes w h l) := ⟨show vpOk vp0 = true by decide, Small.new hw hh hl⟩
theorem SmallT.sm {t : TermD} {B : Nat} (h : SmallT t) (hB : 20230 ≤ B) : smTerm B t := ⟨⟨by have := vpOk_len h.v; omega, by have := vpOk_len h.v; omega⟩, fine_smB h.s.fine (by omega)⟩
theorem built_35_1 (x0 : Value) (x1 : Value) (x2 : Value) (x3 : Value) (x4 : Value) (x5 : Value) (x6 : Value) (x7 : Value) (x8 : Value) (x9 : Value) (x10 : Value) (x11 : Value) (x12 : Value) (x13 : Value) (x14 : Value) (x15 : Value) (x16 : Value) (x17 : Value) (x18 : Value) (x19 : Value) (x20 : Value) (x21 : Value) (x22 : Value) (x23 : Value) (x24 : Value) (x25 : Value) (x26 : Value) (x27 : Value) (x28 : Value) (x29 : Value) (x30 : Value) : Tryz.prog.built 35 [(1, .agg [x0, x1, x2, x3, x4, x5, x6, x7, x8, x9, x10, x11, x12, x13, x14, x15, x16, x17, x18, x19, x20, x21, x22, x23, x24, x25, x26, x27, x28, x29, x30].toArray)] = some (List.toArray [.int .i64 0, .bool false, .slice none 0 0, .slice none 0 0, x0, x1, x2, x3, x4, x5, x6, x7, x8, x9, x10, x11, x12, x13, x14, x15, x16, x17, x18, x19, x20, x21, x22, x23, x24, x25, x26, x27, x28, x29, x30]) := by kernel_rfl
set_option maxHeartbeats 4000000 in
theorem k156_ (b_c : Nat) (A_s : Option Addr) (n_s c_s : Nat) (s : List UInt8) (i h : Int)  (w : World) (hc : w.heap[b_c]? = some (Obj.cells (List.toArray [.slice A_s n_s c_s, i64 (i), i64 (h)]) 152 (0, 0))) (f_s : SlF encB w A_s n_s s) (s_s : 0 < n_s → (adr A_s).block ∉ [b_c]) (hn : n_s ≤ 1099511627776) (hi : 0 ≤ i ∧ i ≤ n_s) :
    Calls Tryz.prog 104 #[.pointer (some ⟨b_c, 0, none⟩)] w fun e w' => ∃ r L1 i' h', e = .returned (.agg #[i64 r.P.State, .bool r.P.Mark, .slice r.P.Args.A r.P.Args.n r.P.Args.c, .slice r.P.Part.A r.P.Part.n r.P.Part.c, i64 r.S.W, i64 r.S.H, i64 r.S.Main.W, i64 r.S.Main.H, .slice r.S.Main.Cells.A r.S.Main.Cells.n r.S.Main.Cells.c, i64 r.S.Alt.W, i64 r.S.Alt.H, .slice r.S.Alt.Cells.A r.S.Alt.Cells.n r.S.Alt.Cells.c, .bool r.S.OnAlt, i64 r.S.X, i64 r.S.Y, .bool r.S.Wrap, i64 r.S.A.Fg, i64 r.S.A.Bg, .bool r.S.A.Bold, .bool r.S.A.Under, .bool r.S.A.Turn, i64 r.S.Top, i64 r.S.Bot, .bool r.S.NoWrap, .bool r.S.Hide, i64 r.S.SaveX, i64 r.S.SaveY, i64 r.S.SaveA.Fg, i64 r.S.SaveA.Bg, .bool r.S.SaveA.Bold, .bool r.S.SaveA.Under, .bool r.S.SaveA.Turn, .slice r.S.Tabs.A r.S.Tabs.n r.S.Tabs.c, i64 r.S.Limit, .slice r.S.Back.A r.S.Back.n r.S.Back.c]) ∧ St w [b_c] ((b_c, Obj.cells (List.toArray [.slice A_s n_s c_s, i64 (i'), i64 (h')]) 152 (0, 0)) :: L1) w' ∧ ownTermR r L1 ∧ SmallT r.dat ∧ (0 ≤ i' ∧ i' ≤ n_s) := by
 have hl := f_s.len
 refine enter 11 Tryz.func104 rfl Tryz.ntmps104 rfl rfl ?_
 have hs1 := St.take1 w b_c _ hc
 refine WC.sr (WL.al hs1 Tryz.zeroValue35 rfl rfl (fun b2 _ hs3 => WL.nil (WC.sr (WL.r 1 hs3 [] rfl ?_))))
 replace hs3 := (hs3.fb b_c)
 have hF4 : St _ _ ([(b_c, _)] ++ _) _ := hs3
 refine WL.call rfl rfl rfl (Run.call Tryz.call86 rfl rfl rfl) (k106_ _ _ _ _ _ _ _ _ (hF4.own _ List.mem_cons_self).1 (SlF.st f_s hs3 s_s) (St.sepT hF4 f_s s_s) ?_ ?_) ?_
 · omega
 · omega
 rintro _ whs12 ⟨r5, L6, i7, h8, rfl, hs12, ho9, hm10, hi11⟩
 replace hs12 : St _ _ ((b_c, _) :: (L6 ++ _)) _ := St.lend hF4 hs12
 refine ⟨_, rfl, ?_⟩
 have hs13 := ((hs12.fb b2).fb b_c)
 have hsmd : smScr 549755813888 r5.dat := fine_smB hm10.fine (by decide)
 have hms := hm10
 have hT0 : SmallT (⟨vp0, r5.dat⟩ : TermD) := ⟨show vpOk vp0 = true by decide, hms⟩
 have hBT0 : smTerm 549755813888 (⟨vp0, r5.dat⟩ : TermD) := hT0.sm (by decide)
 have hMT0 : smTerm 1048576 (⟨vp0, r5.dat⟩ : TermD) := hT0.sm (by decide)
 refine WL.val rfl rfl rfl (Run.build rfl rfl rfl rfl (built_35_1 _ _ _ _ _ _ _ _ _ _ _ _ _ _ _ _ _ _ _ _ _ _ _ _ _ _ _ _ _ _ _)) (WL.al hs13 Tryz.zeroValue35 rfl rfl (fun b14 _ hs15 => WL.st tbk hs15 0 rfl rfl (fun _ hs16 => WL.nil (WC.seq (fun K17 hK17 => WC.rG 4 ((hs16.fb b_c).d1.fb b2).d1 (hs16.fb b_c).d1 hs16 (fun _ hs18 => ?_))))))
 refine WG.rn [0, 1] (hs18.fb b_c).d1 [0] rfl rfl (WG.o1 2 rfl rfl ?_)
 replace hs18 := (hs18.fb b_c)
 have hF19 : St _ _ ([(b_c, _)] ++ _) _ := hs18
 refine WL.call rfl rfl rfl (Run.call Tryz.call88 rfl rfl rfl) (k119_ _ _ _ _ _ _ _ _ _ (hF19.own _ List.mem_cons_self).1 (SlF.st f_s hs18 s_s) (St.sepT hF19 f_s s_s) ?_ ?_ ?_) ?_
 · omega
 · omega
 · omega
 rintro _ whs29 ⟨A20, c21, zs22, L23, i24, h25, rfl, hs29, ho26, hl27, hi28⟩
 replace hs29 : St _ _ ((b_c, _) :: (L23 ++ _)) _ := St.lend hF19 hs29
 refine ⟨_, rfl, ?_⟩
 have hs30 := (((hs29.fb b2).fb b14).fb b_c)
 refine WL.nil ⟨(hs30.d1.rm L23), WG.o1 3 rfl rfl ?_⟩
 have hk32 := (ownScrR.ok (B := 549755813888) ho9 (hs30.ow L6) (by assumption))
 have hk33 := (ownScrR.ok (B := 549755813888) ho9 (hs30.ow L6) (by assumption))
 refine WL.cl Tryz.call48 rfl (k155_ ⟨⟨_, _, ⟨_, _, _, _⟩, ⟨_, _, _, _⟩⟩, ⟨_, _, ⟨_, _, ⟨_, _, _, _⟩⟩, ⟨_, _, ⟨_, _, _, _⟩⟩, _, _, _, _, ⟨_, _, _, _, _⟩, _, _, _, _, _, _, ⟨_, _, _, _, _⟩, ⟨_, _, _, _⟩, _, ⟨_, _, _, _⟩⟩⟩ _ _ _ _ _ ⟨⟨(SlF.nil _ _), (by first | assumption | omega | simp), (by first | assumption | omega | (simp; omega) | simp), (SlF.nil _ _), (by first | assumption | omega | simp), (by first | assumption | omega | (simp; omega) | simp)⟩, ⟨⟨hk32.Main.Cells, hk32.Main.Cells_c, hk32.Main.Cells_n⟩, ⟨hk32.Alt.Cells, hk32.Alt.Cells_c, hk32.Alt.Cells_n⟩, hk32.Tabs, hk32.Tabs_c, hk32.Tabs_n, hk32.Back, hk32.Back_c, hk32.Back_n⟩⟩ (SlF.ofOwn ho26 (hs30.ow L23)) ?_ ?_) ?_
 iterate 2 first | assumption | omega
 rintro _ whs31 ⟨r34, L1_35, rfl, hs31, ho36, hd37⟩
 replace hs31 := hs30.callF hs31
 refine ⟨_, rfl, ?_⟩
 replace hs31 := St.back [_, _, _] hs31
 have hT1 : SmallT r34.dat := by rw [hd37]; exact hT0.feed
 have hBT : smTerm 549755813888 r34.dat := SmallT.sm hT1 (by decide)
 have hMT : smTerm 1048576 r34.dat := SmallT.sm hT1 (by decide)
 have hBTr := hBT
 rw [hd37] at hBTr
 refine WL.nil ⟨((hs31.d1.rm L1_35).rm L23), WG.oK rfl (WL.st tbk hs31 2 rfl rfl (fun _ hs38 => WL.nil ⟨(((hs38.d1.fb b2).d1.rm L1_35).rm L23), WH.dn (hK17 _ _ (WC.ret (retV1 rfl (resV.cellA tbk hs38 2 rfl rfl rfl rfl) ?_)))⟩))⟩
 refine ⟨r34, _, _, _, rfl, St.keepP (L1 := L1_35) ((hs38.fr L1_35).fb b_c), ho36, ?_, by omega⟩
 · exact hT1
theorem k157_ (A_s : Option Addr) (n_s c_s : Nat) (s : List UInt8) (w : World) (f_s : SlF encB w A_s n_s s) (hn : n_s ≤ 1048576) :
    Calls Tryz.prog 35 #[.slice A_s n_s c_s] w fun e w' => ∃ r L1, e = .returned (.agg #[i64 r.P.State, .bool r.P.Mark, .slice r.P.Args.A r.P.Args.n r.P.Args.c, .slice r.P.Part.A r.P.Part.n r.P.Part.c, i64 r.S.W, i64 r.S.H, i64 r.S.Main.W, i64 r.S.Main.H, .slice r.S.Main.Cells.A r.S.Main.Cells.n r.S.Main.Cells.c, i64 r.S.Alt.W, i64 r.S.Alt.H, .slice r.S.Alt.Cells.A r.S.Alt.Cells.n r.S.Alt.Cells.c, .bool r.S.OnAlt, i64 r.S.X, i64 r.S.Y, .bool r.S.Wrap, i64 r.S.A.Fg, i64 r.S.A.Bg, .bool r.S.A.Bold, .bool r.S.A.Under, .bool r.S.A.Turn, i64 r.S.Top, i64 r.S.Bot, .bool r.S.NoWrap, .bool r.S.Hide, i64 r.S.SaveX, i64 r.S.SaveY, i64 r.S.SaveA.Fg, i64 r.S.SaveA.Bg, .bool r.S.SaveA.Bold, .bool r.S.SaveA.Under, .bool r.S.SaveA.Turn, .slice r.S.Tabs.A r.S.Tabs.n r.S.Tabs.c, i64 r.S.Limit, .slice r.S.Back.A r.S.Back.n r.S.Back.c]) ∧ St w [] L1 w' ∧ ownTermR r L1 ∧ SmallT r.dat := by
 refine enter 17 Tryz.func35 rfl Tryz.ntmps35 rfl rfl ?_
 have hs1 := St.init w
 refine WC.sr (WL.al hs1 Tryz.zeroValue35 rfl rfl (fun b2 _ hs3 => WL.nil (WC.sr (WL.r 1 hs3 [] rfl ?_))))
 refine WL.call rfl rfl rfl (Run.call Tryz.call85 rfl rfl rfl) (k100_ _ _ _ _ _ (SlF.st0 f_s hs3) ?_) ?_
 · omega
 rintro _ whs6 ⟨b4, h5, rfl, hs6⟩
 replace hs6 := hs3.callF hs6
 refine ⟨_, rfl, WL.r 1 hs6 [] rfl (WL.nil (WC.sr (WL.r 1 hs6 [] rfl ?_)))⟩
 have hF7 : St _ _ ([(b4, _)] ++ _) _ := hs6
 refine WL.call rfl rfl rfl (Run.call Tryz.call104 rfl rfl rfl) (k156_ _ _ _ _ _ _ _ _ (hF7.own _ List.mem_cons_self).1 (SlF.st0 f_s hs6) (St.sep hF7 f_s) ?_ ?_) ?_
 · omega
 · omega
 rintro _ whs15 ⟨r8, L9, i10, h11, rfl, hs15, ho12, hm13, hi14⟩
 replace hs15 : St _ _ ((b4, _) :: (L9 ++ _)) _ := St.lend hF7 hs15
 refine ⟨_, rfl, ?_⟩
 have hs16 := ((hs15.fb b2).fb b4)
 have hsmd : smTerm 549755813888 r8.dat := SmallT.sm hm13 (by decide)
 have hm0 : SmallT r8.dat := hm13
 have hBT : smTerm 549755813888 r8.dat := SmallT.sm hm0 (by decide)
 have hMT : smTerm 1048576 r8.dat := SmallT.sm hm0 (by decide)
 have hok9 : termOk r8.dat = true := hm0.ok
 refine WL.al hs16 Tryz.zeroValue35 rfl rfl (fun b17 _ hs18 => WL.st tbk hs18 0 rfl rfl (fun _ hs19 => WL.nil (WC.seq (fun K20 hK20 => WC.sr (WL.r 1 hs19 [0] rfl (WL.cl Tryz.call105 rfl (k121_ r8 _ (ownTermR.ok (B := 549755813888) ho12 (hs19.ow L9) (by assumption))) ?_))))))
 rintro _ whs21 ⟨rfl, hs21⟩
 replace hs21 := hs19.call0 hs21
 refine ⟨_, rfl, WL.r 1 hs21 [] rfl (WL.nil (WC.cq rfl (fun h22 qh22 => ?_) (fun h22 qh22 => ?_)))⟩
 ·exfalso; have h9 := h22; simp [hok9] at h9
 refine WC.skip (hK20 _ _ (WC.sr (WL.r 1 hs21 [0] rfl (WL.st tbk hs21 2 rfl rfl (fun _ hs23 => WL.nil (WC.ret (retV1 rfl (resV.cellA tbk hs23 2 rfl rfl rfl rfl) ?_)))))))
 refine ⟨r8, _, rfl, (St.keep1 (hs23.fr L9)), ho12, ?_⟩
 · exact hm0
theorem k158_ (A_s : Option Addr) (n_s c_s : Nat) (s : List UInt8) (w : World) (f_s : SlF encB w A_s n_s s) (hn : n_s ≤ 1048576) :
    Calls Tryz.prog 45 #[.slice A_s n_s c_s] w fun e w' => ∃ A c zs L1, e = .returned (.slice A (List.length zs) c) ∧ St w [] L1 w' ∧ OwnF encB 5 (.slice A (List.length zs) c) zs L1 ∧ List.length zs ≤ 260 := by
 refine enter 18 Tryz.func45 rfl Tryz.ntmps45 rfl rfl ?_
 have hs1 := St.init w
 refine WC.r1 hs1 [] rfl (WC.sr (WL.r 1 hs1 [] rfl (WL.call rfl rfl rfl (Run.call Tryz.call85 rfl rfl rfl) (k100_ _ _ _ _ _ (SlF.st0 f_s hs1) ?_) ?_)))
 · omega
 rintro _ whs4 ⟨b2, h3, rfl, hs4⟩
 replace hs4 := hs1.callF hs4
 refine ⟨_, rfl, WL.r 1 hs4 [] rfl (WL.nil (WC.sr (WL.r 5 hs4 [0] rfl (WL.val rfl rfl rfl (Run.addW rfl rfl rfl) (WL.r 2 hs4 [] rfl (WL.st tbk hs4 0 rfl rfl (fun _ hs5 => ?_)))))))⟩
 refine WL.nil (WC.sr (WL.r 1 hs5 [] rfl ?_))
 have hF6 : St _ _ ([(b2, _)] ++ _) _ := hs5
 refine WL.call rfl rfl rfl (Run.call Tryz.call88 rfl rfl rfl) (k119_ _ _ _ _ _ _ _ _ _ (hF6.own _ List.mem_cons_self).1 (SlF.st0 f_s hs5) (St.sep hF6 f_s) ?_ ?_ ?_) ?_
 · omega
 · omega
 · omega
 rintro _ whs16 ⟨A7, c8, zs9, L10, i11, h12, rfl, hs16, ho13, hl14, hi15⟩
 replace hs16 : St _ _ ((b2, _) :: (L10 ++ _)) _ := St.lend hF6 hs16
 refine ⟨_, rfl, WL.r 1 hs16 [] rfl (WL.nil (WC.r1 hs16 [] rfl (WC.ret (retV1 rfl (resV.tmp rfl) (⟨_, _, zs9, _, rfl, (St.keep1 (hs16.fr L10)), ho13, hl14⟩)))))⟩
theorem k159_ (v_b : Value) (b : List UInt8) (L_b : Hp) (n : Int) (w : World) (o_b : OwnF encB 5 v_b b L_b) (h_b : Hh w L_b) (h0 : 0 ≤ n) (h1 : n ≤ 34359738367) (hx : b.length ≤ 268435456) :
    Calls Tryz.prog 195 #[v_b, i64 n] w fun e w' => ∃ A c L1, e = .returned (.slice A (b ++ varL n.toNat).length c) ∧ St w (L_b.map (·.1)) L1 w' ∧ OwnF encB 5 (.slice A (b ++ varL n.toNat).length c) (b ++ varL n.toNat) L1 := by
 obtain ⟨A_b, c_b, rfl⟩ := o_b.shape
 have hvl := varL_len n.toNat (by omega)
 refine enter 21 Tryz.func195 rfl Tryz.ntmps195 rfl rfl ?_
 have hs1 := St.lent1 w L_b o_b h_b
 refine WC.r1 hs1 [] rfl (WC.seq (fun K2 hK2 => WC.block ?_))
 refine WC.lO [4] rfl hs1 (fun k_ f L_ => ∃ (zs : List UInt8) (q : Int) (A3 : Option Addr) (c4 : Nat), k_ = q.toNat ∧ (0 ≤ q) ∧ (q ≤ n) ∧ (b ++ varL n.toNat = zs ++ varL q.toNat) ∧ OwnF encB 5 (.slice A3 (zs.length) c4) (zs) L_ ∧ Sub [(0, .slice A3 (zs.length) c4), (1, .int .i64 q)] f) (((fun (zs : List UInt8) (q : Int) => q.toNat) (b) (n))) ?_ ?_
 ·refine ⟨b, n, _, _, rfl, ?_, ?_, ?_, o_b, ⟨rfl, rfl, trivial⟩⟩
  · exact h0
  · exact Int.le_refl _
  · rfl
 clear hs1
 rintro _ f w L5 ⟨zs, q, A3, c4, rfl, p0, p1, p2, ho6, hG⟩ hF hs7
 refine WC.sub _ (hG.app hF) ?_
 clear hG hF
 have hlen := congrArg List.length p2
 simp only [List.length_append] at hlen
 refine WC.seq (fun K8 hK8 => WC.r1 hs7 [] rfl ?_)
 refine WC.cq rfl (fun h9 qh9 => ?_) (fun h9 qh9 => ?_)
 ·refine WC.skip (hK8 _ _ (WC.block (WC.sr (WL.r 2 hs7 [] rfl ?_))))
  refine WL.val rfl rfl rfl (Run.rem rfl rfl rfl ?_ ?_) ?_
  · omega
  · omega
  refine WL.r 2 hs7 [] rfl (WL.buildSlice hs7 Tryz.runUnderlying22 Tryz.sizeOf5 Tryz.zeroValue5 rfl rfl rfl rfl rfl rfl rfl rfl rfl rfl (fun b10 whs11 hs11 => ?_))
  refine WL.appendG (hs11.fr L5) ho6 (srcB1 Tryz.underlying22 (hs11.own _ (nthL_mem (i := 0) rfl)).1) Tryz.underlying22 inf5 rfl rfl rfl rfl rfl rfl rfl rfl rfl rfl ?_ (fun A15 c16 L12 whs13 hs13 ho14 => ?_)
  · simp only [List.length_append, List.length_singleton]; omega
  replace hs13 := St.back [_] hs13
  refine WL.r 1 hs13 [] rfl (WL.nil (WC.region (WL.r 1 hs13 [] rfl (WL.val rfl rfl rfl (Run.quo rfl rfl rfl ?_ ?_ ?_) ?_))))
  · omega
  · omega
  · omega
  refine WL.r 1 hs13 [] rfl (WL.nil (ibN (tkN ?_)))
  replace hs13 := hs13.d1
  refine ⟨sbF rfl, _, hs13, _, ?_, _, _, _, _, rfl, ?_, ?_, ?_, ho14, ⟨rfl, rfl, trivial⟩⟩
  · omega
  · omega
  · omega
  · rw [p2, List.append_assoc, List.singleton_append, ub_big (by omega)]
 refine WC.exit (hK2 _ _ (WC.sr (WL.r 3 hs7 [] rfl (WL.buildSlice hs7 Tryz.runUnderlying22 Tryz.sizeOf5 Tryz.zeroValue5 rfl rfl rfl rfl rfl rfl rfl rfl rfl rfl (fun b17 whs18 hs18 => ?_)))))
 refine WL.appendG (hs18.fr L5) ho6 (srcB1 Tryz.underlying22 (hs18.own _ (nthL_mem (i := 0) rfl)).1) Tryz.underlying22 inf5 rfl rfl rfl rfl rfl rfl rfl rfl rfl rfl ?_ (fun A22 c23 L19 whs20 hs20 ho21 => ?_)
 · simp only [List.length_append, List.length_singleton]; omega
 replace hs20 := St.back [_] hs20
 refine WL.r 1 hs20 [] rfl (WL.nil (WC.ret (retV1 rfl (resV.tmp rfl) ?_)))
 have hx_ := OwnF.eqOf (xs := b ++ varL n.toNat) ho21 (by rw [p2, ← ub_small p0 (by omega)])
 rw [← hx_]
 first | exact ⟨_, _, _, rfl, (St.keep1 (hs20.fr L19)), ho21⟩ | exact ⟨A22, c23, _, by rw [OwnF.len_ ho21], (St.keep1 (hs20.fr L19)), by rw [OwnF.len_ ho21]; exact ho21⟩
theorem k160_ (v_b : Value) (b : List UInt8) (L_b : Hp) (A_l : Option Addr) (n_l c_l : Nat) (l : List Int) (w : World) (o_b : OwnF encB 5 v_b b L_b) (h_b : Hh w L_b) (f_l : SlF encI w A_l n_l l) (s_l : 0 < n_l → (adr A_l).block ∉ L_b.map (·.1)) (hl : ∀ x, x ∈ l → 0 ≤ x ∧ x ≤ 34359738367) (hx : b.length + 5 * n_l ≤ 268435456) :
    Calls Tryz.prog 193 #[v_b, .slice A_l n_l c_l] w fun e w' => ∃ A c L1, e = .returned (.slice A (b ++ numsL l).length c) ∧ St w (L_b.map (·.1)) L1 w' ∧ OwnF encB 5 (.slice A (b ++ numsL l).length c) (b ++ numsL l) L1 := by
 obtain ⟨A_b, c_b, rfl⟩ := o_b.shape
 refine enter 18 Tryz.func193 rfl Tryz.ntmps193 rfl rfl ?_
 have hs1 := St.lent1 w L_b o_b h_b
 refine WC.r1 hs1 [] rfl (WC.seq (fun K2 hK2 => WC.r1 hs1 [] rfl (WC.block ?_)))
 refine WC.lO [4, 7, 8] rfl hs1 (fun k_ f L_ => ∃ (zs : List UInt8) (i : Nat) (A3 : Option Addr) (c4 : Nat), k_ = n_l - i ∧ (i ≤ n_l) ∧ (zs = b ++ numsL (l.take i)) ∧ OwnF encB 5 (.slice A3 (zs.length) c4) (zs) L_ ∧ Sub [(0, .slice A3 (zs.length) c4), (9, .int .i64 i)] f) (((fun (zs : List UInt8) (i : Nat) => n_l - i) (b) (0))) ?_ ?_
 ·refine ⟨b, 0, _, _, rfl, ?_, ?_, o_b, ⟨rfl, rfl, trivial⟩⟩
  · exact Nat.zero_le _
  · simp [numsL]
 clear hs1
 rintro _ f w L5 ⟨zs, i, A3, c4, rfl, p0, p1, ho6, hG⟩ hF hs7
 refine WC.sub _ (hG.app hF) ?_
 clear hG hF
 have hb5 := numsL_len (l := l.take i) (fun x hx => (hl x (List.mem_of_mem_take hx)).2)
 have hbl := congrArg List.length p1
 simp only [List.length_append, List.length_take] at hbl hb5
 refine WC.r1 hs7 [] rfl (WC.seq (fun K8 hK8 => ?_))
 refine WC.cq rfl (fun h9 qh9 => ?_) (fun h9 qh9 => ?_)
 ·have hi_ := hl (iat l i) (gat_mem (by rw [f_l.len]; omega))
  refine WC.skip (hK8 _ _ (WC.seq (fun K10 hK10 => WC.block (WC.sr ?_))))
  refine WL.val rfl rfl rfl (Run.idxN Tryz.runUnderlying23 Tryz.sizeOf3 rfl rfl rfl ?_ ?_ ?_) ?_
  · exact SlF.some_ (SlF.st f_l hs7 s_l)
  · omega
  · omega
  refine WL.val rfl rfl rfl (Run.load Tryz.isAgg3 rfl rfl (SlF.one1 (SlF.st f_l hs7 s_l) ?_ rfl)) ?_
  · omega
  refine WL.r 1 hs7 [] rfl (WL.nil (WC.region (WL.r 2 hs7 [] rfl (WL.cl Tryz.call195 rfl (k159_ _ _ _ _ _ ho6 (hs7.ow L5) ?_ ?_ ?_) ?_))))
  · exact hi_.1
  · exact hi_.2
  · omega
  rintro _ whs11 ⟨A12, c13, L1_14, rfl, hs11, ho15⟩
  replace hs11 := St.lend hs7 hs11
  refine ⟨_, rfl, WL.r 1 hs11 [] rfl (WL.nil (hK10 _ _ (WC.region (WL.r 2 hs11 [] rfl (WL.nil (tkN ?_))))))⟩
  refine ⟨sbF rfl, _, hs11, _, ?_, _, i + 1, _, _, rfl, ?_, ?_, ho15, ⟨rfl, rfl, trivial⟩⟩
  · omega
  · omega
  · rw [p1, numsL_take (by rw [f_l.len]; omega), List.append_assoc] <;> rfl
 refine WC.exit (hK2 _ _ (WC.r1 hs7 [] rfl (WC.ret (retV1 rfl (resV.tmp rfl) ?_))))
 have hx_ := OwnF.eqOf (xs := b ++ numsL l) ho6 (by rw [p1, List.take_of_length_le (by rw [f_l.len]; omega)])
 rw [← hx_]
 first | exact ⟨_, _, _, rfl, (St.keep1 hs7), ho6⟩ | exact ⟨A3, c4, _, by rw [OwnF.len_ ho6], (St.keep1 hs7), by rw [OwnF.len_ ho6]; exact ho6⟩
theorem eq_30 {d : Nat} (x y : AttrD) (w : World) : (Op.equalIn (d + 2) 30 (.agg (encAttr.enc x).toArray) (.agg (encAttr.enc y).toArray)).run Tryz.prog w = .ok (decide (x = y)) w := by
  obtain ⟨R, h, e⟩ : ∃ R, (Op.equalIn (d + 2) 30 (.agg (encAttr.enc x).toArray) (.agg (encAttr.enc y).toArray)).run Tryz.prog w = .ok R w ∧ R = decide (x = y) := ⟨_, equalIn_struct Tryz.underlying30 rfl (by kernel_rfl) (eqFields_cons rfl (part_one Tryz.isAgg3 rfl) (part_one Tryz.isAgg3 rfl) (equalIn_int Tryz.underlying3) (eqFields_cons rfl (part_one Tryz.isAgg3 rfl) (part_one Tryz.isAgg3 rfl) (equalIn_int Tryz.underlying3) (eqFields_cons rfl (part_one Tryz.isAgg4 rfl) (part_one Tryz.isAgg4 rfl) (equalIn_bool' Tryz.underlying4) (eqFields_cons rfl (part_one Tryz.isAgg4 rfl) (part_one Tryz.isAgg4 rfl) (equalIn_bool' Tryz.underlying4) (eqFields_cons rfl (part_one Tryz.isAgg4 rfl) (part_one Tryz.isAgg4 rfl) (equalIn_bool' Tryz.underlying4) eqFields_nil))))), by rw [Bool.eq_iff_iff]; simp [AttrD.iff']⟩
  rw [h, e]
theorem eq_75 {d : Nat} (x y : CellD) (w : World) : (Op.equalIn (d + 3) 75 (.agg (encCell.enc x).toArray) (.agg (encCell.enc y).toArray)).run Tryz.prog w = .ok (decide (x = y)) w := by
  obtain ⟨R, h, e⟩ : ∃ R, (Op.equalIn (d + 3) 75 (.agg (encCell.enc x).toArray) (.agg (encCell.enc y).toArray)).run Tryz.prog w = .ok R w ∧ R = decide (x = y) := ⟨_, equalIn_struct Tryz.underlying75 rfl (by kernel_rfl) (eqFields_cons rfl (part_one Tryz.isAgg3 rfl) (part_one Tryz.isAgg3 rfl) (equalIn_int Tryz.underlying3) (eqFields_cons rfl (part_agg Tryz.isAgg30 Tryz.sizeOf30 rfl) (part_agg Tryz.isAgg30 Tryz.sizeOf30 rfl) (eq_30 _ _ _) eqFields_nil)), by rw [Bool.eq_iff_iff]; simp [AttrD.iff', CellD.iff']⟩
  rw [h, e]
theorem k161_ (a_Fg : Int) (a_Bg : Int) (a_Bold : Bool) (a_Under : Bool) (a_Turn : Bool) (w : World) :
    Calls Tryz.prog 194 #[.agg #[i64 a_Fg, i64 a_Bg, .bool a_Bold, .bool a_Under, .bool a_Turn]] w fun e w' => e = .returned (.int .i64 (attrNum ⟨a_Fg, a_Bg, a_Bold, a_Under, a_Turn⟩)) ∧ St w [] [] w' := by
 refine enter 36 Tryz.func194 rfl Tryz.ntmps194 rfl rfl ?_
 have hs1 := St.init w
 refine WC.sr (WL.bx hs1 rfl (fun b2 _ hs3 => WL.r 1 hs3 [] rfl (WL.nil (WC.seq (fun K4 hK4 => WC.sr (WL.r 1 hs3 [0] rfl (WL.cl Tryz.call95 rfl (k3_ _ _ _ _ _ _) ?_)))))))
 rintro _ whs5 ⟨rfl, hs5⟩
 replace hs5 := hs3.call0 hs5
 refine ⟨_, rfl, WL.r 1 hs5 [] rfl (WL.nil (WC.cq rfl (fun h6 qh6 => ?_) (fun h6 qh6 => ?_)))⟩
 ·have hok : attrOk a_Fg a_Bg = false := by simpa using qh6
  refine WC.r1 hs5 [] rfl (WC.ret (tkR ?_))
  clear hK4
  refine rtv rfl rfl hs5 ?_
  simp [attrNum, hok]
 have hok : attrOk a_Fg a_Bg = true := by simpa using qh6
 have hok2 := hok
 simp [attrOk, within] at hok2
 refine WC.skip (hK4 _ _ ?_)
 refine WC.rr tbk hs5 [0, 0] rfl ⟨by first | omega | (show (0 : Int) ≤ 1 * 2 ^ i; omega) | (show (1 * 2 ^ i : Int) ≤ _; omega), by first | omega | (show (0 : Int) ≤ 1 * 2 ^ i; omega) | (show (1 * 2 ^ i : Int) ≤ _; omega), rfl, by first | omega | (show (0 : Int) ≤ 1 * 2 ^ i; omega) | (show (1 * 2 ^ i : Int) ≤ _; omega), rfl, trivial⟩ (WC.seq (fun K7 hK7 => WC.sr (WL.r 6 hs5 [0, 0, 0] rfl (WL.buildF (F := encT) hs5 ([a_Bold, a_Under, a_Turn]) Tryz.runUnderlying162 Tryz.sizeOf4 Tryz.zeroValue4 rfl rfl rfl rfl rfl rfl rfl rfl rfl rfl rfl rfl (fun A11 c12 L8 whs9 hs9 ho10 => ?_)))))
 replace hs9 := St.back [_] hs9
 refine WL.r 2 hs9 [] rfl (WL.nil (WC.block (WC.lS [2, 8, 22, 23] rfl hs9 (fun k_ f w' => ∃ (i : Nat) (q : Int), k_ = 3 - i ∧ (i ≤ 3) ∧ (q = 72 * a_Bg + 8 * a_Fg + attrBits ⟨a_Fg, a_Bg, a_Bold, a_Under, a_Turn⟩ i) ∧ Sub [(24, .int .i64 i), (3, .int .i64 q)] f) ((fun (i : Nat) (q : Int) => 3 - i) (0) (72 * a_Bg + 8 * a_Fg)) ?_ ?_)))
 ·refine ⟨0, 72 * a_Bg + 8 * a_Fg, rfl, ?_, ?_, ⟨rfl, rfl, trivial⟩⟩
  · exact Nat.zero_le _
  · simp [attrBits]
 clear hs9
 rintro _ f w ⟨i, q, rfl, p0, p1, hG⟩ hF hs13
 refine WC.sub _ (hG.app hF) ?_
 clear hG hF
 have hbit : 0 ≤ attrBits ⟨a_Fg, a_Bg, a_Bold, a_Under, a_Turn⟩ i ∧ attrBits ⟨a_Fg, a_Bg, a_Bold, a_Under, a_Turn⟩ i ≤ 7 := by unfold attrBits; (repeat' split) <;> omega
 refine WC.r1 hs13 [] rfl (WC.seq (fun K14 hK14 => ?_))
 refine WC.cD rfl (fun qh15 => ?_) (fun qh15 => ?_)
 ·simp only [List.length_cons, List.length_nil] at qh15
  have hp2 : (1 * 2 ^ i : Int) = 1 ∨ (1 * 2 ^ i : Int) = 2 ∨ (1 * 2 ^ i : Int) = 4 := by
    rcases i with _ | _ | _ | i
    · exact Or.inl rfl
    · exact Or.inr (Or.inl rfl)
    · exact Or.inr (Or.inr rfl)
    · omega
  refine WC.skip (hK14 _ _ (WC.seq (fun K16 hK16 => WC.block (WC.sr (WL.r 1 hs13 [] rfl ?_)))))
  refine WL.val rfl rfl rfl (Run.idxN Tryz.runUnderlying162 Tryz.sizeOf4 rfl rfl rfl ?_ ?_ ?_) ?_
  · exact SlF.some_ (SlF.ofOwn ho10 (hs13.ow L8))
  · simp only [List.length_cons, List.length_nil] at *; omega
  · simp only [List.length_cons, List.length_nil] at *; omega
  refine WL.val rfl rfl rfl (Run.load Tryz.isAgg4 rfl rfl (SlF.one1 (SlF.ofOwn ho10 (hs13.ow L8)) ?_ rfl)) ?_
  · simp only [List.length_cons, List.length_nil] at *; omega
  refine WL.r 2 hs13 [] rfl (WL.nil (WC.r1 hs13 [] rfl (WC.cq rfl (fun h17 qh17 => ?_) (fun h17 qh17 => ?_))))
  ·refine WC.region (WL.r 2 hs13 [] rfl (WL.val rfl rfl rfl (Run.shl rfl rfl rfl ?_ ?_ ?_) ?_))
   · first | omega | (show (0 : Int) ≤ 1 * 2 ^ i; omega) | (show (1 * 2 ^ i : Int) ≤ _; omega)
   · first | omega | (show (0 : Int) ≤ 1 * 2 ^ i; omega) | (show (1 * 2 ^ i : Int) ≤ _; omega)
   · show In64 (1 * 2 ^ i); constructor <;> omega
   refine WL.val rfl rfl rfl (Run.or rfl rfl rfl ?_ ?_ ?_ ?_) ?_
   · first | omega | (show (0 : Int) ≤ 1 * 2 ^ i; omega) | (show (1 * 2 ^ i : Int) ≤ _; omega)
   · first | omega | (show (0 : Int) ≤ 1 * 2 ^ i; omega) | (show (1 * 2 ^ i : Int) ≤ _; omega)
   · first | omega | (show (0 : Int) ≤ 1 * 2 ^ i; omega) | (show (1 * 2 ^ i : Int) ≤ _; omega)
   · first | omega | (show (0 : Int) ≤ 1 * 2 ^ i; omega) | (show (1 * 2 ^ i : Int) ≤ _; omega)
   refine WL.r 1 hs13 [] rfl (WL.nil (hK16 _ _ (WC.region ?_)))
   refine WL.run tbk 2 hs13 [] rfl ⟨by first | omega | (show (0 : Int) ≤ 1 * 2 ^ i; omega) | (show (1 * 2 ^ i : Int) ≤ _; omega), trivial⟩ (WL.nil (tkN (⟨sbF rfl, hs13, _, ?_, i + 1, _, rfl, ?_, ?_, ⟨rfl, rfl, trivial⟩⟩)))
   · omega
   · omega
   · first | exact attrBits_set hok2.1.1 hok2.2.1 p1 (by omega) qh17 | (rw [attrBits_skip (i := i) (by omega) qh17]; exact p1)
  refine WC.skip (hK16 _ _ (WC.region ?_))
  refine WL.run tbk 2 hs13 [] rfl ⟨by first | omega | (show (0 : Int) ≤ 1 * 2 ^ i; omega) | (show (1 * 2 ^ i : Int) ≤ _; omega), trivial⟩ (WL.nil (tkN (⟨sbF rfl, hs13, _, ?_, i + 1, _, rfl, ?_, ?_, ⟨rfl, rfl, trivial⟩⟩)))
  · omega
  · omega
  · first | exact attrBits_set hok2.1.1 hok2.2.1 p1 (by omega) qh17 | (rw [attrBits_skip (i := i) (by omega) qh17]; exact p1)
 refine WC.exit (hK7 _ _ (WC.r1 hs13 [] rfl (WC.ret (rtv rfl rfl hs13 ?_))))
 rw [attrNum_bits hok]; simp only [List.length_cons, List.length_nil] at *; rw [p1, show i = 3 from by omega]
theorem k162_ (v_b : Value) (b : List UInt8) (L_b : Hp) (A_l : Option Addr) (n_l c_l : Nat) (l : List CellD) (w : World) (o_b : OwnF encB 5 v_b b L_b) (h_b : Hh w L_b) (f_l : SlF encCell w A_l n_l l) (s_l : 0 < n_l → (adr A_l).block ∉ L_b.map (·.1)) (hn : n_l ≤ 4000) (hc : cellsOk l = true) (hx : b.length + 15 * n_l ≤ 268000000) :
    Calls Tryz.prog 110 #[v_b, .slice A_l n_l c_l] w fun e w' => ∃ A c L1, e = .returned (.slice A (b ++ cellsB l).length c) ∧ St w (L_b.map (·.1)) L1 w' ∧ OwnF encB 5 (.slice A (b ++ cellsB l).length c) (b ++ cellsB l) L1 := by
 obtain ⟨A_b, c_b, rfl⟩ := o_b.shape
 have hbl := cellsB_len (l := l) (by rw [f_l.len]; exact hn) hc
 refine enter 49 Tryz.func110 rfl Tryz.ntmps110 rfl rfl ?_
 have hs1 := St.lent1 w L_b o_b h_b
 refine WC.r1 hs1 [] rfl (WC.seq (fun K2 hK2 => WC.r1 hs1 [] rfl (WC.block ?_)))
 refine WC.lO [1, 4] rfl hs1 (fun k_ f L_ => ∃ (zs : List UInt8) (i : Nat) (A3 : Option Addr) (c4 : Nat), k_ = n_l - i ∧ (i ≤ n_l) ∧ (b ++ cellsB l = zs ++ cellsGo 0 (l.drop i)) ∧ OwnF encB 5 (.slice A3 (zs.length) c4) (zs) L_ ∧ Sub [(0, .slice A3 (zs.length) c4), (5, .int .i64 i)] f) (((fun (zs : List UInt8) (i : Nat) => n_l - i) (b) (0))) ?_ ?_
 ·refine ⟨b, 0, _, _, rfl, ?_, ?_, o_b, ⟨rfl, rfl, trivial⟩⟩
  · exact Nat.zero_le _
  · rfl
 clear hs1
 rintro _ f w L5 ⟨zs, i, A3, c4, rfl, p0, p1, ho6, hG⟩ hF hs7
 refine WC.sub _ (hG.app hF) ?_
 clear hG hF
 have hblen := congrArg List.length p1
 have hll := f_l.len
 simp only [List.length_append] at hblen
 refine WC.seq (fun K8 hK8 => WC.r1 hs7 [] rfl ?_)
 refine WC.cq rfl (fun h9 qh9 => ?_) (fun h9 qh9 => ?_)
 ·refine WC.skip (hK8 _ _ (WC.block (WC.r1 hs7 [] rfl (WC.seq (fun K10 hK10 => WC.block ?_)))))
  refine WC.lS [0, 1, 4, 5, 7, 8, 9, 10, 11] rfl hs7 (fun k_ f w' => ∃ (j : Nat), k_ = n_l - j ∧ (i ≤ j) ∧ (j ≤ n_l) ∧ (∀ k, i ≤ k → k < j → gat encCell l k = gat encCell l i) ∧ Sub [(6, .int .i64 j)] f) ((fun (j : Nat) => n_l - j) (i)) ?_ ?_
  ·refine ⟨i, rfl, ?_, ?_, ?_, ⟨rfl, trivial⟩⟩
   · exact Nat.le_refl _
   · omega
   · exact fun k h1 h2 => absurd h1 (by omega)
  clear hs7
  rintro _ f w ⟨j, rfl, r0, r1, r2, hG⟩ hF hs11
  refine WC.sub _ (hG.app hF) ?_
  clear hG hF
  refine WC.seq (fun K12 hK12 => WC.sq1 hs11 (WQ.r 5 [] rfl ?_))
  apply WQ.gA 9 Acts.nil rfl
  ·intro g13 J14
   have qg13 := g13
   try simp only [bf, within_iff, within_not] at qg13
   refine WQ.runA tbk 2 (Acts.nil.cons (j := 4) rfl g13) [] rfl trivial ?_
   refine WQ.val (wantT rfl g13) rfl rfl (fun w_ hs_ => (Run.idxN Tryz.runUnderlying26 Tryz.sizeOf75 rfl rfl rfl ?_ ?_ ?_)) ?_
   · exact SlF.some_ (SlF.st f_l (hs_ : St _ _ _ _) s_l)
   · omega
   · omega
   refine WQ.val (wantT rfl g13) rfl rfl (fun w_ hs_ => (Run.loadA Tryz.isAgg75 Tryz.sizeOf75 rfl rfl (SlF.whole (SlF.st f_l (hs_ : St _ _ _ _) s_l) ?_))) ?_
   · omega
   refine WQ.runA tbk 2 (Acts.nil.cons (j := 4) rfl g13) [] rfl trivial ?_
   refine WQ.val (wantT rfl g13) rfl rfl (fun w_ hs_ => (Run.idxN Tryz.runUnderlying26 Tryz.sizeOf75 rfl rfl rfl ?_ ?_ ?_)) ?_
   · exact SlF.some_ (SlF.st f_l (hs_ : St _ _ _ _) s_l)
   · omega
   · omega
   refine WQ.val (wantT rfl g13) rfl rfl (fun w_ hs_ => (Run.loadA Tryz.isAgg75 Tryz.sizeOf75 rfl rfl (SlF.whole (SlF.st f_l (hs_ : St _ _ _ _) s_l) ?_))) ?_
   · omega
   refine WQ.val (wantT rfl g13) rfl rfl (fun w_ hs_ => (Run.eqlA (eq_75 _ _) (by kernel_rfl) rfl rfl rfl)) ?_
   exact WQ.eA 9 Acts.nil J14 g13 rfl rfl
  refine WQ.nil (fun _ (hs15 : St _ _ _ _) => ?_)
  refine WC.cq rfl (fun h16 qh16 => ?_) (fun h16 qh16 => ?_)
  ·refine WC.skip (hK12 _ _ (WC.block (WC.region (WL.r 3 hs15 [] rfl (WL.nil (ibN (tkN ?_)))))))
   refine ⟨sbF rfl, hs15, _, ?_, j + 1, rfl, ?_, ?_, ?_, ⟨rfl, trivial⟩⟩
   · omega
   · omega
   · omega
   · intro k h1 h2; rcases Nat.lt_or_ge k j with h_ | h_
     · exact r2 k h1 h_
     · obtain rfl : k = j := by omega
       exact (qh16).2
  have hij : i < j := by
    rcases Nat.lt_or_ge i j with h_ | h_
    · exact h_
    · obtain rfl : j = i := by omega
      exact absurd qh16 (by simp; omega)
  have hcb := cellOk_bounds (cellsOk_gat (i := i) hc (by omega))
  have hcx : 0 ≤ attrNum ⟨(gat encCell l i).A.Fg, (gat encCell l i).A.Bg, (gat encCell l i).A.Bold, (gat encCell l i).A.Under, (gat encCell l i).A.Turn⟩ ∧ attrNum ⟨(gat encCell l i).A.Fg, (gat encCell l i).A.Bg, (gat encCell l i).A.Bold, (gat encCell l i).A.Under, (gat encCell l i).A.Turn⟩ ≤ 647 := hcb.2.2.2
  have hvx := varL_len (attrNum ⟨(gat encCell l i).A.Fg, (gat encCell l i).A.Bg, (gat encCell l i).A.Bold, (gat encCell l i).A.Under, (gat encCell l i).A.Turn⟩).toNat (by omega)
  have hrun := cellsGo_run (j - i - 1) 0 i (l := l) (by omega) (fun k hk => r2 _ (by omega) (by omega)) (fun hlt => by
    rw [show i + (j - i - 1) + 1 = j from by omega] at hlt ⊢
    intro he
    simp [he] at qh16
    omega)
  rw [show i + (j - i - 1) + 1 = j from by omega, show 0 + (j - i - 1) + 1 = j - i from by omega] at hrun
  have hjn : ((j : Int) - (i : Int)).toNat = j - i := by omega
  have hv1 := varL_len ((j : Int) - (i : Int)).toNat (by omega)
  have hv2 := varL_len (gat encCell l i).R.toNat (by omega)
  refine WC.exit (hK10 _ _ (WC.seq (fun K17 hK17 => WC.rH (hs15.rm L5) hs15 (fun _ hs18 => ?_))))
  refine WH.rn [0, 1, 2, 3, 5, 6] (hs18.rm L5) [] rfl rfl ?_
  refine WH.take 7 rfl (by kernel_rfl) rfl rfl rfl (hs18.rm L5) (fun w_ hs_ => (Run.idxN Tryz.runUnderlying26 Tryz.sizeOf75 rfl rfl rfl ?_ ?_ ?_)) ?_
  · exact SlF.some_ (SlF.st f_l (hs_ : St _ _ _ _) s_l)
  · omega
  · omega
  refine WH.take 8 rfl (by kernel_rfl) rfl rfl rfl (hs18.rm L5) (fun w_ hs_ => (Run.fieldO Tryz.runUnderlying75 rfl rfl rfl Tryz.sizeOf3 rfl)) ?_
  refine WH.take 9 rfl (by kernel_rfl) rfl rfl rfl (hs18.rm L5) (fun w_ hs_ => (Run.load Tryz.isAgg3 rfl rfl (SlF.fld (SlF.st f_l (hs_ : St _ _ _ _) s_l) ?_ rfl))) ?_
  · omega
  refine WH.rn [11, 12] (hs18.rm L5) [] rfl rfl ?_
  refine WH.take 13 rfl (by kernel_rfl) rfl rfl rfl (hs18.rm L5) (fun w_ hs_ => (Run.idxN Tryz.runUnderlying26 Tryz.sizeOf75 rfl rfl rfl ?_ ?_ ?_)) ?_
  · exact SlF.some_ (SlF.st f_l (hs_ : St _ _ _ _) s_l)
  · omega
  · omega
  refine WH.take 14 rfl (by kernel_rfl) rfl rfl rfl (hs18.rm L5) (fun w_ hs_ => (Run.fieldO Tryz.runUnderlying75 rfl rfl rfl Tryz.sizeOf30 rfl)) ?_
  refine WH.take 15 rfl (by kernel_rfl) rfl rfl rfl (hs18.rm L5) (fun w_ hs_ => (Run.loadA Tryz.isAgg30 Tryz.sizeOf30 rfl rfl (SlF.part (SlF.st f_l (hs_ : St _ _ _ _) s_l) ?_ rfl rfl))) ?_
  · omega
  refine WH.o1 4 rfl (WL.cl Tryz.call195 rfl (k159_ _ _ _ _ _ ho6 (hs18.ow L5) ?_ ?_ ?_) ?_)
  · first | omega | exact hcb.1 | exact hcx.1
  · omega
  · first | omega | (simp only [List.length_append]; omega)
  rintro _ whs19 ⟨A20, c21, L1_22, rfl, hs19, ho23⟩
  replace hs19 := St.lend hs18 hs19
  refine ⟨_, rfl, WL.nil ⟨(hs19.rm L1_22), WH.o1 10 rfl (WL.cl Tryz.call195 rfl (k159_ _ _ _ _ _ ho23 (hs19.ow L1_22) ?_ ?_ ?_) ?_)⟩⟩
  · first | omega | exact hcb.1 | exact hcx.1
  · omega
  · first | omega | (simp only [List.length_append]; omega)
  rintro _ whs24 ⟨A25, c26, L1_27, rfl, hs24, ho28⟩
  replace hs24 := St.lend hs19 hs24
  refine ⟨_, rfl, WL.nil ⟨(hs24.rm L1_27), WH.o1 16 rfl (WL.cl Tryz.call194 rfl (k161_ _ _ _ _ _ _) ?_)⟩⟩
  rintro _ whs29 ⟨rfl, hs29⟩
  replace hs29 := hs24.call0 hs29
  refine ⟨_, rfl, WL.nil ⟨(hs29.rm L1_27), WH.o1 17 rfl (WL.cl Tryz.call195 rfl (k159_ _ _ _ _ _ ho28 (hs29.ow L1_27) ?_ ?_ ?_) ?_)⟩⟩
  · first | omega | exact hcb.1 | exact hcx.1
  · omega
  · first | omega | (simp only [List.length_append]; omega)
  rintro _ whs30 ⟨A31, c32, L1_33, rfl, hs30, ho34⟩
  replace hs30 := St.lend hs29 hs30
  refine ⟨_, rfl, WL.nil ⟨(hs30.rm L1_33), WH.rn [18] (hs30.rm L1_33) [] rfl rfl (WH.dn (hK17 _ _ (WC.region (WL.r 2 hs30 [] rfl (WL.nil ?_)))))⟩⟩
  refine ibN (tkN (⟨sbF rfl, _, hs30, _, ?_, _, j, _, _, rfl, ?_, ?_, ho34, ⟨rfl, rfl, trivial⟩⟩))
  · omega
  · omega
  · rw [p1, hrun, List.append_assoc, List.append_assoc, List.append_assoc]; simp only [runB, hjn, List.append_assoc]
 refine WC.exit (hK2 _ _ (WC.r1 hs7 [] rfl (WC.ret (retV1 rfl (resV.tmp rfl) ?_))))
 have hx_ := OwnF.eqOf (xs := b ++ cellsB l) ho6 (by rw [p1, List.drop_eq_nil_of_le (by omega)]; simp [cellsGo])
 rw [← hx_]
 first | exact ⟨_, _, _, rfl, (St.keep1 hs7), ho6⟩ | exact ⟨A3, c4, _, by rw [OwnF.len_ ho6], (St.keep1 hs7), by rw [OwnF.len_ ho6]; exact ho6⟩
theorem k163_ (b : Bool) (k : Int) (w : World) :
    Calls Tryz.prog 192 #[.bool b, i64 k] w fun e w' => e = .returned (.int .i64 (bitI b k)) ∧ St w [] [] w' := by
 refine enter 7 Tryz.func192 rfl Tryz.ntmps192 rfl rfl ?_
 have hs1 := St.init w
 refine WC.r1 hs1 [] rfl (WC.seq (fun K2 hK2 => WC.r1 hs1 [] rfl ?_))
 refine WC.cq rfl (fun h3 qh3 => ?_) (fun h3 qh3 => ?_)
 ·refine WC.r1 hs1 [] rfl (WC.ret (tkR ?_))
  clear hK2
  refine rtv rfl rfl hs1 ?_
  rw [show bitI b k = k from by unfold bitI; rw [h3]; rfl]
 refine WC.skip (hK2 _ _ (WC.r1 hs1 [] rfl (WC.ret (rtv rfl rfl hs1 ?_))))
 rw [show bitI b k = 0 from by unfold bitI; rw [h3]; rfl]
theorem k164_ (t : TermR) (w : World) (f_t : okTermR 549755813888 w t) (hok : termOk t.dat = true) (hsm : smTerm 1048576 t.dat) :
    Calls Tryz.prog 108 #[.agg #[i64 t.P.State, .bool t.P.Mark, .slice t.P.Args.A t.P.Args.n t.P.Args.c, .slice t.P.Part.A t.P.Part.n t.P.Part.c, i64 t.S.W, i64 t.S.H, i64 t.S.Main.W, i64 t.S.Main.H, .slice t.S.Main.Cells.A t.S.Main.Cells.n t.S.Main.Cells.c, i64 t.S.Alt.W, i64 t.S.Alt.H, .slice t.S.Alt.Cells.A t.S.Alt.Cells.n t.S.Alt.Cells.c, .bool t.S.OnAlt, i64 t.S.X, i64 t.S.Y, .bool t.S.Wrap, i64 t.S.A.Fg, i64 t.S.A.Bg, .bool t.S.A.Bold, .bool t.S.A.Under, .bool t.S.A.Turn, i64 t.S.Top, i64 t.S.Bot, .bool t.S.NoWrap, .bool t.S.Hide, i64 t.S.SaveX, i64 t.S.SaveY, i64 t.S.SaveA.Fg, i64 t.S.SaveA.Bg, .bool t.S.SaveA.Bold, .bool t.S.SaveA.Under, .bool t.S.SaveA.Turn, .slice t.S.Tabs.A t.S.Tabs.n t.S.Tabs.c, i64 t.S.Limit, .slice t.S.Back.A t.S.Back.n t.S.Back.c]] w fun e w' => ∃ A c L1, e = .returned (.slice A (termL t.dat).length c) ∧ St w [] L1 w' ∧ OwnF encB 5 (.slice A (termL t.dat).length c) (termL t.dat) L1 := by
 have nb_t_P_Args := f_t.P.Args_n
 have nl_t_P_Args := f_t.P.Args.len
 have nb_t_P_Part := f_t.P.Part_n
 have nl_t_P_Part := f_t.P.Part.len
 have nb_t_S_Main_Cells := f_t.S.Main.Cells_n
 have nl_t_S_Main_Cells := f_t.S.Main.Cells.len
 have nb_t_S_Alt_Cells := f_t.S.Alt.Cells_n
 have nl_t_S_Alt_Cells := f_t.S.Alt.Cells.len
 have nb_t_S_Tabs := f_t.S.Tabs_n
 have nl_t_S_Tabs := f_t.S.Tabs.len
 have nb_t_S_Back := f_t.S.Back_n
 have nl_t_S_Back := f_t.S.Back.sl.len
 have hT0 := termOk_P hok
 obtain ⟨hv1, hv2, hv3⟩ := vpOk_bnd hT0.1
 obtain ⟨hgm, hga⟩ := scrOk_main hT0.2
 obtain ⟨hm1, hm2⟩ := gridOk_cells hgm
 obtain ⟨ha1, ha2⟩ := gridOk_cells hga
 have hh := headL_bnd hok
 have htb := scrOk_tabs hT0.2
 have hrw := scrOk_rows hT0.2
 obtain ⟨_, _, _, _, hb5, hb6⟩ := scrOk_bnd hT0.2
 have hp1 : t.P.Part.xs.length ≤ 1048576 := hsm.1.2
 have hp2 : t.S.Tabs.xs.length ≤ 1048576 := hsm.2.2.2.1
 have hp3 : t.P.Args.xs.length ≤ 8 := hv2
 have hp4 : t.S.Main.Cells.xs.length ≤ 4000 := hm1
 have hp5 : t.S.Alt.Cells.xs.length ≤ 4000 := ha1
 have hp6 : t.S.Back.xs.length ≤ 100 := by have h9 : ((t.S.Back.xs.map RowR.dat).length : Int) ≤ t.S.Limit := hb6; have h8 : t.S.Limit ≤ 100 := hb5.2; rw [List.length_map] at h9; omega
 have q1 := numsL_len (l := headL t.dat) (fun x hx => by have := (hh x hx).2; omega)
 have q2 := numsL_len (l := t.P.Args.xs) (fun x hx => by have := (hv3 x hx).2; omega)
 have q3 := numsL_len (l := partI t.P.Part.xs) (fun x hx => by have := (partI_bnd x hx).2; omega)
 rw [partI_len] at q3
 have q4 := numsL_len (l := t.S.Tabs.xs) (fun x hx => by have := (htb x hx).2; omega)
 have q5 : (cellsB t.S.Main.Cells.xs).length ≤ 15 * t.S.Main.Cells.xs.length := cellsB_len hm1 hm2
 have q6 : (cellsB t.S.Alt.Cells.xs).length ≤ 15 * t.S.Alt.Cells.xs.length := cellsB_len ha1 ha2
 have w1 := varL_len ((t.P.Args.n : Int)).toNat (by omega)
 have w2 := varL_len ((t.P.Part.n : Int)).toNat (by omega)
 have w3 := varL_len ((t.S.Tabs.n : Int)).toNat (by omega)
 have w4 := varL_len ((t.S.Back.n : Int)).toNat (by omega)
 have hhl : (headL t.dat).length = 13 := rfl
 refine enter 127 Tryz.func108 rfl Tryz.ntmps108 rfl rfl ?_
 have hs1 := St.init w
 refine WC.sr (WL.bx hs1 rfl (fun b2 _ hs3 => WL.r 1 hs3 [] rfl (WL.nil (WC.seq (fun K4 hK4 => WC.rH hs3 hs3 (fun _ hs5 => ?_))))))
 refine WH.rn [0, 1, 2, 3] hs5 [0, 0] rfl rfl (WH.all [4, 5] (by kernel_rfl) rfl (WHs.cons (i := 4) rfl ?_ (WHs.cons (i := 5) rfl ?_ WHs.nil)))
 ·refine WL.al hs5 Tryz.zeroValue33 rfl rfl (fun b6 _ hs7 => WL.nil ⟨hs7.d1, WH.o1 5 rfl (WL.al hs7 Tryz.zeroValue25 rfl rfl (fun b8 _ hs9 => WL.nil ⟨hs9.d1.d1, WH.o1 6 rfl (WL.st tbk hs9 1 rfl rfl (fun _ hs10 => WL.nil ⟨hs10.d1.d1, ?_⟩))⟩))⟩)
  refine WH.o1 7 rfl (WL.st tbk hs10 0 rfl rfl (fun _ hs11 => WL.nil ⟨hs11.d1.d1, WH.dn (hK4 _ _ (WC.sq1 hs11 (WQ.r 2 [1] rfl ?_)))⟩))
  refine WQ.call rfl rfl rfl (fun w_ hs_ => (Run.call Tryz.call192 rfl rfl rfl)) (fun w_ hs_ => (k163_ _ _ _).mono fun e_ w_ h_ => ⟨h_.1, (hs_ : St _ _ _ _).call0 h_.2⟩) ?_
  refine WQ.r 2 [1] rfl ?_
  refine WQ.call rfl rfl rfl (fun w_ hs_ => (Run.call Tryz.call192 rfl rfl rfl)) (fun w_ hs_ => (k163_ _ _ _).mono fun e_ w_ h_ => ⟨h_.1, (hs_ : St _ _ _ _).call0 h_.2⟩) ?_
  refine WQ.run tbk 3 [1] rfl ⟨rfl, ?_, trivial⟩ ?_
  · (have e1 : 0 ≤ bitI t.S.OnAlt 1 ∧ bitI t.S.OnAlt 1 ≤ 1 := bitI_bnd (by decide); have e2 : 0 ≤ bitI t.S.Wrap 2 ∧ bitI t.S.Wrap 2 ≤ 2 := bitI_bnd (by decide); have e3 : 0 ≤ bitI t.S.NoWrap 4 ∧ bitI t.S.NoWrap 4 ≤ 4 := bitI_bnd (by decide); have e4 : 0 ≤ bitI t.S.Hide 8 ∧ bitI t.S.Hide 8 ≤ 8 := bitI_bnd (by decide); have e5 : 0 ≤ bitI t.P.Mark 16 ∧ bitI t.P.Mark 16 ≤ 16 := bitI_bnd (by decide); constructor <;> omega)
  refine WQ.call rfl rfl rfl (fun w_ hs_ => (Run.call Tryz.call192 rfl rfl rfl)) (fun w_ hs_ => (k163_ _ _ _).mono fun e_ w_ h_ => ⟨h_.1, (hs_ : St _ _ _ _).call0 h_.2⟩) ?_
  refine WQ.run tbk 3 [1] rfl ⟨rfl, ?_, trivial⟩ ?_
  · (have e1 : 0 ≤ bitI t.S.OnAlt 1 ∧ bitI t.S.OnAlt 1 ≤ 1 := bitI_bnd (by decide); have e2 : 0 ≤ bitI t.S.Wrap 2 ∧ bitI t.S.Wrap 2 ≤ 2 := bitI_bnd (by decide); have e3 : 0 ≤ bitI t.S.NoWrap 4 ∧ bitI t.S.NoWrap 4 ≤ 4 := bitI_bnd (by decide); have e4 : 0 ≤ bitI t.S.Hide 8 ∧ bitI t.S.Hide 8 ≤ 8 := bitI_bnd (by decide); have e5 : 0 ≤ bitI t.P.Mark 16 ∧ bitI t.P.Mark 16 ≤ 16 := bitI_bnd (by decide); constructor <;> omega)
  refine WQ.call rfl rfl rfl (fun w_ hs_ => (Run.call Tryz.call192 rfl rfl rfl)) (fun w_ hs_ => (k163_ _ _ _).mono fun e_ w_ h_ => ⟨h_.1, (hs_ : St _ _ _ _).call0 h_.2⟩) ?_
  refine WQ.run tbk 3 [0] rfl ⟨rfl, ?_, trivial⟩ ?_
  · (have e1 : 0 ≤ bitI t.S.OnAlt 1 ∧ bitI t.S.OnAlt 1 ≤ 1 := bitI_bnd (by decide); have e2 : 0 ≤ bitI t.S.Wrap 2 ∧ bitI t.S.Wrap 2 ≤ 2 := bitI_bnd (by decide); have e3 : 0 ≤ bitI t.S.NoWrap 4 ∧ bitI t.S.NoWrap 4 ≤ 4 := bitI_bnd (by decide); have e4 : 0 ≤ bitI t.S.Hide 8 ∧ bitI t.S.Hide 8 ≤ 8 := bitI_bnd (by decide); have e5 : 0 ≤ bitI t.P.Mark 16 ∧ bitI t.P.Mark 16 ≤ 16 := bitI_bnd (by decide); constructor <;> omega)
  refine WQ.call rfl rfl rfl (fun w_ hs_ => (Run.call Tryz.call192 rfl rfl rfl)) (fun w_ hs_ => (k163_ _ _ _).mono fun e_ w_ h_ => ⟨h_.1, (hs_ : St _ _ _ _).call0 h_.2⟩) ?_
  refine WQ.run tbk 2 [] rfl ⟨?_, trivial⟩ ?_
  · (have e1 : 0 ≤ bitI t.S.OnAlt 1 ∧ bitI t.S.OnAlt 1 ≤ 1 := bitI_bnd (by decide); have e2 : 0 ≤ bitI t.S.Wrap 2 ∧ bitI t.S.Wrap 2 ≤ 2 := bitI_bnd (by decide); have e3 : 0 ≤ bitI t.S.NoWrap 4 ∧ bitI t.S.NoWrap 4 ≤ 4 := bitI_bnd (by decide); have e4 : 0 ≤ bitI t.S.Hide 8 ∧ bitI t.S.Hide 8 ≤ 8 := bitI_bnd (by decide); have e5 : 0 ≤ bitI t.P.Mark 16 ∧ bitI t.P.Mark 16 ≤ 16 := bitI_bnd (by decide); constructor <;> omega)
  refine WQ.nil (fun _ (hs12 : St _ _ _ _) => WC.seq (fun K13 hK13 => WC.rH hs12 hs12 (fun _ hs14 => ?_)))
  refine WH.rn [0, 1, 2, 3, 4, 5, 6, 7, 8, 9, 10, 12, 13, 14, 15, 16, 17, 18, 19, 20, 21, 23, 24, 25, 26] hs14 [1, 1, 1, 1, 1, 1, 1, 1, 1, 1, 1, 0] rfl rfl (WH.o1 11 rfl (WL.cl Tryz.call194 rfl (k161_ _ _ _ _ _ _) ?_))
  rintro _ whs15 ⟨rfl, hs15⟩
  replace hs15 := hs14.call0 hs15
  refine ⟨_, rfl, WL.nil ⟨hs15, WH.o1 22 rfl (WL.cl Tryz.call194 rfl (k161_ _ _ _ _ _ _) ?_)⟩⟩
  rintro _ whs16 ⟨rfl, hs16⟩
  replace hs16 := hs15.call0 hs16
  refine ⟨_, rfl, WL.nil ⟨hs16, WH.o1 27 rfl (WL.buildF (F := encI) hs16 ((headL t.dat)) Tryz.runUnderlying23 Tryz.sizeOf3 Tryz.zeroValue3 rfl rfl rfl rfl rfl rfl rfl rfl rfl rfl rfl rfl (fun A20 c21 L17 whs18 hs18 ho19 => ?_))⟩⟩
  replace hs18 := St.back [_, _, _] hs18
  refine WL.nil ⟨(hs18.rm L17), WH.o1 28 rfl (WL.cl Tryz.call193 rfl (k160_ _ _ _ _ _ _ _ _ (OwnF.nil _ _) (by simp) (SlF.ofOwn ho19 (hs18.ow L17)) sep_nil ?_ ?_) ?_)⟩
  · first | exact fun x hx => (by have := hh x hx; omega) | exact fun x hx => (by have := hv3 x hx; omega) | exact fun x hx => (by have := htb x hx; omega)
  · first | omega | (simp only [List.length_append, List.length_nil, partI_len, List.length_take]; omega)
  rintro _ whs22 ⟨A23, c24, L1_25, rfl, hs22, ho26⟩
  replace hs22 := St.lend (A := []) hs18 hs22
  refine ⟨_, rfl, ?_⟩
  replace hs22 := St.back [_, _, _] hs22
  refine WL.nil ⟨((hs22.rm L1_25).rm L17), WH.rn [29] ((hs22.rm L1_25).rm L17) [] rfl rfl (WH.dn (hK13 _ _ (WC.seq (fun K27 hK27 => WC.rH (hs22.rm L1_25) hs22 (fun _ hs28 => ?_)))))⟩
  refine WH.rn [0, 1, 2, 3, 5, 6] (hs28.rm L1_25) [0, 0] rfl rfl (WH.o1 4 rfl (WL.cl Tryz.call195 rfl (k159_ _ _ _ _ _ ho26 (hs28.ow L1_25) ?_ ?_ ?_) ?_))
  · first | omega | exact hbv.1
  · first | omega | exact hbv.2
  · first | omega | (simp only [List.length_append, List.length_nil, partI_len, List.length_take]; omega)
  rintro _ whs29 ⟨A30, c31, L1_32, rfl, hs29, ho33⟩
  replace hs29 := St.lend (hs28.fr L1_25) hs29
  refine ⟨_, rfl, ?_⟩
  replace hs29 := St.back [_, _, _] hs29
  refine WL.nil ⟨(hs29.rm L1_32), WH.o1 7 rfl (WL.cl Tryz.call193 rfl (k160_ _ _ _ _ _ _ _ _ ho33 (hs29.ow L1_32) (SlF.st0 f_t.P.Args hs29) (St.sep (hs29.fr L1_32) f_t.P.Args) ?_ ?_) ?_)⟩
  · first | exact fun x hx => (by have := hh x hx; omega) | exact fun x hx => (by have := hv3 x hx; omega) | exact fun x hx => (by have := htb x hx; omega)
  · first | omega | (simp only [List.length_append, List.length_nil, partI_len, List.length_take]; omega)
  rintro _ whs34 ⟨A35, c36, L1_37, rfl, hs34, ho38⟩
  replace hs34 := St.lend (hs29.fr L1_32) hs34
  refine ⟨_, rfl, ?_⟩
  replace hs34 := St.back [_, _, _] hs34
  refine WL.nil ⟨(hs34.rm L1_37), WH.rn [8] (hs34.rm L1_37) [] rfl rfl (WH.dn (hK27 _ _ (WC.sr (WL.r 4 hs34 [0] rfl ?_))))⟩
  refine WL.cl Tryz.call195 rfl (k159_ _ _ _ _ _ ho38 (hs34.ow L1_37) ?_ ?_ ?_) ?_
  · first | omega | exact hbv.1
  · first | omega | exact hbv.2
  · first | omega | (simp only [List.length_append, List.length_nil, partI_len, List.length_take]; omega)
  rintro _ whs39 ⟨A40, c41, L1_42, rfl, hs39, ho43⟩
  replace hs39 := St.lend (hs34.fr L1_37) hs39
  refine ⟨_, rfl, ?_⟩
  replace hs39 := St.back [_, _, _] hs39
  refine WL.r 1 hs39 [] rfl (WL.nil (WC.seq (fun K44 hK44 => WC.r1 hs39 [0] rfl (WC.block ?_))))
  refine WC.lO [2, 3, 77, 78] rfl (hs39.fr L1_42) (fun k_ f L_ => ∃ (zs : List UInt8) (i : Nat) (A45 : Option Addr) (c46 : Nat), k_ = t.P.Part.n - i ∧ (i ≤ t.P.Part.n) ∧ (zs = [] ++ numsL (headL t.dat) ++ varL ((t.P.Args.n : Int)).toNat ++ numsL t.P.Args.xs ++ varL ((t.P.Part.n : Int)).toNat ++ numsL (partI (t.P.Part.xs.take i))) ∧ OwnF encB 5 (.slice A45 (zs.length) c46) (zs) L_ ∧ Sub [(6, .slice A45 (zs.length) c46), (79, .int .i64 i)] f) (t.P.Part.n) ?_ ?_
  ·refine ⟨[] ++ numsL (headL t.dat) ++ varL ((t.P.Args.n : Int)).toNat ++ numsL t.P.Args.xs ++ varL ((t.P.Part.n : Int)).toNat, 0, _, _, rfl, ?_, ?_, ho43, ⟨rfl, rfl, trivial⟩⟩
   · exact Nat.zero_le _
   · simp [partI, numsL]
  clear hs39
  rintro _ f w L47 ⟨zs, i, A45, c46, rfl, p0, p1, ho48, hG⟩ hF hs49
  refine WC.sub _ (hG.app hF) ?_
  clear hG hF
  replace hs49 := St.back [_, _, _] hs49
  have hz1 : zs.length ≤ 6000000 := by rw [p1]; have q7 := numsL_len (l := partI (t.P.Part.xs.take i)) (fun x hx => by have := (partI_bnd x hx).2; omega); rw [partI_len] at q7; simp only [List.length_take] at q7; simp only [List.length_append, List.length_nil]; omega
  refine WC.r1 hs49 [] rfl (WC.seq (fun K50 hK50 => ?_))
  refine WC.cq rfl (fun h51 qh51 => ?_) (fun h51 qh51 => ?_)
  ·have hbv : 0 ≤ ((gat encB t.P.Part.xs i).toNat : Int) ∧ ((gat encB t.P.Part.xs i).toNat : Int) ≤ 34359738367 := by have := (gat encB t.P.Part.xs i).toNat_lt; omega
   refine WC.skip (hK50 _ _ (WC.seq (fun K52 hK52 => WC.block (WC.sr ?_))))
   refine WL.val rfl rfl rfl (Run.idxN Tryz.runUnderlying22 Tryz.sizeOf5 rfl rfl rfl ?_ ?_ ?_) ?_
   · exact SlF.some_ (SlF.st0 f_t.P.Part hs49)
   · omega
   · omega
   refine WL.val rfl rfl rfl (Run.load Tryz.isAgg5 rfl rfl (SlF.one1 (SlF.st0 f_t.P.Part hs49) ?_ rfl)) ?_
   · omega
   refine WL.r 1 hs49 [] rfl (WL.nil (WC.region (WL.r 3 hs49 [] rfl (WL.cl Tryz.call195 rfl (k159_ _ _ _ _ _ ho48 (hs49.ow L47) ?_ ?_ ?_) ?_))))
   · first | omega | exact hbv.1
   · first | omega | exact hbv.2
   · first | omega | (simp only [List.length_append, List.length_nil, partI_len, List.length_take]; omega)
   rintro _ whs53 ⟨A54, c55, L1_56, rfl, hs53, ho57⟩
   replace hs53 := St.lend (hs49.fr L47) hs53
   refine ⟨_, rfl, ?_⟩
   replace hs53 := St.back [_, _, _] hs53
   refine WL.r 1 hs53 [] rfl (WL.nil (hK52 _ _ (WC.region (WL.r 2 hs53 [] rfl (WL.nil (tkN ?_))))))
   refine ⟨sbF rfl, _, (hs53.fr L1_56), _, ?_, _, i + 1, _, _, rfl, ?_, ?_, ho57, ⟨rfl, rfl, trivial⟩⟩
   · omega
   · omega
   · rw [p1, partI_take (by omega), numsL_append, numsL_one]; simp only [List.append_assoc]; try rfl
  have hin : i = t.P.Part.n := by omega
  have hz3 : zs = [] ++ numsL (headL t.dat) ++ varL ((t.P.Args.n : Int)).toNat ++ numsL t.P.Args.xs ++ varL ((t.P.Part.n : Int)).toNat ++ numsL (partI t.P.Part.xs) := by rw [p1, hin, List.take_of_length_le (by omega)]
  subst hz3
  refine WC.exit (hK44 _ _ (WC.seq (fun K58 hK58 => WC.rH (hs49.rm L47) hs49 (fun _ hs59 => ?_))))
  refine WH.rn [0, 1, 2, 3, 5, 6] (hs59.rm L47) [1, 1] rfl rfl (WH.o1 4 rfl (WL.cl Tryz.call195 rfl (k159_ _ _ _ _ _ ho48 (hs59.ow L47) ?_ ?_ ?_) ?_))
  · first | omega | exact hbv.1
  · first | omega | exact hbv.2
  · first | omega | (simp only [List.length_append, List.length_nil, partI_len, List.length_take]; omega)
  rintro _ whs60 ⟨A61, c62, L1_63, rfl, hs60, ho64⟩
  replace hs60 := St.lend (hs59.fr L47) hs60
  refine ⟨_, rfl, ?_⟩
  replace hs60 := St.back [_, _, _] hs60
  refine WL.nil ⟨(hs60.rm L1_63), WH.o1 7 rfl (WL.cl Tryz.call193 rfl (k160_ _ _ _ _ _ _ _ _ ho64 (hs60.ow L1_63) (SlF.st0 f_t.S.Tabs hs60) (St.sep (hs60.fr L1_63) f_t.S.Tabs) ?_ ?_) ?_)⟩
  · first | exact fun x hx => (by have := hh x hx; omega) | exact fun x hx => (by have := hv3 x hx; omega) | exact fun x hx => (by have := htb x hx; omega)
  · first | omega | (simp only [List.length_append, List.length_nil, partI_len, List.length_take]; omega)
  rintro _ whs65 ⟨A66, c67, L1_68, rfl, hs65, ho69⟩
  replace hs65 := St.lend (hs60.fr L1_63) hs65
  refine ⟨_, rfl, ?_⟩
  replace hs65 := St.back [_, _, _] hs65
  refine WL.nil ⟨(hs65.rm L1_68), WH.rn [8] (hs65.rm L1_68) [] rfl rfl (WH.dn (hK58 _ _ (WC.seq (fun K70 hK70 => WC.rH (hs65.rm L1_68) hs65 (fun _ hs71 => ?_)))))⟩
  refine WH.rn [0, 1, 2, 3, 5, 6, 7] (hs71.rm L1_68) [1, 1] rfl rfl (WH.o1 4 rfl (WL.cl Tryz.call110 rfl (k162_ _ _ _ _ _ _ _ _ ho69 (hs71.ow L1_68) (SlF.st0 f_t.S.Main.Cells hs71) (St.sep (hs71.fr L1_68) f_t.S.Main.Cells) ?_ ?_ ?_) ?_))
  · omega
  · first | exact hm2 | exact ha2 | exact hrc2
  · first | omega | (simp only [List.length_append, List.length_nil, partI_len, List.length_take]; omega)
  rintro _ whs72 ⟨A73, c74, L1_75, rfl, hs72, ho76⟩
  replace hs72 := St.lend (hs71.fr L1_68) hs72
  refine ⟨_, rfl, ?_⟩
  replace hs72 := St.back [_, _, _] hs72
  refine WL.nil ⟨(hs72.rm L1_75), WH.o1 8 rfl (WL.cl Tryz.call110 rfl (k162_ _ _ _ _ _ _ _ _ ho76 (hs72.ow L1_75) (SlF.st0 f_t.S.Alt.Cells hs72) (St.sep (hs72.fr L1_75) f_t.S.Alt.Cells) ?_ ?_ ?_) ?_)⟩
  · omega
  · first | exact hm2 | exact ha2 | exact hrc2
  · first | omega | (simp only [List.length_append, List.length_nil, partI_len, List.length_take]; omega)
  rintro _ whs77 ⟨A78, c79, L1_80, rfl, hs77, ho81⟩
  replace hs77 := St.lend (hs72.fr L1_75) hs77
  refine ⟨_, rfl, ?_⟩
  replace hs77 := St.back [_, _, _] hs77
  refine WL.nil ⟨(hs77.rm L1_80), WH.rn [9] (hs77.rm L1_80) [] rfl rfl (WH.dn (hK70 _ _ (WC.sr (WL.r 4 hs77 [1] rfl ?_))))⟩
  refine WL.cl Tryz.call195 rfl (k159_ _ _ _ _ _ ho81 (hs77.ow L1_80) ?_ ?_ ?_) ?_
  · first | omega | exact hbv.1
  · first | omega | exact hbv.2
  · first | omega | (simp only [List.length_append, List.length_nil, partI_len, List.length_take]; omega)
  rintro _ whs82 ⟨A83, c84, L1_85, rfl, hs82, ho86⟩
  replace hs82 := St.lend (hs77.fr L1_80) hs82
  refine ⟨_, rfl, ?_⟩
  replace hs82 := St.back [_, _, _] hs82
  refine WL.r 1 hs82 [] rfl (WL.nil (WC.seq (fun K87 hK87 => WC.r1 hs82 [1] rfl (WC.block ?_))))
  refine WC.lO [2, 80, 111, 112] rfl (hs82.fr L1_85) (fun k_ f L_ => ∃ (zs : List UInt8) (i : Nat) (A88 : Option Addr) (c89 : Nat), k_ = t.S.Back.n - i ∧ (i ≤ t.S.Back.n) ∧ (zs = [] ++ numsL (headL t.dat) ++ varL ((t.P.Args.n : Int)).toNat ++ numsL t.P.Args.xs ++ varL ((t.P.Part.n : Int)).toNat ++ numsL (partI t.P.Part.xs) ++ varL ((t.S.Tabs.n : Int)).toNat ++ numsL t.S.Tabs.xs ++ cellsB t.S.Main.Cells.xs ++ cellsB t.S.Alt.Cells.xs ++ varL ((t.S.Back.n : Int)).toNat ++ rowsL ((t.S.Back.xs.take i).map RowR.dat)) ∧ OwnF encB 5 (.slice A88 (zs.length) c89) (zs) L_ ∧ Sub [(6, .slice A88 (zs.length) c89), (113, .int .i64 i)] f) (t.S.Back.n) ?_ ?_
  ·refine ⟨[] ++ numsL (headL t.dat) ++ varL ((t.P.Args.n : Int)).toNat ++ numsL t.P.Args.xs ++ varL ((t.P.Part.n : Int)).toNat ++ numsL (partI t.P.Part.xs) ++ varL ((t.S.Tabs.n : Int)).toNat ++ numsL t.S.Tabs.xs ++ cellsB t.S.Main.Cells.xs ++ cellsB t.S.Alt.Cells.xs ++ varL ((t.S.Back.n : Int)).toNat, 0, _, _, rfl, ?_, ?_, ho86, ⟨rfl, rfl, trivial⟩⟩
   · exact Nat.zero_le _
   · simp [rowsL]
  clear hs82
  rintro _ f w L90 ⟨zs, i, A88, c89, rfl, r0, r1, ho91, hG⟩ hF hs92
  refine WC.sub _ (hG.app hF) ?_
  clear hG hF
  replace hs92 := St.back [_, _, _] hs92
  have hz2 : zs.length ≤ 20000000 := by rw [r1]; have q8 := rowsL_len (b := (t.S.Back.xs.take i).map RowR.dat) (fun r hr => hrw r (by obtain ⟨y, hy, rfl⟩ := List.mem_map.1 hr; exact List.mem_map_of_mem (List.mem_of_mem_take hy))); rw [List.length_map, List.length_take] at q8; simp only [List.length_append, List.length_nil, partI_len]; omega
  refine WC.r1 hs92 [] rfl (WC.seq (fun K93 hK93 => ?_))
  refine WC.cq rfl (fun h94 qh94 => ?_) (fun h94 qh94 => ?_)
  ·have hrk := rowOk_cells (hrw (RowR.dat (gat encRowR t.S.Back.xs i)) (List.mem_map_of_mem (gat_mem (by omega))))
   have hrc1 : (gat encRowR t.S.Back.xs i).Cells.xs.length ≤ 120 := hrk.1
   have hrc2 : cellsOk (gat encRowR t.S.Back.xs i).Cells.xs = true := hrk.2
   have hrn := (SlN.nth f_t.S.Back (show i < t.S.Back.n by omega)).Cells.len
   have w5 := varL_len (((gat encRowR t.S.Back.xs i).Cells.n : Int)).toNat (by omega)
   refine WC.skip (hK93 _ _ (WC.seq (fun K95 hK95 => WC.block (WC.sr ?_))))
   refine WL.val rfl rfl rfl (Run.idxN Tryz.runUnderlying31 Tryz.sizeOf98 rfl rfl rfl ?_ ?_ ?_) ?_
   · exact SlF.some_ (SlF.st0 f_t.S.Back.sl hs92)
   · omega
   · omega
   refine WL.val rfl rfl rfl (Run.loadA Tryz.isAgg98 Tryz.sizeOf98 rfl rfl (SlF.whole (SlF.st0 f_t.S.Back.sl hs92) ?_)) ?_
   · omega
   refine WL.al hs92 Tryz.zeroValue98 rfl rfl (fun b96 _ hs97 => WL.st tbk hs97 0 rfl rfl (fun _ hs98 => WL.nil (WC.rH (hs98.rm L90) hs98 (fun _ hs99 => ?_))))
   refine WH.rn [0, 1, 2, 3, 5, 6] (hs99.rm L90) [0, 0] rfl rfl (WH.o1 4 rfl (WL.cl Tryz.call195 rfl (k159_ _ _ _ _ _ ho91 (hs99.ow L90) ?_ ?_ ?_) ?_))
   · first | omega | exact hbv.1
   · first | omega | exact hbv.2
   · first | omega | (simp only [List.length_append, List.length_nil, partI_len, List.length_take]; omega)
   rintro _ whs100 ⟨A101, c102, L1_103, rfl, hs100, ho104⟩
   replace hs100 := St.lend (hs99.fr L90) hs100
   refine ⟨_, rfl, ?_⟩
   replace hs100 := St.back [_, _, _, _] hs100
   refine WL.nil ⟨(hs100.rm L1_103), WH.o1 7 rfl (WL.cl Tryz.call110 rfl (k162_ _ _ _ _ _ _ _ _ ho104 (hs100.ow L1_103) (SlF.st0 (SlN.nth f_t.S.Back (by omega)).Cells hs100) (St.sep (hs100.fr L1_103) (SlN.nth f_t.S.Back (by omega)).Cells) ?_ ?_ ?_) ?_)⟩
   · omega
   · first | exact hm2 | exact ha2 | exact hrc2
   · first | omega | (simp only [List.length_append, List.length_nil, partI_len, List.length_take]; omega)
   rintro _ whs105 ⟨A106, c107, L1_108, rfl, hs105, ho109⟩
   replace hs105 := St.lend (hs100.fr L1_103) hs105
   refine ⟨_, rfl, ?_⟩
   replace hs105 := St.back [_, _, _, _] hs105
   refine WL.nil ⟨(hs105.rm L1_108), WH.rn [8] (hs105.rm L1_108) [] rfl rfl (WH.dn (hK95 _ _ (WC.region (WL.r 2 hs105 [] rfl (WL.nil (tkN ?_))))))⟩
   replace hs105 := hs105.d1
   refine ⟨sbF rfl, _, (hs105.fr L1_108), _, ?_, _, i + 1, _, _, rfl, ?_, ?_, ho109, ⟨rfl, rfl, trivial⟩⟩
   · omega
   · omega
   · rw [r1, rowsL_take (by omega)]; simp only [List.append_assoc, Int.toNat_natCast, hrn]; try rfl
  refine WC.exit (hK87 _ _ (WC.r1 hs92 [] rfl (WC.ret (retV1 rfl (resV.tmp rfl) ?_))))
  have hx_ := OwnF.eqOf (xs := termL t.dat) ho91 (by rw [r1, List.take_of_length_le (by omega)]; unfold termL; simp only [Int.toNat_natCast, List.append_assoc, List.nil_append]; have e_ : t.dat.S.Back.length = t.S.Back.n := (List.length_map _).trans nl_t_S_Back; rw [e_, ← nl_t_P_Args, ← nl_t_P_Part, ← nl_t_S_Tabs]; rfl)
  rw [← hx_]
  first | exact ⟨_, _, _, rfl, (St.keep1 (hs92.fr L90)), ho91⟩ | exact ⟨A88, c89, _, by rw [OwnF.len_ ho91], (St.keep1 (hs92.fr L90)), by rw [OwnF.len_ ho91]; exact ho91⟩
 refine WL.al hs5 Tryz.zeroValue25 rfl rfl (fun b110 _ hs111 => WL.nil ⟨hs111.d1, WH.o1 4 rfl (WL.al hs111 Tryz.zeroValue33 rfl rfl (fun b112 _ hs113 => WL.nil ⟨hs113.d1.d1, WH.o1 6 rfl (WL.st tbk hs113 0 rfl rfl (fun _ hs114 => WL.nil ⟨hs114.d1.d1, ?_⟩))⟩))⟩)
 refine WH.o1 7 rfl (WL.st tbk hs114 1 rfl rfl (fun _ hs115 => WL.nil ⟨hs115.d1.d1, WH.dn (hK4 _ _ (WC.sq1 hs115 (WQ.r 2 [0] rfl ?_)))⟩))
 refine WQ.call rfl rfl rfl (fun w_ hs_ => (Run.call Tryz.call192 rfl rfl rfl)) (fun w_ hs_ => (k163_ _ _ _).mono fun e_ w_ h_ => ⟨h_.1, (hs_ : St _ _ _ _).call0 h_.2⟩) ?_
 refine WQ.r 2 [0] rfl ?_
 refine WQ.call rfl rfl rfl (fun w_ hs_ => (Run.call Tryz.call192 rfl rfl rfl)) (fun w_ hs_ => (k163_ _ _ _).mono fun e_ w_ h_ => ⟨h_.1, (hs_ : St _ _ _ _).call0 h_.2⟩) ?_
 refine WQ.run tbk 3 [0] rfl ⟨rfl, ?_, trivial⟩ ?_
 · (have e1 : 0 ≤ bitI t.S.OnAlt 1 ∧ bitI t.S.OnAlt 1 ≤ 1 := bitI_bnd (by decide); have e2 : 0 ≤ bitI t.S.Wrap 2 ∧ bitI t.S.Wrap 2 ≤ 2 := bitI_bnd (by decide); have e3 : 0 ≤ bitI t.S.NoWrap 4 ∧ bitI t.S.NoWrap 4 ≤ 4 := bitI_bnd (by decide); have e4 : 0 ≤ bitI t.S.Hide 8 ∧ bitI t.S.Hide 8 ≤ 8 := bitI_bnd (by decide); have e5 : 0 ≤ bitI t.P.Mark 16 ∧ bitI t.P.Mark 16 ≤ 16 := bitI_bnd (by decide); constructor <;> omega)
 refine WQ.call rfl rfl rfl (fun w_ hs_ => (Run.call Tryz.call192 rfl rfl rfl)) (fun w_ hs_ => (k163_ _ _ _).mono fun e_ w_ h_ => ⟨h_.1, (hs_ : St _ _ _ _).call0 h_.2⟩) ?_
 refine WQ.run tbk 3 [0] rfl ⟨rfl, ?_, trivial⟩ ?_
 · (have e1 : 0 ≤ bitI t.S.OnAlt 1 ∧ bitI t.S.OnAlt 1 ≤ 1 := bitI_bnd (by decide); have e2 : 0 ≤ bitI t.S.Wrap 2 ∧ bitI t.S.Wrap 2 ≤ 2 := bitI_bnd (by decide); have e3 : 0 ≤ bitI t.S.NoWrap 4 ∧ bitI t.S.NoWrap 4 ≤ 4 := bitI_bnd (by decide); have e4 : 0 ≤ bitI t.S.Hide 8 ∧ bitI t.S.Hide 8 ≤ 8 := bitI_bnd (by decide); have e5 : 0 ≤ bitI t.P.Mark 16 ∧ bitI t.P.Mark 16 ≤ 16 := bitI_bnd (by decide); constructor <;> omega)
 refine WQ.call rfl rfl rfl (fun w_ hs_ => (Run.call Tryz.call192 rfl rfl rfl)) (fun w_ hs_ => (k163_ _ _ _).mono fun e_ w_ h_ => ⟨h_.1, (hs_ : St _ _ _ _).call0 h_.2⟩) ?_
 refine WQ.run tbk 3 [1] rfl ⟨rfl, ?_, trivial⟩ ?_
 · (have e1 : 0 ≤ bitI t.S.OnAlt 1 ∧ bitI t.S.OnAlt 1 ≤ 1 := bitI_bnd (by decide); have e2 : 0 ≤ bitI t.S.Wrap 2 ∧ bitI t.S.Wrap 2 ≤ 2 := bitI_bnd (by decide); have e3 : 0 ≤ bitI t.S.NoWrap 4 ∧ bitI t.S.NoWrap 4 ≤ 4 := bitI_bnd (by decide); have e4 : 0 ≤ bitI t.S.Hide 8 ∧ bitI t.S.Hide 8 ≤ 8 := bitI_bnd (by decide); have e5 : 0 ≤ bitI t.P.Mark 16 ∧ bitI t.P.Mark 16 ≤ 16 := bitI_bnd (by decide); constructor <;> omega)
 refine WQ.call rfl rfl rfl (fun w_ hs_ => (Run.call Tryz.call192 rfl rfl rfl)) (fun w_ hs_ => (k163_ _ _ _).mono fun e_ w_ h_ => ⟨h_.1, (hs_ : St _ _ _ _).call0 h_.2⟩) ?_
 refine WQ.run tbk 2 [] rfl ⟨?_, trivial⟩ ?_
 · (have e1 : 0 ≤ bitI t.S.OnAlt 1 ∧ bitI t.S.OnAlt 1 ≤ 1 := bitI_bnd (by decide); have e2 : 0 ≤ bitI t.S.Wrap 2 ∧ bitI t.S.Wrap 2 ≤ 2 := bitI_bnd (by decide); have e3 : 0 ≤ bitI t.S.NoWrap 4 ∧ bitI t.S.NoWrap 4 ≤ 4 := bitI_bnd (by decide); have e4 : 0 ≤ bitI t.S.Hide 8 ∧ bitI t.S.Hide 8 ≤ 8 := bitI_bnd (by decide); have e5 : 0 ≤ bitI t.P.Mark 16 ∧ bitI t.P.Mark 16 ≤ 16 := bitI_bnd (by decide); constructor <;> omega)
 refine WQ.nil (fun _ (hs116 : St _ _ _ _) => WC.seq (fun K117 hK117 => WC.rH hs116 hs116 (fun _ hs118 => ?_)))
 refine WH.rn [0, 1, 2, 3, 4, 5, 6, 7, 8, 9, 10, 12, 13, 14, 15, 16, 17, 18, 19, 20, 21, 23, 24, 25, 26] hs118 [0, 0, 0, 0, 0, 0, 0, 0, 0, 0, 0, 1] rfl rfl (WH.o1 11 rfl (WL.cl Tryz.call194 rfl (k161_ _ _ _ _ _ _) ?_))
 rintro _ whs119 ⟨rfl, hs119⟩
 replace hs119 := hs118.call0 hs119
 refine ⟨_, rfl, WL.nil ⟨hs119, WH.o1 22 rfl (WL.cl Tryz.call194 rfl (k161_ _ _ _ _ _ _) ?_)⟩⟩
 rintro _ whs120 ⟨rfl, hs120⟩
 replace hs120 := hs119.call0 hs120
 refine ⟨_, rfl, WL.nil ⟨hs120, WH.o1 27 rfl (WL.buildF (F := encI) hs120 ((headL t.dat)) Tryz.runUnderlying23 Tryz.sizeOf3 Tryz.zeroValue3 rfl rfl rfl rfl rfl rfl rfl rfl rfl rfl rfl rfl (fun A124 c125 L121 whs122 hs122 ho123 => ?_))⟩⟩
 replace hs122 := St.back [_, _, _] hs122
 refine WL.nil ⟨(hs122.rm L121), WH.o1 28 rfl (WL.cl Tryz.call193 rfl (k160_ _ _ _ _ _ _ _ _ (OwnF.nil _ _) (by simp) (SlF.ofOwn ho123 (hs122.ow L121)) sep_nil ?_ ?_) ?_)⟩
 · first | exact fun x hx => (by have := hh x hx; omega) | exact fun x hx => (by have := hv3 x hx; omega) | exact fun x hx => (by have := htb x hx; omega)
 · first | omega | (simp only [List.length_append, List.length_nil, partI_len, List.length_take]; omega)
 rintro _ whs126 ⟨A127, c128, L1_129, rfl, hs126, ho130⟩
 replace hs126 := St.lend (A := []) hs122 hs126
 refine ⟨_, rfl, ?_⟩
 replace hs126 := St.back [_, _, _] hs126
 refine WL.nil ⟨((hs126.rm L1_129).rm L121), WH.rn [29] ((hs126.rm L1_129).rm L121) [] rfl rfl (WH.dn (hK117 _ _ (WC.seq (fun K131 hK131 => WC.rH (hs126.rm L1_129) hs126 (fun _ hs132 => ?_)))))⟩
 refine WH.rn [0, 1, 2, 3, 5, 6] (hs132.rm L1_129) [1, 1] rfl rfl (WH.o1 4 rfl (WL.cl Tryz.call195 rfl (k159_ _ _ _ _ _ ho130 (hs132.ow L1_129) ?_ ?_ ?_) ?_))
 · first | omega | exact hbv.1
 · first | omega | exact hbv.2
 · first | omega | (simp only [List.length_append, List.length_nil, partI_len, List.length_take]; omega)
 rintro _ whs133 ⟨A134, c135, L1_136, rfl, hs133, ho137⟩
 replace hs133 := St.lend (hs132.fr L1_129) hs133
 refine ⟨_, rfl, ?_⟩
 replace hs133 := St.back [_, _, _] hs133
 refine WL.nil ⟨(hs133.rm L1_136), WH.o1 7 rfl (WL.cl Tryz.call193 rfl (k160_ _ _ _ _ _ _ _ _ ho137 (hs133.ow L1_136) (SlF.st0 f_t.P.Args hs133) (St.sep (hs133.fr L1_136) f_t.P.Args) ?_ ?_) ?_)⟩
 · first | exact fun x hx => (by have := hh x hx; omega) | exact fun x hx => (by have := hv3 x hx; omega) | exact fun x hx => (by have := htb x hx; omega)
 · first | omega | (simp only [List.length_append, List.length_nil, partI_len, List.length_take]; omega)
 rintro _ whs138 ⟨A139, c140, L1_141, rfl, hs138, ho142⟩
 replace hs138 := St.lend (hs133.fr L1_136) hs138
 refine ⟨_, rfl, ?_⟩
 replace hs138 := St.back [_, _, _] hs138
 refine WL.nil ⟨(hs138.rm L1_141), WH.rn [8] (hs138.rm L1_141) [] rfl rfl (WH.dn (hK131 _ _ (WC.sr (WL.r 4 hs138 [1] rfl ?_))))⟩
 refine WL.cl Tryz.call195 rfl (k159_ _ _ _ _ _ ho142 (hs138.ow L1_141) ?_ ?_ ?_) ?_
 · first | omega | exact hbv.1
 · first | omega | exact hbv.2
 · first | omega | (simp only [List.length_append, List.length_nil, partI_len, List.length_take]; omega)
 rintro _ whs143 ⟨A144, c145, L1_146, rfl, hs143, ho147⟩
 replace hs143 := St.lend (hs138.fr L1_141) hs143
 refine ⟨_, rfl, ?_⟩
 replace hs143 := St.back [_, _, _] hs143
 refine WL.r 1 hs143 [] rfl (WL.nil (WC.seq (fun K148 hK148 => WC.r1 hs143 [1] rfl (WC.block ?_))))
 refine WC.lO [2, 3, 77, 78] rfl (hs143.fr L1_146) (fun k_ f L_ => ∃ (zs : List UInt8) (i : Nat) (A149 : Option Addr) (c150 : Nat), k_ = t.P.Part.n - i ∧ (i ≤ t.P.Part.n) ∧ (zs = [] ++ numsL (headL t.dat) ++ varL ((t.P.Args.n : Int)).toNat ++ numsL t.P.Args.xs ++ varL ((t.P.Part.n : Int)).toNat ++ numsL (partI (t.P.Part.xs.take i))) ∧ OwnF encB 5 (.slice A149 (zs.length) c150) (zs) L_ ∧ Sub [(6, .slice A149 (zs.length) c150), (79, .int .i64 i)] f) (t.P.Part.n) ?_ ?_
 ·refine ⟨[] ++ numsL (headL t.dat) ++ varL ((t.P.Args.n : Int)).toNat ++ numsL t.P.Args.xs ++ varL ((t.P.Part.n : Int)).toNat, 0, _, _, rfl, ?_, ?_, ho147, ⟨rfl, rfl, trivial⟩⟩
  · exact Nat.zero_le _
  · simp [partI, numsL]
 clear hs143
 rintro _ f w L151 ⟨zs, i, A149, c150, rfl, p0, p1, ho152, hG⟩ hF hs153
 refine WC.sub _ (hG.app hF) ?_
 clear hG hF
 replace hs153 := St.back [_, _, _] hs153
 have hz1 : zs.length ≤ 6000000 := by rw [p1]; have q7 := numsL_len (l := partI (t.P.Part.xs.take i)) (fun x hx => by have := (partI_bnd x hx).2; omega); rw [partI_len] at q7; simp only [List.length_take] at q7; simp only [List.length_append, List.length_nil]; omega
 refine WC.r1 hs153 [] rfl (WC.seq (fun K154 hK154 => ?_))
 refine WC.cq rfl (fun h155 qh155 => ?_) (fun h155 qh155 => ?_)
 ·have hbv : 0 ≤ ((gat encB t.P.Part.xs i).toNat : Int) ∧ ((gat encB t.P.Part.xs i).toNat : Int) ≤ 34359738367 := by have := (gat encB t.P.Part.xs i).toNat_lt; omega
  refine WC.skip (hK154 _ _ (WC.seq (fun K156 hK156 => WC.block (WC.sr ?_))))
  refine WL.val rfl rfl rfl (Run.idxN Tryz.runUnderlying22 Tryz.sizeOf5 rfl rfl rfl ?_ ?_ ?_) ?_
  · exact SlF.some_ (SlF.st0 f_t.P.Part hs153)
  · omega
  · omega
  refine WL.val rfl rfl rfl (Run.load Tryz.isAgg5 rfl rfl (SlF.one1 (SlF.st0 f_t.P.Part hs153) ?_ rfl)) ?_
  · omega
  refine WL.r 1 hs153 [] rfl (WL.nil (WC.region (WL.r 3 hs153 [] rfl (WL.cl Tryz.call195 rfl (k159_ _ _ _ _ _ ho152 (hs153.ow L151) ?_ ?_ ?_) ?_))))
  · first | omega | exact hbv.1
  · first | omega | exact hbv.2
  · first | omega | (simp only [List.length_append, List.length_nil, partI_len, List.length_take]; omega)
  rintro _ whs157 ⟨A158, c159, L1_160, rfl, hs157, ho161⟩
  replace hs157 := St.lend (hs153.fr L151) hs157
  refine ⟨_, rfl, ?_⟩
  replace hs157 := St.back [_, _, _] hs157
  refine WL.r 1 hs157 [] rfl (WL.nil (hK156 _ _ (WC.region (WL.r 2 hs157 [] rfl (WL.nil (tkN ?_))))))
  refine ⟨sbF rfl, _, (hs157.fr L1_160), _, ?_, _, i + 1, _, _, rfl, ?_, ?_, ho161, ⟨rfl, rfl, trivial⟩⟩
  · omega
  · omega
  · rw [p1, partI_take (by omega), numsL_append, numsL_one]; simp only [List.append_assoc]; try rfl
 have hin : i = t.P.Part.n := by omega
 have hz3 : zs = [] ++ numsL (headL t.dat) ++ varL ((t.P.Args.n : Int)).toNat ++ numsL t.P.Args.xs ++ varL ((t.P.Part.n : Int)).toNat ++ numsL (partI t.P.Part.xs) := by rw [p1, hin, List.take_of_length_le (by omega)]
 subst hz3
 refine WC.exit (hK148 _ _ (WC.seq (fun K162 hK162 => WC.rH (hs153.rm L151) hs153 (fun _ hs163 => ?_))))
 refine WH.rn [0, 1, 2, 3, 5, 6] (hs163.rm L151) [0, 0] rfl rfl (WH.o1 4 rfl (WL.cl Tryz.call195 rfl (k159_ _ _ _ _ _ ho152 (hs163.ow L151) ?_ ?_ ?_) ?_))
 · first | omega | exact hbv.1
 · first | omega | exact hbv.2
 · first | omega | (simp only [List.length_append, List.length_nil, partI_len, List.length_take]; omega)
 rintro _ whs164 ⟨A165, c166, L1_167, rfl, hs164, ho168⟩
 replace hs164 := St.lend (hs163.fr L151) hs164
 refine ⟨_, rfl, ?_⟩
 replace hs164 := St.back [_, _, _] hs164
 refine WL.nil ⟨(hs164.rm L1_167), WH.o1 7 rfl (WL.cl Tryz.call193 rfl (k160_ _ _ _ _ _ _ _ _ ho168 (hs164.ow L1_167) (SlF.st0 f_t.S.Tabs hs164) (St.sep (hs164.fr L1_167) f_t.S.Tabs) ?_ ?_) ?_)⟩
 · first | exact fun x hx => (by have := hh x hx; omega) | exact fun x hx => (by have := hv3 x hx; omega) | exact fun x hx => (by have := htb x hx; omega)
 · first | omega | (simp only [List.length_append, List.length_nil, partI_len, List.length_take]; omega)
 rintro _ whs169 ⟨A170, c171, L1_172, rfl, hs169, ho173⟩
 replace hs169 := St.lend (hs164.fr L1_167) hs169
 refine ⟨_, rfl, ?_⟩
 replace hs169 := St.back [_, _, _] hs169
 refine WL.nil ⟨(hs169.rm L1_172), WH.rn [8] (hs169.rm L1_172) [] rfl rfl (WH.dn (hK162 _ _ (WC.seq (fun K174 hK174 => WC.rH (hs169.rm L1_172) hs169 (fun _ hs175 => ?_)))))⟩
 refine WH.rn [0, 1, 2, 3, 5, 6, 7] (hs175.rm L1_172) [0, 0] rfl rfl (WH.o1 4 rfl (WL.cl Tryz.call110 rfl (k162_ _ _ _ _ _ _ _ _ ho173 (hs175.ow L1_172) (SlF.st0 f_t.S.Main.Cells hs175) (St.sep (hs175.fr L1_172) f_t.S.Main.Cells) ?_ ?_ ?_) ?_))
 · omega
 · first | exact hm2 | exact ha2 | exact hrc2
 · first | omega | (simp only [List.length_append, List.length_nil, partI_len, List.length_take]; omega)
 rintro _ whs176 ⟨A177, c178, L1_179, rfl, hs176, ho180⟩
 replace hs176 := St.lend (hs175.fr L1_172) hs176
 refine ⟨_, rfl, ?_⟩
 replace hs176 := St.back [_, _, _] hs176
 refine WL.nil ⟨(hs176.rm L1_179), WH.o1 8 rfl (WL.cl Tryz.call110 rfl (k162_ _ _ _ _ _ _ _ _ ho180 (hs176.ow L1_179) (SlF.st0 f_t.S.Alt.Cells hs176) (St.sep (hs176.fr L1_179) f_t.S.Alt.Cells) ?_ ?_ ?_) ?_)⟩
 · omega
 · first | exact hm2 | exact ha2 | exact hrc2
 · first | omega | (simp only [List.length_append, List.length_nil, partI_len, List.length_take]; omega)
 rintro _ whs181 ⟨A182, c183, L1_184, rfl, hs181, ho185⟩
 replace hs181 := St.lend (hs176.fr L1_179) hs181
 refine ⟨_, rfl, ?_⟩
 replace hs181 := St.back [_, _, _] hs181
 refine WL.nil ⟨(hs181.rm L1_184), WH.rn [9] (hs181.rm L1_184) [] rfl rfl (WH.dn (hK174 _ _ (WC.sr (WL.r 4 hs181 [0] rfl ?_))))⟩
 refine WL.cl Tryz.call195 rfl (k159_ _ _ _ _ _ ho185 (hs181.ow L1_184) ?_ ?_ ?_) ?_
 · first | omega | exact hbv.1
 · first | omega | exact hbv.2
 · first | omega | (simp only [List.length_append, List.length_nil, partI_len, List.length_take]; omega)
 rintro _ whs186 ⟨A187, c188, L1_189, rfl, hs186, ho190⟩
 replace hs186 := St.lend (hs181.fr L1_184) hs186
 refine ⟨_, rfl, ?_⟩
 replace hs186 := St.back [_, _, _] hs186
 refine WL.r 1 hs186 [] rfl (WL.nil (WC.seq (fun K191 hK191 => WC.r1 hs186 [0] rfl (WC.block ?_))))
 refine WC.lO [2, 80, 111, 112] rfl (hs186.fr L1_189) (fun k_ f L_ => ∃ (zs : List UInt8) (i : Nat) (A192 : Option Addr) (c193 : Nat), k_ = t.S.Back.n - i ∧ (i ≤ t.S.Back.n) ∧ (zs = [] ++ numsL (headL t.dat) ++ varL ((t.P.Args.n : Int)).toNat ++ numsL t.P.Args.xs ++ varL ((t.P.Part.n : Int)).toNat ++ numsL (partI t.P.Part.xs) ++ varL ((t.S.Tabs.n : Int)).toNat ++ numsL t.S.Tabs.xs ++ cellsB t.S.Main.Cells.xs ++ cellsB t.S.Alt.Cells.xs ++ varL ((t.S.Back.n : Int)).toNat ++ rowsL ((t.S.Back.xs.take i).map RowR.dat)) ∧ OwnF encB 5 (.slice A192 (zs.length) c193) (zs) L_ ∧ Sub [(6, .slice A192 (zs.length) c193), (113, .int .i64 i)] f) (t.S.Back.n) ?_ ?_
 ·refine ⟨[] ++ numsL (headL t.dat) ++ varL ((t.P.Args.n : Int)).toNat ++ numsL t.P.Args.xs ++ varL ((t.P.Part.n : Int)).toNat ++ numsL (partI t.P.Part.xs) ++ varL ((t.S.Tabs.n : Int)).toNat ++ numsL t.S.Tabs.xs ++ cellsB t.S.Main.Cells.xs ++ cellsB t.S.Alt.Cells.xs ++ varL ((t.S.Back.n : Int)).toNat, 0, _, _, rfl, ?_, ?_, ho190, ⟨rfl, rfl, trivial⟩⟩
  · exact Nat.zero_le _
  · simp [rowsL]
 clear hs186
 rintro _ f w L194 ⟨zs, i, A192, c193, rfl, r0, r1, ho195, hG⟩ hF hs196
 refine WC.sub _ (hG.app hF) ?_
 clear hG hF
 replace hs196 := St.back [_, _, _] hs196
 have hz2 : zs.length ≤ 20000000 := by rw [r1]; have q8 := rowsL_len (b := (t.S.Back.xs.take i).map RowR.dat) (fun r hr => hrw r (by obtain ⟨y, hy, rfl⟩ := List.mem_map.1 hr; exact List.mem_map_of_mem (List.mem_of_mem_take hy))); rw [List.length_map, List.length_take] at q8; simp only [List.length_append, List.length_nil, partI_len]; omega
 refine WC.r1 hs196 [] rfl (WC.seq (fun K197 hK197 => ?_))
 refine WC.cq rfl (fun h198 qh198 => ?_) (fun h198 qh198 => ?_)
 ·have hrk := rowOk_cells (hrw (RowR.dat (gat encRowR t.S.Back.xs i)) (List.mem_map_of_mem (gat_mem (by omega))))
  have hrc1 : (gat encRowR t.S.Back.xs i).Cells.xs.length ≤ 120 := hrk.1
  have hrc2 : cellsOk (gat encRowR t.S.Back.xs i).Cells.xs = true := hrk.2
  have hrn := (SlN.nth f_t.S.Back (show i < t.S.Back.n by omega)).Cells.len
  have w5 := varL_len (((gat encRowR t.S.Back.xs i).Cells.n : Int)).toNat (by omega)
  refine WC.skip (hK197 _ _ (WC.seq (fun K199 hK199 => WC.block (WC.sr ?_))))
  refine WL.val rfl rfl rfl (Run.idxN Tryz.runUnderlying31 Tryz.sizeOf98 rfl rfl rfl ?_ ?_ ?_) ?_
  · exact SlF.some_ (SlF.st0 f_t.S.Back.sl hs196)
  · omega
  · omega
  refine WL.val rfl rfl rfl (Run.loadA Tryz.isAgg98 Tryz.sizeOf98 rfl rfl (SlF.whole (SlF.st0 f_t.S.Back.sl hs196) ?_)) ?_
  · omega
  refine WL.al hs196 Tryz.zeroValue98 rfl rfl (fun b200 _ hs201 => WL.st tbk hs201 0 rfl rfl (fun _ hs202 => WL.nil (WC.rH (hs202.rm L194) hs202 (fun _ hs203 => ?_))))
  refine WH.rn [0, 1, 2, 3, 5, 6] (hs203.rm L194) [0, 0] rfl rfl (WH.o1 4 rfl (WL.cl Tryz.call195 rfl (k159_ _ _ _ _ _ ho195 (hs203.ow L194) ?_ ?_ ?_) ?_))
  · first | omega | exact hbv.1
  · first | omega | exact hbv.2
  · first | omega | (simp only [List.length_append, List.length_nil, partI_len, List.length_take]; omega)
  rintro _ whs204 ⟨A205, c206, L1_207, rfl, hs204, ho208⟩
  replace hs204 := St.lend (hs203.fr L194) hs204
  refine ⟨_, rfl, ?_⟩
  replace hs204 := St.back [_, _, _, _] hs204
  refine WL.nil ⟨(hs204.rm L1_207), WH.o1 7 rfl (WL.cl Tryz.call110 rfl (k162_ _ _ _ _ _ _ _ _ ho208 (hs204.ow L1_207) (SlF.st0 (SlN.nth f_t.S.Back (by omega)).Cells hs204) (St.sep (hs204.fr L1_207) (SlN.nth f_t.S.Back (by omega)).Cells) ?_ ?_ ?_) ?_)⟩
  · omega
  · first | exact hm2 | exact ha2 | exact hrc2
  · first | omega | (simp only [List.length_append, List.length_nil, partI_len, List.length_take]; omega)
  rintro _ whs209 ⟨A210, c211, L1_212, rfl, hs209, ho213⟩
  replace hs209 := St.lend (hs204.fr L1_207) hs209
  refine ⟨_, rfl, ?_⟩
  replace hs209 := St.back [_, _, _, _] hs209
  refine WL.nil ⟨(hs209.rm L1_212), WH.rn [8] (hs209.rm L1_212) [] rfl rfl (WH.dn (hK199 _ _ (WC.region (WL.r 2 hs209 [] rfl (WL.nil (tkN ?_))))))⟩
  replace hs209 := hs209.d1
  refine ⟨sbF rfl, _, (hs209.fr L1_212), _, ?_, _, i + 1, _, _, rfl, ?_, ?_, ho213, ⟨rfl, rfl, trivial⟩⟩
  · omega
  · omega
  · rw [r1, rowsL_take (by omega)]; simp only [List.append_assoc, Int.toNat_natCast, hrn]; try rfl
 refine WC.exit (hK191 _ _ (WC.r1 hs196 [] rfl (WC.ret (retV1 rfl (resV.tmp rfl) ?_))))
 have hx_ := OwnF.eqOf (xs := termL t.dat) ho195 (by rw [r1, List.take_of_length_le (by omega)]; unfold termL; simp only [Int.toNat_natCast, List.append_assoc, List.nil_append]; have e_ : t.dat.S.Back.length = t.S.Back.n := (List.length_map _).trans nl_t_S_Back; rw [e_, ← nl_t_P_Args, ← nl_t_P_Part, ← nl_t_S_Tabs]; rfl)
 rw [← hx_]
 first | exact ⟨_, _, _, rfl, (St.keep1 (hs196.fr L194)), ho195⟩ | exact ⟨A192, c193, _, by rw [OwnF.len_ ho195], (St.keep1 (hs196.fr L194)), by rw [OwnF.len_ ho195]; exact ho195⟩
theorem k165_ (t : TermR) (w : World) (f_t : okTermR 549755813888 w t) (hsm : smTerm 1048576 t.dat) :
    Calls Tryz.prog 36 #[.agg #[i64 t.P.State, .bool t.P.Mark, .slice t.P.Args.A t.P.Args.n t.P.Args.c, .slice t.P.Part.A t.P.Part.n t.P.Part.c, i64 t.S.W, i64 t.S.H, i64 t.S.Main.W, i64 t.S.Main.H, .slice t.S.Main.Cells.A t.S.Main.Cells.n t.S.Main.Cells.c, i64 t.S.Alt.W, i64 t.S.Alt.H, .slice t.S.Alt.Cells.A t.S.Alt.Cells.n t.S.Alt.Cells.c, .bool t.S.OnAlt, i64 t.S.X, i64 t.S.Y, .bool t.S.Wrap, i64 t.S.A.Fg, i64 t.S.A.Bg, .bool t.S.A.Bold, .bool t.S.A.Under, .bool t.S.A.Turn, i64 t.S.Top, i64 t.S.Bot, .bool t.S.NoWrap, .bool t.S.Hide, i64 t.S.SaveX, i64 t.S.SaveY, i64 t.S.SaveA.Fg, i64 t.S.SaveA.Bg, .bool t.S.SaveA.Bold, .bool t.S.SaveA.Under, .bool t.S.SaveA.Turn, .slice t.S.Tabs.A t.S.Tabs.n t.S.Tabs.c, i64 t.S.Limit, .slice t.S.Back.A t.S.Back.n t.S.Back.c]] w fun e w' => ∃ A c L1, e = .returned (.tuple #[.slice A (termOut t.dat).length c, .bool (termFine t.dat)]) ∧ St w [] L1 w' ∧ OwnF encB 5 (.slice A (termOut t.dat).length c) (termOut t.dat) L1 := by
 have nb_t_P_Args := f_t.P.Args_n
 have nl_t_P_Args := f_t.P.Args.len
 have nb_t_P_Part := f_t.P.Part_n
 have nl_t_P_Part := f_t.P.Part.len
 have nb_t_S_Main_Cells := f_t.S.Main.Cells_n
 have nl_t_S_Main_Cells := f_t.S.Main.Cells.len
 have nb_t_S_Alt_Cells := f_t.S.Alt.Cells_n
 have nl_t_S_Alt_Cells := f_t.S.Alt.Cells.len
 have nb_t_S_Tabs := f_t.S.Tabs_n
 have nl_t_S_Tabs := f_t.S.Tabs.len
 have nb_t_S_Back := f_t.S.Back_n
 have nl_t_S_Back := f_t.S.Back.sl.len
 refine enter 14 Tryz.func36 rfl Tryz.ntmps36 rfl rfl ?_
 have hs1 := St.init w
 refine WC.sr (WL.bx hs1 rfl (fun b2 _ hs3 => WL.r 2 hs3 [] rfl (WL.nil (WC.seq (fun K4 hK4 => WC.sr (WL.r 1 hs3 [0] rfl (WL.cl Tryz.call107 rfl (k120_ t _ (okTermR.st0 f_t hs3)) ?_)))))))
 rintro _ whs5 ⟨rfl, hs5⟩
 replace hs5 := hs3.call0 hs5
 refine ⟨_, rfl, WL.r 1 hs5 [] rfl (WL.nil (WC.cq rfl (fun h6 qh6 => ?_) (fun h6 qh6 => ?_)))⟩
 ·have hf : termFine t.dat = false := by unfold termFine; rw [show termOk t.dat = false from by have h9 := h6; simpa using h9]; rfl
  refine WC.r1 hs5 [] rfl (WC.ret (tkR ?_))
  clear hK4
  refine retV2 rfl (resV.tmp rfl) (resV.tmp rfl) ?_
  rw [hf]
  have hx_ := OwnF.eqOf (xs := termOut t.dat) (OwnF.nil encB 5) (by simp [termOut, hf])
  rw [← hx_]
  exact ⟨_, _, _, rfl, hs5.nil, (OwnF.nil encB 5)⟩
 have hok : termOk t.dat = true := by have h9 := h6; simpa using h9
 refine WC.skip (hK4 _ _ (WC.sr (WL.r 1 hs5 [0] rfl ?_)))
 refine WL.cl Tryz.call108 rfl (k164_ t _ (okTermR.st0 f_t hs5) ?_ ?_) ?_
 iterate 2 first | assumption | rfl | omega
 rintro _ whs7 ⟨A8, c9, L1_10, rfl, hs7, ho11⟩
 replace hs7 := hs5.callF hs7
 refine ⟨_, rfl, ?_⟩
 replace hs7 := St.back [_] hs7
 refine WL.r 1 hs7 [] rfl (WL.nil (WC.seq (fun K12 hK12 => WC.r1 hs7 [] rfl ?_)))
 refine WC.cq rfl (fun h13 qh13 => ?_) (fun h13 qh13 => ?_)
 ·have hf : termFine t.dat = false := by unfold termFine; rw [hok, Bool.true_and, decide_eq_false_iff_not]; have h9 := qh13; omega
  refine WC.r1 hs7 [] rfl (WC.ret (tkR ?_))
  clear hK12
  refine retV2 rfl (resV.tmp rfl) (resV.tmp rfl) ?_
  rw [hf]
  have hx_ := OwnF.eqOf (xs := termOut t.dat) (OwnF.nil encB 5) (by simp [termOut, hf])
  rw [← hx_]
  exact ⟨_, _, _, rfl, hs7.nil, (OwnF.nil encB 5)⟩
 have hf : termFine t.dat = true := by unfold termFine; rw [hok, Bool.true_and, decide_eq_true_eq]; have h9 := qh13; omega
 refine WC.skip (hK12 _ _ (WC.r1 hs7 [] rfl (WC.ret (retV2 rfl (resV.tmp rfl) (resV.tmp rfl) ?_))))
 rw [hf]
 have hx_ := OwnF.eqOf (xs := termOut t.dat) ho11 (by unfold termOut; rw [hf]; rfl)
 rw [← hx_]
 first | exact ⟨_, _, _, rfl, (St.keep1 (hs7.fr L1_10)), ho11⟩ | exact ⟨A8, c9, _, by rw [OwnF.len_ ho11], (St.keep1 (hs7.fr L1_10)), by rw [OwnF.len_ ho11]; exact ho11⟩
set_option maxHeartbeats 4000000 in
theorem k166_ (A_s : Option Addr) (n_s c_s : Nat) (s : List UInt8) (w : World) (f_s : SlF encB w A_s n_s s) :
    Calls Tryz.prog 9 #[.slice A_s n_s c_s] w fun e w' => e = .returned (.bool true) ∧ St w [] [] w' := by
 have hbl := f_s.len
 refine enter 60 Tryz.func9 rfl Tryz.ntmps9 rfl rfl ?_
 have hs1 := St.init w
 refine WC.r1 hs1 [] rfl (WC.seq (fun K2 hK2 => WC.r1 hs1 [] rfl ?_))
 refine WC.cq rfl (fun h3 qh3 => ?_) (fun h3 qh3 => ?_)
 ·refine WC.r1 hs1 [] rfl (WC.ret (tkR ?_))
  clear hK2
  refine retV1 rfl (resV.tmp rfl) (⟨rfl, hs1.nil⟩)
 have hn : n_s ≤ 1048576 := by have h9 := h3; simp at h9; omega
 refine WC.skip (hK2 _ _ (WC.sr (WL.r 1 hs1 [] rfl ?_)))
 refine WL.cl Tryz.call35 rfl (k157_ _ _ _ _ _ (SlF.st0 f_s hs1) ?_) ?_
 · first | assumption | rfl | omega
 rintro _ whs4 ⟨r5, L1_6, rfl, hs4, ho7, hm8⟩
 replace hs4 := hs1.callF hs4
 refine ⟨_, rfl, ?_⟩
 have hT0 := hm8
 have hok0 := hT0.ok
 have hBT : smTerm 549755813888 r5.dat := SmallT.sm hT0 (by decide)
 have hMT : smTerm 1048576 r5.dat := SmallT.sm hT0 (by decide)
 refine WL.al hs4 Tryz.zeroValue35 rfl rfl (fun b9 _ hs10 => WL.st tbk hs10 0 rfl rfl (fun _ hs11 => WL.nil (WC.sr (WL.r 1 hs11 [] rfl ?_))))
 refine WL.cl Tryz.call45 rfl (k158_ _ _ _ _ _ (SlF.st0 f_s hs11) ?_) ?_
 · first | assumption | rfl | omega
 rintro _ whs12 ⟨A13, c14, zs15, L1_16, rfl, hs12, ho17, hzl18⟩
 replace hs12 := hs11.callF hs12
 refine ⟨_, rfl, ?_⟩
 replace hs12 := St.back [_] hs12
 have hzl := hzl18
 refine WL.r 1 hs12 [] rfl (WL.nil (WC.sr (WL.r 2 hs12 [] rfl (WL.val rfl rfl rfl (Run.quo rfl rfl rfl ?_ ?_ ?_) ?_))))
 · omega
 · omega
 · omega
 refine WL.r 1 hs12 [] rfl (WL.nil (WC.sr (WL.r 2 hs12 [0] rfl (WL.cl Tryz.call46 rfl (k154_ r5 _ _ _ _ _ (ownTermR.ok (B := 549755813888) ho7 (hs12.ow L1_6) (by assumption)) (SlF.ofOwn ho17 (hs12.ow L1_16)) ?_ ?_) ?_))))
 iterate 2 first | assumption | omega
 rintro _ whs19 ⟨r20, L1_21, rfl, hs19, ho22, hd23⟩
 replace hs19 := hs12.callF hs19
 refine ⟨_, rfl, ?_⟩
 replace hs19 := St.back [_] hs19
 have hda := hd23
 have hTa : SmallT r20.dat := by rw [hd23]; exact hT0.feed
 have hBa : smTerm 549755813888 r20.dat := hTa.sm (by decide)
 have hMa : smTerm 1048576 r20.dat := hTa.sm (by decide)
 have hBra := hBa
 rw [hd23] at hBra
 refine WL.al hs19 Tryz.zeroValue35 rfl rfl (fun b24 _ hs25 => WL.st tbk hs25 0 rfl rfl (fun _ hs26 => WL.nil (WC.seq (fun K27 hK27 => WC.rH hs26 hs26 (fun _ hs28 => ?_)))))
 refine WH.rn [0, 1, 2] hs28 [1] rfl rfl ?_
 have hc_ := OwnF.cap ho17
 refine WH.take 3 rfl (by kernel_rfl) rfl rfl rfl hs28 (fun w_ hs_ => (Run.sliceH (zs15.length / 3) Tryz.runUnderlying22 Tryz.sizeOf5 rfl rfl rfl ?_ ?_)) ?_
 · first | rfl | (omega)
 · refine ⟨?_, ?_, ?_⟩ <;> (omega)
 refine WH.rn [5, 6] hs28 [] rfl rfl ?_
 have hc_ := OwnF.cap ho17
 refine WH.take 7 rfl (by kernel_rfl) rfl rfl rfl hs28 (fun w_ hs_ => (Run.sliceL (zs15.length / 3) Tryz.runUnderlying22 Tryz.sizeOf5 rfl rfl rfl ?_ ?_)) ?_
 · first | rfl | (omega)
 · refine ⟨?_, ?_, ?_⟩ <;> (omega)
 refine WH.all [4, 9] (by kernel_rfl) rfl (WHs.cons (i := 4) rfl ?_ (WHs.cons (i := 9) rfl ?_ WHs.nil))
 ·refine WL.cl Tryz.call46 rfl (k154_ r5 _ _ _ _ _ (ownTermR.ok (B := 549755813888) ho7 (hs28.ow L1_6) (by assumption)) (SlF.cutH (zs15.length / 3) (SlF.ofOwn ho17 (hs28.ow L1_16)) (by refine ⟨?_, ?_, ?_⟩ <;> (omega))) ?_ ?_) ?_
  iterate 2 first | assumption | omega
  rintro _ whs29 ⟨r30, L1_31, rfl, hs29, ho32, hd33⟩
  replace hs29 := hs28.callF hs29
  refine ⟨_, rfl, ?_⟩
  replace hs29 := St.back [_, _] hs29
  have hdb := hd33
  have hTb : SmallT r30.dat := by rw [hd33]; exact hT0.feed
  have hBb : smTerm 549755813888 r30.dat := hTb.sm (by decide)
  have hMb : smTerm 1048576 r30.dat := hTb.sm (by decide)
  have hBrb := hBb
  rw [hd33] at hBrb
  refine WL.nil ⟨(hs29.rm L1_31), WH.all [8, 9] (by kernel_rfl) rfl (WHs.cons (i := 8) rfl ?_ (WHs.cons (i := 9) rfl ?_ WHs.nil))⟩
  ·refine WL.cl Tryz.call46 rfl (k154_ r30 _ _ _ _ _ (ownTermR.ok (B := 549755813888) ho32 (hs29.ow L1_31) (by rw [hd33]; assumption)) (SlF.cutL (zs15.length / 3) (SlF.ofOwn ho17 (hs29.ow L1_16)) (by refine ⟨?_, ?_, ?_⟩ <;> (omega))) ?_ ?_) ?_
   iterate 2 first | assumption | omega
   rintro _ whs34 ⟨r35, L1_36, rfl, hs34, ho37, hd38⟩
   replace hs34 := hs29.callF hs34
   refine ⟨_, rfl, ?_⟩
   replace hs34 := St.back [_, _] hs34
   have hdc := hd38
   have hTc : SmallT r35.dat := by rw [hd38]; exact hTb.feed
   have hBc : smTerm 549755813888 r35.dat := hTc.sm (by decide)
   have hMc : smTerm 1048576 r35.dat := hTc.sm (by decide)
   have hBrc := hBc
   rw [hd38] at hBrc
   have heq : r35.dat = r20.dat := by rw [hdc, hdb, hda, termFeed_append hok0, List.take_append_drop]
   refine WL.nil ⟨((hs34.rm L1_36).rm L1_31), WH.o1 9 rfl (WL.al hs34 Tryz.zeroValue35 rfl rfl (fun b39 _ hs40 => WL.nil ⟨((hs40.d1.rm L1_36).rm L1_31), WH.o1 10 rfl (WL.st tbk hs40 0 rfl rfl (fun _ hs41 => WL.nil ⟨((hs41.d1.rm L1_36).rm L1_31), WH.dn ?_⟩))⟩))⟩
   refine hK27 _ _ (WC.sr (WL.r 1 hs41 [1] rfl ?_))
   refine WL.cl Tryz.call36 rfl (k165_ r20 _ (ownTermR.ok (B := 549755813888) ho22 (hs41.ow L1_21) (by rw [hd23]; assumption)) ?_) ?_
   · first | assumption | rfl | omega
   rintro _ whs42 ⟨A43, c44, L1_45, rfl, hs42, ho46⟩
   replace hs42 := hs41.callF hs42
   refine ⟨_, rfl, ?_⟩
   replace hs42 := St.back [_, _, _] hs42
   refine WL.r 5 hs42 [] rfl (WL.nil (WC.sr (WL.r 1 hs42 [0] rfl ?_)))
   refine WL.cl Tryz.call36 rfl (k165_ r35 _ (ownTermR.ok (B := 549755813888) ho37 (hs42.ow L1_36) (by rw [hd38]; assumption)) ?_) ?_
   · first | assumption | rfl | omega
   rintro _ whs47 ⟨A48, c49, L1_50, rfl, hs47, ho51⟩
   replace hs47 := hs42.callF hs47
   refine ⟨_, rfl, ?_⟩
   replace hs47 := St.back [_, _, _] hs47
   refine WL.r 5 hs47 [] rfl (WL.nil (WC.sr (WL.r 2 hs47 [] rfl (WL.pA tbk 1 Acts.nil hs47 [] rfl rfl rfl rfl (fun g_ => trivial) (WL.r 1 hs47 [] rfl ?_)))))
   apply WL.gA 5 Acts.nil hs47 rfl
   ·intro g52 J53
    have qg52 := g52
    try simp only [bf, within_iff, within_not] at qg52
    refine WL.runA tbk 1 (Acts.nil.cons (j := 4) rfl g52) hs47 [] rfl trivial (WL.val (wantT rfl g52) rfl rfl (Run.strOf (SlF.ofOwn ho46 (hs47.ow L1_45)) Tryz.underlying22 Tryz.underlying5 Tryz.underlying9 rfl rfl) (WL.runA tbk 1 (Acts.nil.cons (j := 4) rfl g52) hs47 [] rfl trivial (WL.val (wantT rfl g52) rfl rfl (Run.strOf (SlF.ofOwn ho51 (hs47.ow L1_50)) Tryz.underlying22 Tryz.underlying5 Tryz.underlying9 rfl rfl) (WL.runA tbk 1 (Acts.nil.cons (j := 4) rfl g52) hs47 [] rfl trivial (WL.eA 5 Acts.nil J53 hs47 g52 rfl rfl)))))
   intro _ hs54
   refine WL.r 1 hs54 [] rfl (WL.pA tbk 3 Acts.nil hs54 [] rfl rfl rfl rfl (fun g_ => trivial) (WL.r 1 hs54 [] rfl (WL.nil (WC.ret (retV1 rfl (resV.tmp rfl) (⟨congrArg Ending.returned (congrArg Value.bool ?_), hs54.nil⟩))))))
   have q1 := hTa.fine
   have q2 := hTa.out
   simp only [heq, q1]
   simp; omega
  refine WL.al hs29 Tryz.zeroValue35 rfl rfl (fun b55 _ hs56 => WL.nil ⟨(hs56.d1.rm L1_31), WH.o1 8 rfl ?_⟩)
  refine WL.cl Tryz.call46 rfl (k154_ r30 _ _ _ _ _ (ownTermR.ok (B := 549755813888) ho32 (hs56.ow L1_31) (by rw [hd33]; assumption)) (SlF.cutL (zs15.length / 3) (SlF.ofOwn ho17 (hs56.ow L1_16)) (by refine ⟨?_, ?_, ?_⟩ <;> (omega))) ?_ ?_) ?_
  iterate 2 first | assumption | omega
  rintro _ whs57 ⟨r58, L1_59, rfl, hs57, ho60, hd61⟩
  replace hs57 := hs56.callF hs57
  refine ⟨_, rfl, ?_⟩
  replace hs57 := St.back [_, _, _] hs57
  have hdc := hd61
  have hTc : SmallT r58.dat := by rw [hd61]; exact hTb.feed
  have hBc : smTerm 549755813888 r58.dat := hTc.sm (by decide)
  have hMc : smTerm 1048576 r58.dat := hTc.sm (by decide)
  have hBrc := hBc
  rw [hd61] at hBrc
  have heq : r58.dat = r20.dat := by rw [hdc, hdb, hda, termFeed_append hok0, List.take_append_drop]
  refine WL.nil ⟨((hs57.d1.rm L1_59).rm L1_31), WH.o1 10 rfl (WL.st tbk hs57 0 rfl rfl (fun _ hs62 => WL.nil ⟨((hs62.d1.rm L1_59).rm L1_31), WH.dn (hK27 _ _ (WC.sr (WL.r 1 hs62 [1] rfl ?_)))⟩))⟩
  refine WL.cl Tryz.call36 rfl (k165_ r20 _ (ownTermR.ok (B := 549755813888) ho22 (hs62.ow L1_21) (by rw [hd23]; assumption)) ?_) ?_
  · first | assumption | rfl | omega
  rintro _ whs63 ⟨A64, c65, L1_66, rfl, hs63, ho67⟩
  replace hs63 := hs62.callF hs63
  refine ⟨_, rfl, ?_⟩
  replace hs63 := St.back [_, _, _] hs63
  refine WL.r 5 hs63 [] rfl (WL.nil (WC.sr (WL.r 1 hs63 [0] rfl ?_)))
  refine WL.cl Tryz.call36 rfl (k165_ r58 _ (ownTermR.ok (B := 549755813888) ho60 (hs63.ow L1_59) (by rw [hd61]; assumption)) ?_) ?_
  · first | assumption | rfl | omega
  rintro _ whs68 ⟨A69, c70, L1_71, rfl, hs68, ho72⟩
  replace hs68 := hs63.callF hs68
  refine ⟨_, rfl, ?_⟩
  replace hs68 := St.back [_, _, _] hs68
  refine WL.r 5 hs68 [] rfl (WL.nil (WC.sr (WL.r 2 hs68 [] rfl (WL.pA tbk 1 Acts.nil hs68 [] rfl rfl rfl rfl (fun g_ => trivial) (WL.r 1 hs68 [] rfl ?_)))))
  apply WL.gA 5 Acts.nil hs68 rfl
  ·intro g73 J74
   have qg73 := g73
   try simp only [bf, within_iff, within_not] at qg73
   refine WL.runA tbk 1 (Acts.nil.cons (j := 4) rfl g73) hs68 [] rfl trivial (WL.val (wantT rfl g73) rfl rfl (Run.strOf (SlF.ofOwn ho67 (hs68.ow L1_66)) Tryz.underlying22 Tryz.underlying5 Tryz.underlying9 rfl rfl) (WL.runA tbk 1 (Acts.nil.cons (j := 4) rfl g73) hs68 [] rfl trivial (WL.val (wantT rfl g73) rfl rfl (Run.strOf (SlF.ofOwn ho72 (hs68.ow L1_71)) Tryz.underlying22 Tryz.underlying5 Tryz.underlying9 rfl rfl) (WL.runA tbk 1 (Acts.nil.cons (j := 4) rfl g73) hs68 [] rfl trivial (WL.eA 5 Acts.nil J74 hs68 g73 rfl rfl)))))
  intro _ hs75
  refine WL.r 1 hs75 [] rfl (WL.pA tbk 3 Acts.nil hs75 [] rfl rfl rfl rfl (fun g_ => trivial) (WL.r 1 hs75 [] rfl (WL.nil (WC.ret (retV1 rfl (resV.tmp rfl) (⟨congrArg Ending.returned (congrArg Value.bool ?_), hs75.nil⟩))))))
  have q1 := hTa.fine
  have q2 := hTa.out
  simp only [heq, q1]
  simp; omega
 refine WL.al hs28 Tryz.zeroValue35 rfl rfl (fun b76 _ hs77 => WL.nil ⟨hs77.d1, WH.o1 4 rfl ?_⟩)
 refine WL.cl Tryz.call46 rfl (k154_ r5 _ _ _ _ _ (ownTermR.ok (B := 549755813888) ho7 (hs77.ow L1_6) (by assumption)) (SlF.cutH (zs15.length / 3) (SlF.ofOwn ho17 (hs77.ow L1_16)) (by refine ⟨?_, ?_, ?_⟩ <;> (omega))) ?_ ?_) ?_
 iterate 2 first | assumption | omega
 rintro _ whs78 ⟨r79, L1_80, rfl, hs78, ho81, hd82⟩
 replace hs78 := hs77.callF hs78
 refine ⟨_, rfl, ?_⟩
 replace hs78 := St.back [_, _, _] hs78
 have hdb := hd82
 have hTb : SmallT r79.dat := by rw [hd82]; exact hT0.feed
 have hBb : smTerm 549755813888 r79.dat := hTb.sm (by decide)
 have hMb : smTerm 1048576 r79.dat := hTb.sm (by decide)
 have hBrb := hBb
 rw [hd82] at hBrb
 refine WL.nil ⟨(hs78.d1.rm L1_80), WH.o1 8 rfl ?_⟩
 refine WL.cl Tryz.call46 rfl (k154_ r79 _ _ _ _ _ (ownTermR.ok (B := 549755813888) ho81 (hs78.ow L1_80) (by rw [hd82]; assumption)) (SlF.cutL (zs15.length / 3) (SlF.ofOwn ho17 (hs78.ow L1_16)) (by refine ⟨?_, ?_, ?_⟩ <;> (omega))) ?_ ?_) ?_
 iterate 2 first | assumption | omega
 rintro _ whs83 ⟨r84, L1_85, rfl, hs83, ho86, hd87⟩
 replace hs83 := hs78.callF hs83
 refine ⟨_, rfl, ?_⟩
 replace hs83 := St.back [_, _, _] hs83
 have hdc := hd87
 have hTc : SmallT r84.dat := by rw [hd87]; exact hTb.feed
 have hBc : smTerm 549755813888 r84.dat := hTc.sm (by decide)
 have hMc : smTerm 1048576 r84.dat := hTc.sm (by decide)
 have hBrc := hBc
 rw [hd87] at hBrc
 have heq : r84.dat = r20.dat := by rw [hdc, hdb, hda, termFeed_append hok0, List.take_append_drop]
 refine WL.nil ⟨((hs83.d1.rm L1_85).rm L1_80), WH.o1 10 rfl (WL.st tbk hs83 0 rfl rfl (fun _ hs88 => WL.nil ⟨((hs88.d1.rm L1_85).rm L1_80), WH.dn (hK27 _ _ (WC.sr (WL.r 1 hs88 [1] rfl ?_)))⟩))⟩
 refine WL.cl Tryz.call36 rfl (k165_ r20 _ (ownTermR.ok (B := 549755813888) ho22 (hs88.ow L1_21) (by rw [hd23]; assumption)) ?_) ?_
 · first | assumption | rfl | omega
 rintro _ whs89 ⟨A90, c91, L1_92, rfl, hs89, ho93⟩
 replace hs89 := hs88.callF hs89
 refine ⟨_, rfl, ?_⟩
 replace hs89 := St.back [_, _, _] hs89
 refine WL.r 5 hs89 [] rfl (WL.nil (WC.sr (WL.r 1 hs89 [0] rfl ?_)))
 refine WL.cl Tryz.call36 rfl (k165_ r84 _ (ownTermR.ok (B := 549755813888) ho86 (hs89.ow L1_85) (by rw [hd87]; assumption)) ?_) ?_
 · first | assumption | rfl | omega
 rintro _ whs94 ⟨A95, c96, L1_97, rfl, hs94, ho98⟩
 replace hs94 := hs89.callF hs94
 refine ⟨_, rfl, ?_⟩
 replace hs94 := St.back [_, _, _] hs94
 refine WL.r 5 hs94 [] rfl (WL.nil (WC.sr (WL.r 2 hs94 [] rfl (WL.pA tbk 1 Acts.nil hs94 [] rfl rfl rfl rfl (fun g_ => trivial) (WL.r 1 hs94 [] rfl ?_)))))
 apply WL.gA 5 Acts.nil hs94 rfl
 ·intro g99 J100
  have qg99 := g99
  try simp only [bf, within_iff, within_not] at qg99
  refine WL.runA tbk 1 (Acts.nil.cons (j := 4) rfl g99) hs94 [] rfl trivial (WL.val (wantT rfl g99) rfl rfl (Run.strOf (SlF.ofOwn ho93 (hs94.ow L1_92)) Tryz.underlying22 Tryz.underlying5 Tryz.underlying9 rfl rfl) (WL.runA tbk 1 (Acts.nil.cons (j := 4) rfl g99) hs94 [] rfl trivial (WL.val (wantT rfl g99) rfl rfl (Run.strOf (SlF.ofOwn ho98 (hs94.ow L1_97)) Tryz.underlying22 Tryz.underlying5 Tryz.underlying9 rfl rfl) (WL.runA tbk 1 (Acts.nil.cons (j := 4) rfl g99) hs94 [] rfl trivial (WL.eA 5 Acts.nil J100 hs94 g99 rfl rfl)))))
 intro _ hs101
 refine WL.r 1 hs101 [] rfl (WL.pA tbk 3 Acts.nil hs101 [] rfl rfl rfl rfl (fun g_ => trivial) (WL.r 1 hs101 [] rfl (WL.nil (WC.ret (retV1 rfl (resV.tmp rfl) (⟨congrArg Ending.returned (congrArg Value.bool ?_), hs101.nil⟩))))))
 have q1 := hTa.fine
 have q2 := hTa.out
 simp only [heq, q1]
 simp; omega
open Go Go.RowKit Go.ChangeShapes Go.WideShapes Go.ChangeAt Go.Deep
section
variable {H : Type} {enc : TypeId × Value → H} {P : Program} {w : World} {base : Nat} {spare : Nat → Bool} {held : Bool} {fuel : Nat} {t e : TypeId} {cs : List Value} {x : DataW H × List MemPlace}
theorem open_SlB (ht : P.underlying t = some (.slice e)) (he : P.underlying e = some (.int .u8)) (hc : P.cellsOf e = 1) (h : DataW.trod enc P w base spare held fuel t cs = some x) :
  ∃ A n c xs, cs = [.slice A n c] ∧ SlB w A n xs ∧ n ≤ 9223372036854775807 := by
 rcases open_ints ht he hc h with ⟨rfl, _⟩ | ⟨a, l, c, zs, rfl, _, hl, hm, hz, _, hcell, hwz⟩
 ·exact ⟨none, 0, 0, [], rfl, ⟨rfl, SlR.nil _ _ _⟩, by omega⟩
 ·have hlz : l ≤ zs.length := by rw [hz]; split <;> omega
  refine ⟨some a, l, c, (zs.take l).map (fun z => UInt8.ofNat z.toNat), rfl, ⟨by simp; omega, ⟨by rw [rows_len]; simp [encB]; omega, fun _ => rfl, fun j v hv => ?_⟩⟩, by simp only [maxLen] at hm; omega⟩
  have hj : j < l := by
   have := (List.getElem?_eq_some_iff.1 hv).1
   simp [bytesV_len] at this; omega
  have hc1 := hcell j (by omega)
  have hw := hwz (zs.getD j 0) (by rw [List.getD_eq_getElem?_getD, List.getElem?_eq_getElem (show j < zs.length by omega)]; exact List.getElem_mem _)
  simp [Lit.wf, IntKind.min, IntKind.max, IntKind.signed, IntKind.bits] at hw
  show w.cell? (a.add j) = some v
  rw [hc1, ← hv]
  have hlt : j < zs.length := by omega
  have e1 : zs.getD j 0 = zs[j] := by rw [List.getD_eq_getElem?_getD, List.getElem?_eq_getElem hlt]; rfl
  rw [e1]
  simp only [List.getElem?_eq_getElem hlt, Option.getD_some] at hw
  simp [bytesV_map, hj, List.getElem?_eq_getElem hlt, UInt8.toNat_ofNat']
  omega
end
namespace fnFeed
open Go.ChangeShapes Go.WideShapes Go.ChangeAt Go.RowKit
theorem own : ownKnob Tryz.prog.godebug = none := by kernel_rfl
theorem laidOut : laidOutB Tryz.prog = true := by kernel_rfl
set_option maxRecDepth 100000 in
set_option maxHeartbeats 1000000 in
theorem lifted (os : Os) (started : os.Started) (H : Type) (enc : TypeId × Value → H) :
    ReturnsInHanded {} Tryz.checked os 9 .any (Rows.fnFeedSpec.pre6 enc Tryz.prog Tryz.f9 Rows.fnFeedRow.domain false) (Rows.fnFeedSpec.post enc Tryz.prog Tryz.f9 false true false false) := by
  refine returnsInHanded_of_change (C := Tryz.checked) own started (by kernel_rfl) Tryz.func9
    (ChangeSpec.witness6 (enc := enc) (C := Tryz.checked) false ⟨#[], #[.slice none 0 0], []⟩ 8 (by kernel_rfl) (by kernel_rfl) (by kernel_rfl) (by kernel_rfl)) ?_
  intro W base args ds gs before hval0 hW hcnd _
  have hval : ∀ (j : Nat) t v, Tryz.f9.params[j]? = some t → args[j]? = some v → Value.okWide Tryz.prog W .any base t v := hval0
  have hW' := hW
  obtain ⟨p, q, hA0, hV, rfl, hfz, hnd⟩ := hW
  have hA : DataW.TrodAll enc Tryz.prog W 0 (fun _ => true) true Tryz.f9.params.toList args.toList ds p := hA0
  rw [Tryz.params9] at hA hval
  obtain ⟨v0, vs0, d0, ds0, p0, q0, hargs, rfl, rfl, h0, r0⟩ := trodAll_cons hA
  obtain ⟨rfl, rfl, rfl⟩ := trodAll_nil r0
  obtain rfl : args = #[v0] := by cases args; simp_all
  obtain ⟨rfl, rfl⟩ := trodVars_none hV
  have k0 := h0
  have lt0 : ∀ x ∈ p0, x.block < W.heap.size := by obtain ⟨m, hm⟩ := k0; exact DataW.trod_lt m _ _ _ hm
  obtain ⟨a0, l0, q0, rfl⟩ := okWide_slice Tryz.underlying22 (hval 0 22 v0 rfl rfl)
  obtain ⟨fuel0, hf0⟩ := h0
  replace hf0 : DataW.trod _ _ _ _ _ _ _ 22 [.slice a0 l0 q0] = _ := hf0
  obtain ⟨A_aS, n_aS, c_aS, aS, e0, f_aS, w_aS⟩ := open_SlB Tryz.underlying22 Tryz.underlying5 (by kernel_rfl) hf0
  obtain ⟨rfl, rfl, rfl⟩ : A_aS = a0 ∧ n_aS = l0 ∧ c_aS = q0 := by cases e0; exact ⟨rfl, rfl, rfl⟩
  clear hA0 hval0
  refine (k166_ A_aS n_aS c_aS aS W f_aS).mono fun e W' ⟨he, hst⟩ => ?_
  have bel := hst.toBelow
  subst he
  exact ⟨_, rfl, _, _, _, [], _, [], hW', trodAll_mk1 (shut_bool Tryz.underlying4 _), (trodAll_cons_mk (Below.trod laidOut (by kernel_rfl) (of_decide_eq_true (by kernel_rfl)) k0 bel lt0) trodAll_mk0), rfl, bel.frame _, fun h => by cases h⟩
theorem over : Rows.fnFeedRow.holds Tryz.pinned (OpenSpec.ofChange Rows.fnFeedSpec) :=
  OpenClaim.holds_of_wide 9 Tryz.f9 rfl rfl rfl rfl rfl rfl rfl ⟨rfl, rfl, rfl, rfl, rfl⟩ rfl rfl rfl rfl rfl (by kernel_rfl) Tryz.func9 (by kernel_rfl)
    (of_decide_eq_true (by kernel_rfl)) (by unfold Func.isWrapper; first | (rw [if_pos (by decide +kernel)]; kernel_rfl) | (rw [if_neg (by decide +kernel)]; exact ⟨rfl, rfl⟩))
    (fun os started H enc _ => lifted os started H enc)
end fnFeed
theorem fnFeed_holds : Rows.FnFeedSaid := fnFeed.over
end Go.Proofs.YtjmegoiclgancaaGreat
