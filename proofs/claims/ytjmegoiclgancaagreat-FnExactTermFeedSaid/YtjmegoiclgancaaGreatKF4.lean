/-
  What the proof stands on, part 4.
-/
import Derived.Test.YtjmegoiclgancaaGreatKF3
namespace Go.Proofs.YtjmegoiclgancaaGreat
open Go Go.RowKit
set_option linter.unusedVariables false
set_option linter.unusedSimpArgs false
theorem built_98_0 (x0 : Option Addr) (x1 : Nat) (x2 : Nat) : Tryz.prog.built 98 [(0, .slice x0 x1 x2)] = some (List.toArray [.slice x0 x1 x2]) := by kernel_rfl
theorem k79_ (A_s : Option Addr) (n_s c_s : Nat) (s : List CellD) (w : World) (f_s : SlF encCell w A_s n_s s) (hn : n_s ≤ 268435456) :
    Calls Tryz.prog 208 #[.slice A_s n_s c_s] w fun e w' => ∃ A c L1, e = .returned (.slice A (s).length c) ∧ St w [] L1 w' ∧ OwnF encCell 75 (.slice A (s).length c) (s) L1 := by
 have hl := f_s.len
 refine enter 8 Tryz.func208 rfl Tryz.ntmps208 rfl rfl ?_
 have hs1 := St.init w
 refine WC.r1 hs1 [] rfl (WC.seq (fun K2 hK2 => WC.sr (WL.r 1 hs1 [] rfl (WL.val rfl rfl rfl (Run.eqlNil Tryz.underlying26 rfl rfl rfl) (WL.nil ?_)))))
 refine WC.cq rfl (fun h3 qh3 => ?_) (fun h3 qh3 => ?_)
 ·obtain rfl : A_s = none := by simpa using qh3
  have h0 : n_s = 0 := SlF.none_ f_s
  have hs : s = [] := List.eq_nil_of_length_eq_zero (by omega)
  refine WC.r1 hs1 [] rfl (WC.ret (tkR ?_))
  clear hK2
  refine retV1 rfl (resV.tmp rfl) ?_
  have hx_ := OwnF.eqOf (xs := s) (OwnF.nil encCell 75) (by rw [hs])
  rw [← hx_]
  exact ⟨_, _, _, rfl, hs1.nil, (OwnF.nil encCell 75)⟩
 refine WC.skip (hK2 _ _ (WC.sr (WL.buildF (F := encCell) hs1 ([]) Tryz.runUnderlying26 Tryz.sizeOf75 Tryz.zeroValue75 rfl rfl rfl rfl rfl rfl rfl rfl rfl rfl rfl rfl (fun A7 c8 L4 whs5 hs5 ho6 => WL.r 1 hs5 [] rfl ?_))))
 refine WL.appendG hs5 ho6 (SlF.src (SlF.st0 f_s hs5) Tryz.underlying26) Tryz.underlying26 inf75 rfl rfl rfl rfl rfl rfl rfl rfl rfl rfl ?_ (fun A12 c13 L9 whs10 hs10 ho11 => ?_)
 · simp; omega
 refine WL.r 1 hs10 [] rfl (WL.nil (WC.ret (retV1 rfl (resV.tmp rfl) ?_)))
 have hx_ := OwnF.eqOf (xs := s) ho11 (by simp)
 rw [← hx_]
 first | exact ⟨_, _, _, rfl, (St.keep1 hs10), ho11⟩ | exact ⟨A12, c13, _, by rw [OwnF.len_ ho11], (St.keep1 hs10), by rw [OwnF.len_ ho11]; exact ho11⟩
theorem k80_ (g : GridR) (w : World) (f_g : okGridR 549755813888 w g) (hsm : smGrid 1048576 g.dat) :
    Calls Tryz.prog 206 #[.agg #[i64 g.W, i64 g.H, .slice g.Cells.A g.Cells.n g.Cells.c]] w fun e w' => ∃ r L1, e = .returned (.agg #[i64 r.W, i64 r.H, .slice r.Cells.A r.Cells.n r.Cells.c]) ∧ St w [] L1 w' ∧ ownGridR r L1 ∧ r.dat = g.dat := by
 have nb_g_Cells := f_g.Cells_n
 have nl_g_Cells := f_g.Cells.len
 have hl9 : g.Cells.xs.length ≤ 1048576 := hsm
 refine enter 11 Tryz.func206 rfl Tryz.ntmps206 rfl rfl ?_
 have hs1 := St.init w
 refine WC.sr (WL.bx hs1 rfl (fun b2 _ hs3 => WL.al hs3 Tryz.zeroValue28 rfl rfl (fun b4 _ hs5 => WL.nil (WC.seq (fun K6 hK6 => WC.rH hs5.d1 hs5 (fun _ hs7 => ?_))))))
 refine WH.rn [0, 1, 2, 3, 4, 5] hs7.d1 [0, 0, 0] rfl rfl (WH.o1 6 rfl (WL.cl Tryz.call208 rfl (k79_ _ _ _ _ _ (SlF.st0 f_g.Cells hs7) ?_) ?_))
 · first | assumption | rfl | omega
 rintro _ whs8 ⟨A9, c10, L1_11, rfl, hs8, ho12⟩
 replace hs8 := hs7.callF hs8
 refine ⟨_, rfl, ?_⟩
 replace hs8 := St.back [_, _] hs8
 refine WL.nil ⟨(hs8.d1.rm L1_11), ?_⟩
 refine WH.take 7 rfl (by kernel_rfl) rfl rfl rfl (hs8.d1.rm L1_11) (fun w_ hs_ => (Run.build rfl rfl rfl rfl (built_28_0_1_2 _ _ _ _ _))) ?_
 refine WH.o1 8 rfl (WL.st tbk hs8 0 rfl rfl (fun _ hs13 => WL.nil ⟨(hs13.d1.rm L1_11), WH.dn (hK6 _ _ (WC.ret (retV1 rfl (resV.cellA tbk hs13 0 rfl rfl rfl rfl) ?_)))⟩))
 refine ⟨⟨g.W, g.H, SlD.of ho12⟩, _, rfl, (St.keep1 (hs13.fr L1_11)), ?_, ?_⟩
 · exact ho12
 · rfl
theorem k81_ (s : ScrR) (w : World) (f_s : okScrR 549755813888 w s) (hsm : smScr 1048576 s.dat) :
    Calls Tryz.prog 150 #[.agg (cScr s).toArray] w fun e w' => ∃ r L1, e = .returned (.agg (cScr r).toArray) ∧ St w [] L1 w' ∧ ownScrR r L1 ∧ r.dat = s.dat := by
 have nb_s_Main_Cells := f_s.Main.Cells_n
 have nl_s_Main_Cells := f_s.Main.Cells.len
 have nb_s_Alt_Cells := f_s.Alt.Cells_n
 have nl_s_Alt_Cells := f_s.Alt.Cells.len
 have nb_s_Tabs := f_s.Tabs_n
 have nl_s_Tabs := f_s.Tabs.len
 have nb_s_Back := f_s.Back_n
 have nl_s_Back := f_s.Back.sl.len
 have hM : s.Main.Cells.xs.length ≤ 1048576 := hsm.1
 have hA : s.Alt.Cells.xs.length ≤ 1048576 := hsm.2.1
 have hT : s.Tabs.xs.length ≤ 1048576 := hsm.2.2.1
 have hB : s.Back.xs.length ≤ 1048576 := by have h_ := hsm.2.2.2.1; simpa [ScrR.dat] using h_
 have hR : ∀ y, y ∈ s.Back.xs → y.Cells.xs.length ≤ 1048576 := fun y hy => hsm.2.2.2.2 _ (List.mem_map_of_mem hy)
 refine enter 37 Tryz.func150 rfl Tryz.ntmps150 rfl rfl ?_
 have hs1 := St.init w
 refine WC.sr (WL.bx hs1 rfl (fun b2 _ hs3 => WL.al hs3 Tryz.zeroValue33 rfl rfl (fun b4 _ hs5 => WL.nil (WC.seq (fun K6 hK6 => WC.rG 10 (hs5.fb b2).d1 hs5 hs5 (fun _ hs7 => ?_))))))
 refine WG.rn [0, 1, 3, 4, 6, 7] hs7 [1, 1, 1] rfl rfl (WG.o1 2 rfl rfl (WL.cl Tryz.call206 rfl (k80_ s.Main _ (okGridR.st0 f_s.Main hs7) ?_) ?_))
 · first | assumption | rfl | omega | exact hsm.1 | exact hsm.2.1 | (exact Nat.le_trans hsm.1 (by decide)) | (exact Nat.le_trans hsm.2.1 (by decide)) | (have := hR _ (gat_mem (F := encRowR) (show i < s.Back.xs.length by omega)); omega)
 rintro _ whs8 ⟨r9, L1_10, rfl, hs8, ho11, hd12⟩
 replace hs8 := hs7.callF hs8
 refine ⟨_, rfl, ?_⟩
 replace hs8 := St.back [_, _] hs8
 refine WL.nil ⟨(hs8.rm L1_10), WG.rn [9] (hs8.rm L1_10) [] rfl rfl (WG.o1 5 rfl rfl (WL.cl Tryz.call206 rfl (k80_ s.Alt _ (okGridR.st0 f_s.Alt hs8) ?_) ?_))⟩
 · first | assumption | rfl | omega | exact hsm.1 | exact hsm.2.1 | (exact Nat.le_trans hsm.1 (by decide)) | (exact Nat.le_trans hsm.2.1 (by decide)) | (have := hR _ (gat_mem (F := encRowR) (show i < s.Back.xs.length by omega)); omega)
 rintro _ whs13 ⟨r14, L1_15, rfl, hs13, ho16, hd17⟩
 replace hs13 := hs8.callF hs13
 refine ⟨_, rfl, ?_⟩
 replace hs13 := St.back [_, _] hs13
 refine WL.nil ⟨((hs13.rm L1_15).rm L1_10), WG.o1 8 rfl rfl (WL.cl Tryz.call207 rfl (k53_ _ _ _ _ _ (SlF.st0 f_s.Tabs hs13) ?_) ?_)⟩
 · first | assumption | rfl | omega | exact hsm.1 | exact hsm.2.1 | (exact Nat.le_trans hsm.1 (by decide)) | (exact Nat.le_trans hsm.2.1 (by decide)) | (have := hR _ (gat_mem (F := encRowR) (show i < s.Back.xs.length by omega)); omega)
 rintro _ whs18 ⟨A19, c20, L1_21, rfl, hs18, ho22⟩
 replace hs18 := hs13.callF hs18
 refine ⟨_, rfl, ?_⟩
 replace hs18 := St.back [_, _] hs18
 refine WL.nil ⟨(((hs18.rm L1_21).rm L1_15).rm L1_10), WG.oK rfl (WL.st tbk hs18 1 rfl rfl (fun _ hs23 => WL.nil ⟨((((hs23.fb b2).d1.rm L1_21).rm L1_15).rm L1_10), WH.rn [11] ((((hs23.fb b2).d1.rm L1_21).rm L1_15).rm L1_10) [] rfl rfl (WH.o1 12 rfl (WL.st tbk hs23 1 rfl rfl (fun _ hs24 => WL.nil ⟨((((hs24.fb b2).d1.rm L1_21).rm L1_15).rm L1_10), ?_⟩)))⟩))⟩
 refine WH.rn [13] ((((hs24.fb b2).d1.rm L1_21).rm L1_15).rm L1_10) [] rfl rfl (WH.o1 14 rfl (WL.st tbk hs24 1 rfl rfl (fun _ hs25 => WL.nil ⟨((((hs25.fb b2).d1.rm L1_21).rm L1_15).rm L1_10), WH.dn (hK6 _ _ (WC.sr (WL.buildF (F := encRowR) hs25 ([]) Tryz.runUnderlying31 Tryz.sizeOf98 Tryz.zeroValue98 rfl rfl rfl rfl rfl rfl rfl rfl rfl rfl rfl rfl (fun A29 c30 L26 whs27 hs27 ho28 => ?_))))⟩)))
 replace hs27 := St.back [_, _] hs27
 obtain ⟨L31, hs32, ho33⟩ := OwnN.fresh (own := ownRowR) (hs27.fr L26) ho28 Bag.nil
 have hs34 := ((hs32.fb b2).fb b4)
 refine WL.r 1 hs34 [] rfl (WL.nil (WC.seq (fun K35 hK35 => WC.r1 hs34 [1] rfl (WC.block ?_))))
 have hM40 := (St.grp1 (L1 := L31) [] ((((((hs34.fr L1_10).fr L1_15).fr L1_21).fb b2).fb b4).fr L31))
 refine WC.lV [1, 2, 20, 21] rfl hM40 (fun k_ (a_ : Hp) f => ∃ (i : Nat) (rows_ : List RowR) (A36 : Option Addr) (c37 : Nat) (L38 : Hp), k_ = s.Back.n - i ∧ a_ = L38 ∧ (i ≤ s.Back.n) ∧ (rows_.map RowR.dat = (s.Back.xs.take i).map RowR.dat) ∧ (rows_.length = i) ∧ OwnN encRowR ownRowR 98 (.slice A36 (rows_).length c37) (rows_) L38 ∧ Sub [(3, .slice A36 (rows_).length c37), (22, .int .i64 i)] f) (((fun (i : Nat) (rows_ : List RowR) => s.Back.n - i) (0) ([]))) ?_ ?_
 ·refine ⟨0, [], A29, c30, L31, rfl, rfl, ?_, ?_, ?_, ho33, ⟨rfl, rfl, trivial⟩⟩
  · exact Nat.zero_le _
  · rfl
  · rfl
 rintro _ L38 f w ⟨i, rows_, A36, c37, _, rfl, rfl, p0, p1, p2, ho39, hG⟩ hF hs41
 refine WC.sub _ (hG.app hF) ?_
 clear hG hF
 replace hs41 := St.ungrp1 [] hs41
 have hs42 := ((hs41.fb b2).fb b4)
 refine WC.r1 hs42 [] rfl (WC.seq (fun K43 hK43 => ?_))
 refine WC.cD rfl (fun qh44 => ?_) (fun qh44 => ?_)
 ·have hnl := (SlN.nth f_s.Back (show i < s.Back.n by omega)).Cells.len
  refine WC.skip (hK43 _ _ (WC.seq (fun K45 hK45 => WC.block (WC.sr ?_))))
  refine WL.val rfl rfl rfl (Run.idxN Tryz.runUnderlying31 Tryz.sizeOf98 rfl rfl rfl ?_ ?_ ?_) ?_
  · exact SlF.some_ (SlF.st0 f_s.Back.sl hs42)
  · omega
  · omega
  refine WL.val rfl rfl rfl (Run.loadA Tryz.isAgg98 Tryz.sizeOf98 rfl rfl (SlF.whole (SlF.st0 f_s.Back.sl hs42) ?_)) ?_
  · omega
  refine WL.al hs42 Tryz.zeroValue98 rfl rfl (fun b46 _ hs47 => WL.st tbk hs47 0 rfl rfl (fun _ hs48 => WL.nil (WC.region (WL.r 3 hs48 [0] rfl ?_))))
  refine WL.cl Tryz.call208 rfl (k79_ _ _ _ _ _ (SlF.st0 (SlN.nth f_s.Back (by omega)).Cells hs48) ?_) ?_
  · first | assumption | rfl | omega | exact hsm.1 | exact hsm.2.1 | (exact Nat.le_trans hsm.1 (by decide)) | (exact Nat.le_trans hsm.2.1 (by decide)) | (have := hR _ (gat_mem (F := encRowR) (show i < s.Back.xs.length by omega)); omega)
  rintro _ whs49 ⟨A50, c51, L1_52, rfl, hs49, ho53⟩
  replace hs49 := hs48.callF hs49
  refine ⟨_, rfl, ?_⟩
  replace hs49 := St.back [_, _, _] hs49
  refine WL.val rfl rfl rfl (Run.build rfl rfl rfl rfl (built_98_0 _ _ _)) (WL.buildSlice hs49 Tryz.runUnderlying31 Tryz.sizeOf98 Tryz.zeroValue98 rfl rfl rfl rfl rfl rfl rfl rfl rfl rfl (fun b54 whs55 hs55 => ?_))
  obtain ⟨L56, L57, hs60, ho58, ho59⟩ := OwnN.open_ (hs55.fr L38) ho39
  have hs61 := ((((hs60.fb b2).fb b4).fb b46).fb b54)
  refine WL.appendG (hs61.fr L56) ho58 (srcF (F := encRowR) (ys := [(⟨SlD.of ho53⟩ : RowR)]) Tryz.underlying31 rfl rfl (hs61.own _ (nthL_mem (i := 0) rfl)).1) Tryz.underlying31 inf98 rfl rfl rfl rfl rfl rfl rfl rfl rfl rfl ?_ (fun A65 c66 L62 whs63 hs63 ho64 => ?_)
  · (try simp only [List.length_append, List.length_singleton, List.nil_append, List.length_nil]); first | omega | (have := hR _ (gat_mem (F := encRowR) (show i < s.Back.xs.length by omega)); omega)
  replace hs63 := St.back [_, _, _, _] hs63
  obtain ⟨L67, hs68, hb69⟩ := Bag.put (x := (⟨SlD.of ho53⟩ : RowR)) ((hs63.fr L1_52).fr L57) ho59 ho53
  have hs70 := ((((hs68.fb b2).fb b4).fb b46).fb b54)
  obtain ⟨L72, hs71, ho73⟩ := OwnN.fold ((hs70.fr L67).fr L62) ho64 hb69
  have hs74 := ((((hs71.fb b2).fb b4).fb b46).fb b54)
  refine WL.r 1 hs74 [] rfl (WL.nil (hK45 _ _ (WC.region (WL.r 2 hs74 [] rfl (WL.nil (tkN ?_))))))
  replace hs74 := hs74.d1.d1
  have hF75 := (St.grp1 (L1 := L72) [] ((((((hs74.fr L1_10).fr L1_15).fr L1_21).fb b2).fb b4).fr L72))
  refine ⟨sbF rfl, _, hF75, _, ?_, i + 1, ((rows_) ++ [(⟨SlD.of ho53⟩ : RowR)]), A65, c66, L72, rfl, rfl, ?_, ?_, ?_, ho73, ⟨rfl, rfl, trivial⟩⟩
  · omega
  · omega
  · rw [List.map_append, p1, map_take_succ (F := encRowR) (by omega)]; congr 1
  · simp only [List.length_append, List.length_singleton]; omega
 refine WC.exit (hK35 _ _ (WC.sr (WL.r 2 hs42 [] rfl (WL.st tbk hs42 1 rfl rfl (fun _ hs76 => WL.nil (WC.sr (WL.r 1 hs76 [1] rfl ?_)))))))
 refine WL.st tbk hs76 0 rfl rfl (fun _ hs77 => WL.nil (WC.ret (retV1 rfl (resV.cellA tbk hs77 0 rfl rfl rfl rfl) ?_)))
 have hi_ : i = s.Back.n := by omega
 have hbk : rows_.map RowR.dat = s.dat.Back := by rw [p1, List.take_of_length_le (by omega)]; rfl
 obtain ⟨L79, hs78, ho80⟩ := ownScrR.fl hs77 ho11 ho16 ho22 ho39
 have hs81 := ((hs78.fb b2).fb b4)
 refine ownScrR.ret rfl (St.keep1 (hs81.fr L79)) ho80 ?_
 · exact ScrD.ext' rfl rfl hd12 hd17 rfl rfl rfl rfl rfl rfl rfl rfl rfl rfl rfl rfl rfl rfl hbk
theorem k82_ (s : ScrR) (w : World) (f_s : okScrR 549755813888 w s) (hsm : smScr 1048576 s.dat) :
    Calls Tryz.prog 64 #[.agg (cScr s).toArray] w fun e w' => ∃ r L1, e = .returned (.agg (cScr r).toArray) ∧ St w [] L1 w' ∧ ownScrR r L1 ∧ r.dat = s.dat := by
 have nb_s_Main_Cells := f_s.Main.Cells_n
 have nl_s_Main_Cells := f_s.Main.Cells.len
 have nb_s_Alt_Cells := f_s.Alt.Cells_n
 have nl_s_Alt_Cells := f_s.Alt.Cells.len
 have nb_s_Tabs := f_s.Tabs_n
 have nl_s_Tabs := f_s.Tabs.len
 have nb_s_Back := f_s.Back_n
 have nl_s_Back := f_s.Back.sl.len
 have hM : s.Main.Cells.xs.length ≤ 1048576 := hsm.1
 have hA : s.Alt.Cells.xs.length ≤ 1048576 := hsm.2.1
 have hT : s.Tabs.xs.length ≤ 1048576 := hsm.2.2.1
 have hB : s.Back.xs.length ≤ 1048576 := by have h_ := hsm.2.2.2.1; simpa [ScrR.dat] using h_
 have hR : ∀ y, y ∈ s.Back.xs → y.Cells.xs.length ≤ 1048576 := fun y hy => hsm.2.2.2.2 _ (List.mem_map_of_mem hy)
 refine enter 39 Tryz.func64 rfl Tryz.ntmps64 rfl rfl ?_
 have hs1 := St.init w
 refine WC.sr (WL.bx hs1 rfl (fun b2 _ hs3 => WL.al hs3 Tryz.zeroValue33 rfl rfl (fun b4 _ hs5 => WL.nil (WC.sr (WL.r 2 hs5 [1] rfl ?_)))))
 refine WL.cl Tryz.call141 rfl (k64_ s.Main _ (okGridR.st0 f_s.Main hs5) ?_) ?_
 · first | assumption | rfl | omega | exact hsm.1 | exact hsm.2.1 | (exact Nat.le_trans hsm.1 (by decide)) | (exact Nat.le_trans hsm.2.1 (by decide)) | (have := hR _ (gat_mem (F := encRowR) (show i < s.Back.xs.length by omega)); omega)
 rintro _ whs6 ⟨r7, L1_8, rfl, hs6, ho9, hd10⟩
 replace hs6 := hs5.callF hs6
 refine ⟨_, rfl, ?_⟩
 replace hs6 := St.back [_, _] hs6
 refine WL.r 1 hs6 [] rfl (WL.st tbk hs6 1 rfl rfl (fun _ hs11 => WL.nil (WC.sr (WL.r 2 hs11 [1] rfl ?_))))
 refine WL.cl Tryz.call141 rfl (k64_ s.Alt _ (okGridR.st0 f_s.Alt hs11) ?_) ?_
 · first | assumption | rfl | omega | exact hsm.1 | exact hsm.2.1 | (exact Nat.le_trans hsm.1 (by decide)) | (exact Nat.le_trans hsm.2.1 (by decide)) | (have := hR _ (gat_mem (F := encRowR) (show i < s.Back.xs.length by omega)); omega)
 rintro _ whs12 ⟨r13, L1_14, rfl, hs12, ho15, hd16⟩
 replace hs12 := hs11.callF hs12
 refine ⟨_, rfl, ?_⟩
 replace hs12 := St.back [_, _] hs12
 refine WL.r 1 hs12 [] rfl (WL.st tbk hs12 1 rfl rfl (fun _ hs17 => WL.nil (WC.sr (WL.buildF (F := encI) hs17 ([]) Tryz.runUnderlying23 Tryz.sizeOf3 Tryz.zeroValue3 rfl rfl rfl rfl rfl rfl rfl rfl rfl rfl rfl rfl (fun A21 c22 L18 whs19 hs19 ho20 => ?_)))))
 replace hs19 := St.back [_, _] hs19
 refine WL.r 2 hs19 [1] rfl (WL.appendG (hs19.fr L18) ho20 (SlF.src (SlF.st0 f_s.Tabs hs19) Tryz.underlying23) Tryz.underlying23 inf3 rfl rfl rfl rfl rfl rfl rfl rfl rfl rfl ?_ (fun A26 c27 L23 whs24 hs24 ho25 => ?_))
 · (try simp only [List.length_append, List.length_singleton, List.nil_append, List.length_nil]); first | omega | (have := hR _ (gat_mem (F := encRowR) (show i < s.Back.xs.length by omega)); omega)
 replace hs24 := St.back [_, _] hs24
 refine WL.r 1 hs24 [] rfl (WL.st tbk hs24 1 rfl rfl (fun _ hs28 => WL.nil (WC.sr (WL.buildF (F := encRowR) hs28 ([]) Tryz.runUnderlying31 Tryz.sizeOf98 Tryz.zeroValue98 rfl rfl rfl rfl rfl rfl rfl rfl rfl rfl rfl rfl (fun A32 c33 L29 whs30 hs30 ho31 => ?_)))))
 replace hs30 := St.back [_, _] hs30
 obtain ⟨L34, hs35, ho36⟩ := OwnN.fresh (own := ownRowR) (hs30.fr L29) ho31 Bag.nil
 have hs37 := ((hs35.fb b2).fb b4)
 refine WL.r 1 hs37 [] rfl (WL.nil (WC.seq (fun K38 hK38 => WC.r1 hs37 [1] rfl (WC.block ?_))))
 have hM43 := (St.grp1 (L1 := L34) [] ((((((hs37.fr L1_8).fr L1_14).fr L23).fb b2).fb b4).fr L34))
 refine WC.lV [1, 2, 21, 22] rfl hM43 (fun k_ (a_ : Hp) f => ∃ (i : Nat) (rows_ : List RowR) (A39 : Option Addr) (c40 : Nat) (L41 : Hp), k_ = s.Back.n - i ∧ a_ = L41 ∧ (i ≤ s.Back.n) ∧ (rows_.map RowR.dat = (s.Back.xs.take i).map RowR.dat) ∧ (rows_.length = i) ∧ OwnN encRowR ownRowR 98 (.slice A39 (rows_).length c40) (rows_) L41 ∧ Sub [(3, .slice A39 (rows_).length c40), (23, .int .i64 i)] f) (((fun (i : Nat) (rows_ : List RowR) => s.Back.n - i) (0) ([]))) ?_ ?_
 ·refine ⟨0, [], A32, c33, L34, rfl, rfl, ?_, ?_, ?_, ho36, ⟨rfl, rfl, trivial⟩⟩
  · exact Nat.zero_le _
  · rfl
  · rfl
 rintro _ L41 f w ⟨i, rows_, A39, c40, _, rfl, rfl, p0, p1, p2, ho42, hG⟩ hF hs44
 refine WC.sub _ (hG.app hF) ?_
 clear hG hF
 replace hs44 := St.ungrp1 [] hs44
 have hs45 := ((hs44.fb b2).fb b4)
 refine WC.r1 hs45 [] rfl (WC.seq (fun K46 hK46 => ?_))
 refine WC.cD rfl (fun qh47 => ?_) (fun qh47 => ?_)
 ·have hnl := (SlN.nth f_s.Back (show i < s.Back.n by omega)).Cells.len
  refine WC.skip (hK46 _ _ (WC.seq (fun K48 hK48 => WC.block (WC.sr ?_))))
  refine WL.val rfl rfl rfl (Run.idxN Tryz.runUnderlying31 Tryz.sizeOf98 rfl rfl rfl ?_ ?_ ?_) ?_
  · exact SlF.some_ (SlF.st0 f_s.Back.sl hs45)
  · omega
  · omega
  refine WL.val rfl rfl rfl (Run.loadA Tryz.isAgg98 Tryz.sizeOf98 rfl rfl (SlF.whole (SlF.st0 f_s.Back.sl hs45) ?_)) ?_
  · omega
  refine WL.al hs45 Tryz.zeroValue98 rfl rfl (fun b49 _ hs50 => WL.st tbk hs50 0 rfl rfl (fun _ hs51 => WL.nil (WC.region (WL.r 1 hs51 [] rfl (WL.buildF (F := encCell) hs51 ([]) Tryz.runUnderlying26 Tryz.sizeOf75 Tryz.zeroValue75 rfl rfl rfl rfl rfl rfl rfl rfl rfl rfl rfl rfl (fun A55 c56 L52 whs53 hs53 ho54 => ?_))))))
  replace hs53 := St.back [_, _, _] hs53
  refine WL.r 2 hs53 [0] rfl (WL.appendG (hs53.fr L52) ho54 (SlF.src (SlF.st0 (SlN.nth f_s.Back (by omega)).Cells hs53) Tryz.underlying26) Tryz.underlying26 inf75 rfl rfl rfl rfl rfl rfl rfl rfl rfl rfl ?_ (fun A60 c61 L57 whs58 hs58 ho59 => ?_))
  · (try simp only [List.length_append, List.length_singleton, List.nil_append, List.length_nil]); first | omega | (have := hR _ (gat_mem (F := encRowR) (show i < s.Back.xs.length by omega)); omega)
  replace hs58 := St.back [_, _, _] hs58
  refine WL.val rfl rfl rfl (Run.build rfl rfl rfl rfl (built_98_0 _ _ _)) (WL.buildSlice hs58 Tryz.runUnderlying31 Tryz.sizeOf98 Tryz.zeroValue98 rfl rfl rfl rfl rfl rfl rfl rfl rfl rfl (fun b62 whs63 hs63 => ?_))
  obtain ⟨L64, L65, hs68, ho66, ho67⟩ := OwnN.open_ (hs63.fr L41) ho42
  have hs69 := ((((hs68.fb b2).fb b4).fb b49).fb b62)
  refine WL.appendG (hs69.fr L64) ho66 (srcF (F := encRowR) (ys := [(⟨SlD.of ho59⟩ : RowR)]) Tryz.underlying31 rfl rfl (hs69.own _ (nthL_mem (i := 0) rfl)).1) Tryz.underlying31 inf98 rfl rfl rfl rfl rfl rfl rfl rfl rfl rfl ?_ (fun A73 c74 L70 whs71 hs71 ho72 => ?_)
  · (try simp only [List.length_append, List.length_singleton, List.nil_append, List.length_nil]); first | omega | (have := hR _ (gat_mem (F := encRowR) (show i < s.Back.xs.length by omega)); omega)
  replace hs71 := St.back [_, _, _, _] hs71
  obtain ⟨L75, hs76, hb77⟩ := Bag.put (x := (⟨SlD.of ho59⟩ : RowR)) ((hs71.fr L57).fr L65) ho67 ho59
  have hs78 := ((((hs76.fb b2).fb b4).fb b49).fb b62)
  obtain ⟨L80, hs79, ho81⟩ := OwnN.fold ((hs78.fr L75).fr L70) ho72 hb77
  have hs82 := ((((hs79.fb b2).fb b4).fb b49).fb b62)
  refine WL.r 1 hs82 [] rfl (WL.nil (hK48 _ _ (WC.region (WL.r 2 hs82 [] rfl (WL.nil (tkN ?_))))))
  replace hs82 := hs82.d1.d1
  have hF83 := (St.grp1 (L1 := L80) [] ((((((hs82.fr L1_8).fr L1_14).fr L23).fb b2).fb b4).fr L80))
  refine ⟨sbF rfl, _, hF83, _, ?_, i + 1, ((rows_) ++ [(⟨SlD.of ho59⟩ : RowR)]), A73, c74, L80, rfl, rfl, ?_, ?_, ?_, ho81, ⟨rfl, rfl, trivial⟩⟩
  · omega
  · omega
  · rw [List.map_append, p1, map_take_succ (F := encRowR) (by omega)]; congr 1
  · simp only [List.length_append, List.length_singleton]; omega
 refine WC.exit (hK38 _ _ (WC.sr (WL.r 2 hs45 [] rfl (WL.st tbk hs45 1 rfl rfl (fun _ hs84 => WL.nil (WC.sr (WL.r 1 hs84 [1] rfl ?_)))))))
 refine WL.st tbk hs84 0 rfl rfl (fun _ hs85 => WL.nil (WC.ret (retV1 rfl (resV.cellA tbk hs85 0 rfl rfl rfl rfl) ?_)))
 have hi_ : i = s.Back.n := by omega
 have hbk : rows_.map RowR.dat = s.dat.Back := by rw [p1, List.take_of_length_le (by omega)]; rfl
 obtain ⟨L87, hs86, ho88⟩ := ownScrR.fl hs85 ho9 ho15 ho25 ho42
 have hs89 := ((hs86.fb b2).fb b4)
 refine ownScrR.ret rfl (St.keep1 (hs89.fr L87)) ho88 ?_
 · exact ScrD.ext' rfl rfl hd10 hd16 rfl rfl rfl rfl rfl rfl rfl rfl rfl rfl rfl rfl rfl rfl hbk
theorem dm_uniq {a b r c w : Nat} (hb : b < w) (hc : c < w) (h : a * w + b = r * w + c) : a = r ∧ b = c := by
 have key : ∀ p q : Nat, q < w → (p * w + q) / w = p := fun p q hq => by
  rw [Nat.mul_comm, Nat.mul_add_div (by omega), Nat.div_eq_of_lt hq, Nat.add_zero]
 have h1 := key a b hb
 rw [h, key r c hc] at h1
 subst h1
 exact ⟨rfl, by omega⟩
theorem dm_at {k w a b : Nat} (hb : b < w) : (k / w = a ∧ k % w = b) ↔ k = a * w + b := by
 have h := Nat.div_add_mod k w
 rw [Nat.mul_comm] at h
 constructor
 ·rintro ⟨h1, h2⟩
  rw [← h1, ← h2]; exact h.symm
 ·intro h1
  exact dm_uniq (Nat.mod_lt _ (by omega)) hb (h.trans h1)
def pasteIn (g h : GridD) (x y : Int) (k : Nat) : Prop :=
 (0 ≤ ((k % g.W.toNat : Nat) : Int) - x ∧ ((k % g.W.toNat : Nat) : Int) - x < h.W) ∧ 0 ≤ ((k / g.W.toNat : Nat) : Int) - y ∧ ((k / g.W.toNat : Nat) : Int) - y < h.H
instance (g h : GridD) (x y : Int) (k : Nat) : Decidable (pasteIn g h x y k) := by unfold pasteIn; infer_instance
theorem divmod_ex {i : Nat} {w h : Int} (hw : 1 ≤ w) (hh : 1 ≤ h) (hi : (i : Int) < w * h) : ∃ q m : Nat, (i : Int) / w = q ∧ (i : Int) % w = m ∧ i = q * w.toNat + m ∧ (m : Int) < w ∧ (q : Int) < h := by
 have hm := Nat.mod_lt i (show 0 < w.toNat by omega)
 have e := Nat.div_add_mod i w.toNat
 rw [Nat.mul_comm] at e
 have ew : w = (w.toNat : Int) := by omega
 have eh : h = (h.toNat : Int) := by omega
 have hd : i / w.toNat < h.toNat := Nat.div_lt_of_lt_mul (by rw [ew, eh] at hi; exact_mod_cast hi)
 refine ⟨i / w.toNat, i % w.toNat, ?_, ?_, e.symm, by omega, by omega⟩
 ·rw [Int.natCast_ediv, ← ew]
 ·rw [Int.natCast_emod, ← ew]
theorem gat_set2 {α : Type} {F : Enc α} {xs : List α} {i k : Nat} {v : α} (hi : i < xs.length) : gat F (xs.set i v) k = if k = i then v else gat F xs k := by
 unfold gat
 rw [List.getD_eq_getElem?_getD, List.getD_eq_getElem?_getD, List.getElem?_set]
 by_cases h : i = k
 ·subst h; simp [hi]
 ·rw [if_neg h, if_neg (Ne.symm h)]
theorem gat_cut {α : Type} {F : Enc α} {xs : List α} {m n k : Nat} (h : k < n) : gat F ((xs.drop m).take n) k = gat F xs (m + k) := by
 unfold gat
 rw [List.getD_eq_getElem?_getD, List.getD_eq_getElem?_getD, List.getElem?_take_of_lt h, List.getElem?_drop]
theorem toNat_mul_nat {a : Nat} {b : Int} (hb : 0 ≤ b) : ((a : Int) * b).toNat = a * b.toNat := by
 rw [Int.toNat_mul (by omega) hb]; rfl
def rowAt (g : GridD) (y : Nat) : RowD := ⟨(g.Cells.drop (y * g.W.toNat)).take g.W.toNat⟩
def lastN {α : Type} (n : Nat) (l : List α) : List α := l.drop (l.length - n)
theorem lastN_len {α : Type} {n : Nat} {l : List α} : (lastN n l).length = min l.length n := by simp [lastN]; omega
theorem lastN_all {α : Type} {n : Nat} {l : List α} (h : l.length ≤ n) : lastN n l = l := by
 unfold lastN; rw [show l.length - n = 0 by omega]; rfl
theorem lastN_snoc {α : Type} {n : Nat} {l : List α} {x : α} : lastN n (lastN n l ++ [x]) = lastN n (l ++ [x]) := by
 unfold lastN
 simp only [List.length_append, List.length_drop, List.length_singleton]
 rcases Nat.lt_or_ge n l.length with h | h
 ·rw [List.drop_append, List.drop_append, List.drop_drop, List.length_drop]
  congr 2 <;> omega
 ·rw [show l.length - n = 0 by omega]
  simp
def keepRows (s : ScrD) (n : Nat) : ScrD := { s with Back := lastN s.Limit.toNat (s.Back ++ (List.range n).map (rowAt s.Main)) }
theorem range_snoc {α : Type} {f : Nat → α} {n : Nat} : (List.range (n + 1)).map f = (List.range n).map f ++ [f n] := by
 rw [List.range_succ, List.map_append]; rfl
theorem keepRows_succ {s : ScrD} {n : Nat} : keepRows s (n + 1) = { keepRows s n with Back := lastN s.Limit.toNat ((keepRows s n).Back ++ [rowAt s.Main n]) } := by
 unfold keepRows
 rw [range_snoc, ← List.append_assoc, ← lastN_snoc]
theorem keepRows_zero {s : ScrD} (h : (s.Back.length : Int) ≤ s.Limit) : keepRows s 0 = s := by
 unfold keepRows
 rw [show (List.range 0).map (rowAt s.Main) = [] from rfl, List.append_nil, lastN_all (by omega)]
theorem k83_ (g : GridR) (y : Int) (w : World) (f_g : okGridR 549755813888 w g) (h0 : 0 ≤ y * g.W) (h1 : y * g.W ≤ (y + 1) * g.W) (h2 : (y + 1) * g.W ≤ g.Cells.n) (h3 : -1 ≤ y ∧ y ≤ 1048576) :
    Calls Tryz.prog 224 #[.agg #[i64 g.W, i64 g.H, .slice g.Cells.A g.Cells.n g.Cells.c], i64 y] w fun e w' => e = .returned (.slice (cutA g.Cells.A (y * g.W).toNat 6 g.Cells.c) (((y + 1) * g.W).toNat - (y * g.W).toNat) (g.Cells.c - (y * g.W).toNat)) ∧ St w [] [] w' := by
 have nb_g_Cells := f_g.Cells_n
 have nl_g_Cells := f_g.Cells.len
 have hcap := f_g.Cells_c
 refine enter 17 Tryz.func224 rfl Tryz.ntmps224 rfl rfl ?_
 have hs1 := St.init w
 refine WC.sr (WL.bx hs1 rfl (fun b2 _ hs3 => WL.r 1 hs3 [] rfl (WL.nil (WC.sr (WL.r 11 hs3 [0, 0, 0] rfl ?_)))))
 refine WL.val rfl rfl rfl (Run.sliceLH ((y * g.W).toNat) (((y + 1) * g.W).toNat) Tryz.runUnderlying26 Tryz.sizeOf75 rfl rfl rfl rfl ?_ ?_ ?_) ?_
 · first | rfl | (omega)
 · first | rfl | (omega)
 · refine ⟨?_, ?_, ?_⟩ <;> (omega)
 refine WL.r 1 hs3 [] rfl (WL.nil (WC.ret (rtv rfl rfl hs3 ?_)))
 rfl
theorem k84_ (n : Int) (w : World) :
    Calls Tryz.prog 230 #[i64 n] w fun e w' => e = .returned (.bool (within n (-100000) 100000)) ∧ St w [] [] w' := by
 refine enter 9 Tryz.func230 rfl Tryz.ntmps230 rfl rfl ?_
 have hs1 := St.init w
 refine WC.r1 hs1 [] rfl (WC.sr (WL.r 3 hs1 [] rfl (WL.pA tbk 2 Acts.nil hs1 [] rfl rfl rfl rfl (fun g_ => trivial) (WL.r 1 hs1 [] rfl (WL.nil (WC.ret (retV1 rfl (resV.tmp rfl) ?_)))))))
 refine ⟨congrArg Ending.returned ?_, hs1.nil⟩
 rfl
theorem k85_ (n hi : Int) (w : World) :
    Calls Tryz.prog 218 #[i64 n, i64 hi] w fun e w' => e = .returned (.int .i64 (if n < 0 then 0 else min n hi)) ∧ St w [] [] w' := by
 refine enter 12 Tryz.func218 rfl Tryz.ntmps218 rfl rfl ?_
 have hs1 := St.init w
 refine WC.r1 hs1 [] rfl (WC.seq (fun K2 hK2 => WC.r1 hs1 [] rfl ?_))
 refine WC.cD rfl (fun qh3 => ?_) (fun qh3 => ?_)
 ·refine WC.r1 hs1 [] rfl (WC.ret (tkR ?_))
  clear hK2
  refine rtv rfl rfl hs1 ?_
  congr 1; (repeat' split) <;> omega
 refine WC.skip (hK2 _ _ (WC.seq (fun K4 hK4 => WC.r1 hs1 [] rfl ?_)))
 refine WC.cD rfl (fun qh5 => ?_) (fun qh5 => ?_)
 ·refine WC.r1 hs1 [] rfl (WC.ret (tkR ?_))
  clear hK4
  refine rtv rfl rfl hs1 ?_
  congr 1; (repeat' split) <;> omega
 refine WC.skip (hK4 _ _ (WC.r1 hs1 [] rfl (WC.ret (rtv rfl rfl hs1 ?_))))
 congr 1; (repeat' split) <;> omega
theorem smScr_mono {B B' : Nat} {s : ScrD} (h : smScr B s) (hB : B ≤ B') : smScr B' s := ⟨Nat.le_trans h.1 hB, Nat.le_trans h.2.1 hB, Nat.le_trans h.2.2.1 hB, Nat.le_trans h.2.2.2.1 hB, fun y hy => Nat.le_trans (h.2.2.2.2 y hy) hB⟩
theorem rowAt_len {g : GridD} {i : Nat} : (rowAt g i).Cells.length ≤ g.W.toNat := by
 unfold rowAt
 rw [List.length_take]
 exact Nat.min_le_left _ _
def keepTo (s : ScrD) (n : Nat) : ScrD := { s with Back := s.Back ++ (List.range n).map (rowAt s.Main) }
theorem keepTo_zero {s : ScrD} : keepTo s 0 = s := by
 unfold keepTo
 rw [show (List.range 0).map (rowAt s.Main) = [] from rfl, List.append_nil]
theorem keepTo_succ {s : ScrD} {n : Nat} {r : RowD} (h : r = rowAt s.Main n) : keepTo s (n + 1) = { keepTo s n with Back := (keepTo s n).Back ++ [r] } := by
 subst h
 unfold keepTo
 rw [range_snoc, ← List.append_assoc]
theorem keepTo_sm {s : ScrD} {n B : Nat} (h : smScr B s) (hg : gridOk s.Main = true) (hl : s.Back.length + n ≤ B) (hB : 120 ≤ B) : smScr B (keepTo s n) := by
 refine ⟨h.1, h.2.1, h.2.2.1, by simp only [keepTo, List.length_append, List.length_map, List.length_range]; exact hl, fun y hy => ?_⟩
 rcases List.mem_append.1 hy with hy | hy
 ·exact h.2.2.2.2 y hy
 ·obtain ⟨i, _, rfl⟩ := List.mem_map.1 hy
  have h1 := gridOk_bnd hg
  exact Nat.le_trans rowAt_len (by omega)
theorem keepTo_drop {s d : ScrD} {n k : Nat} (h : d = keepTo s n) (hk : k = d.Back.length - s.Limit.toNat) : { d with Back := d.Back.drop k } = keepRows s n := by subst h; subst hk; rfl
theorem keepTo_all {s d : ScrD} {n : Nat} (h : d = keepTo s n) (hk : d.Back.length ≤ s.Limit.toNat) : d = keepRows s n := by
 subst h
 unfold keepRows
 rw [lastN_all (l := s.Back ++ List.map (rowAt s.Main) (List.range n)) hk]; rfl
theorem keepRows_sm {s : ScrD} {n B : Nat} (h : smScr B s) (hg : gridOk s.Main = true) (hB : 120 ≤ B) (hl : s.Limit.toNat ≤ B) : smScr B (keepRows s n) := by
 refine ⟨h.1, h.2.1, h.2.2.1, by simp only [keepRows]; rw [lastN_len]; omega, fun y hy => ?_⟩
 have hy' := List.mem_of_mem_drop hy
 rcases List.mem_append.1 hy' with hy | hy
 ·exact h.2.2.2.2 y hy
 ·obtain ⟨i, _, rfl⟩ := List.mem_map.1 hy
  have h1 := gridOk_bnd hg
  exact Nat.le_trans rowAt_len (by omega)
theorem ownScrR.lens {r : ScrR} {L : Hp} (h : ownScrR r L) : (r.Main.Cells.xs.length = r.Main.Cells.n ∧ r.Main.Cells.n ≤ r.Main.Cells.c) ∧ (r.Alt.Cells.xs.length = r.Alt.Cells.n ∧ r.Alt.Cells.n ≤ r.Alt.Cells.c) ∧ (r.Tabs.xs.length = r.Tabs.n ∧ r.Tabs.n ≤ r.Tabs.c) ∧ (r.Back.xs.length = r.Back.n ∧ r.Back.n ≤ r.Back.c) := by
 obtain ⟨L1, L2, L3, L4, rfl, o1, o2, o3, o4⟩ := h
 exact ⟨⟨OwnF.len_ o1, OwnF.cap o1⟩, ⟨OwnF.len_ o2, OwnF.cap o2⟩, ⟨OwnF.len_ o3, OwnF.cap o3⟩, ⟨OwnN.len_ o4, OwnN.cap o4⟩⟩
def keepOne (s : ScrD) (y : Nat) : ScrD := { s with Back := lastN s.Limit.toNat (s.Back ++ [rowAt s.Main y]) }
theorem keepOne_succ {s : ScrD} {n : Nat} : keepOne (keepRows s n) n = keepRows s (n + 1) := keepRows_succ.symm
theorem keepOne_drop {s : ScrD} {y k : Nat} (hk : k = s.Back.length + 1 - s.Limit.toNat) : { s with Back := (s.Back ++ [rowAt s.Main y]).drop k } = keepOne s y := by
 unfold keepOne lastN
 rw [hk, List.length_append]; rfl
theorem keepOne_all {s : ScrD} {y : Nat} (hk : s.Back.length + 1 ≤ s.Limit.toNat) : { s with Back := s.Back ++ [rowAt s.Main y] } = keepOne s y := by
 unfold keepOne
 rw [lastN_all (by rw [List.length_append]; exact hk)]
theorem gridFit_ok {g : GridD} {w h : Int} (hf : gridFit g w h = true) : gridOk g = true := by
 unfold gridFit at hf
 rw [Bool.and_eq_true] at hf
 exact hf.1
theorem scrOk_P {s : ScrD} (h : scrOk s = true) : scrP1 s = true ∧ scrP2 s = true ∧ scrP3 s = true ∧ scrP4 s = true ∧ isAsc s.Tabs 0 (s.W - 1) = true ∧ s.Back.all rowOk = true := by
 unfold scrOk scrIn at h
 simp only [Bool.and_eq_true] at h
 exact ⟨h.1.1.1.1, h.1.1.1.2, h.1.1.2.1, h.1.1.2.2, h.1.2, h.2⟩
theorem scrOk_main {s : ScrD} (h : scrOk s = true) : gridOk s.Main = true ∧ gridOk s.Alt = true := by
 have h1 := (scrOk_P h).1
 unfold scrP1 at h1
 rw [Bool.and_eq_true] at h1
 exact ⟨gridFit_ok h1.1, gridFit_ok h1.2⟩
theorem scrOk_bnd {s : ScrD} (h : scrOk s = true) : ((1 ≤ s.W ∧ s.W ≤ 120) ∧ (1 ≤ s.H ∧ s.H ≤ 120) ∧ s.Main.W = s.W ∧ s.Main.H = s.H ∧ s.Alt.W = s.W ∧ s.Alt.H = s.H) ∧ ((0 ≤ s.X ∧ s.X < s.W) ∧ 0 ≤ s.Y ∧ s.Y < s.H) ∧ ((0 ≤ s.SaveX ∧ s.SaveX < s.W) ∧ 0 ≤ s.SaveY ∧ s.SaveY < s.H) ∧ (0 ≤ s.Top ∧ s.Top ≤ s.Bot ∧ s.Bot < s.H) ∧ (0 ≤ s.Limit ∧ s.Limit ≤ 100) ∧ (s.Back.length : Int) ≤ s.Limit := by
 obtain ⟨h1, h2, h3, h4, _, _⟩ := scrOk_P h
 have b := scrP1_bnd h1
 unfold scrP2 gridHas at h2
 unfold scrP3 at h3
 unfold scrP4 at h4
 simp only [Bool.and_eq_true, within_iff, decide_eq_true_eq] at h2 h3 h4
 omega
theorem gridOk_new {w h : Int} (hs : isSize w h = true) : gridOk (gridNew w h) = true := by
 obtain ⟨h1, h2, h3, h4⟩ := isSize_bnd hs
 unfold gridOk
 rw [Bool.and_eq_true, Bool.and_eq_true]
 refine ⟨⟨hs, ?_⟩, ?_⟩
 ·rw [decide_eq_true_eq]
  show ((List.replicate (w * h).toNat blankC).length : Int) = w * h
  rw [List.length_replicate]; omega
 ·show cellsOk (List.replicate (w * h).toNat blankC) = true
  unfold cellsOk
  rw [List.all_eq_true]
  intro x hx
  rw [List.mem_replicate] at hx
  rw [hx.2]; decide
theorem tots_le {l : List RowD} {k : Nat} (h : ∀ y, y ∈ l → y.Cells.length ≤ k) : tots totRow l ≤ l.length * (k + 1) := by
 unfold tots
 have : (l.map totRow).sum ≤ l.length * k := by
  induction l with
  | nil => simp
  | cons y r ih =>
   have h1 := ih (fun z hz => h z (List.mem_cons_of_mem _ hz))
   have h2 := h y List.mem_cons_self
   simp only [List.map_cons, List.sum_cons, List.length_cons, totRow, Nat.add_mul]
   omega
 rw [Nat.mul_add]
 omega
theorem rowOk_len {r : RowD} (h : rowOk r = true) : r.Cells.length ≤ 120 := by
 unfold rowOk at h
 rw [Bool.and_eq_true, within_iff] at h
 omega
theorem back_bnd {b : List RowD} {l : Int} (h : ∀ y, y ∈ b → y.Cells.length ≤ 120) (hl : (b.length : Int) ≤ l) (h2 : l ≤ 100) : tots totRow b ≤ 12100 := by
 have h1 := tots_le h
 have h3 : b.length * 121 ≤ 100 * 121 := Nat.mul_le_mul_right _ (by omega)
 omega
theorem scrOk_back {s : ScrD} (h : scrOk s = true) : ∀ y, y ∈ s.Back → y.Cells.length ≤ 120 := by
 have := (scrOk_P h).2.2.2.2.2
 rw [List.all_eq_true] at this
 exact fun y hy => rowOk_len (this y hy)
theorem smTerm_mono {B B' : Nat} {t : TermD} (h : smTerm B t) (hB : B ≤ B') : smTerm B' t := ⟨⟨Nat.le_trans h.1.1 hB, Nat.le_trans h.1.2 hB⟩, smScr_mono h.2 hB⟩
theorem termOk_P {t : TermD} (h : termOk t = true) : vpOk t.P = true ∧ scrOk t.S = true := by
 unfold termOk at h
 rwa [Bool.and_eq_true] at h
theorem scrOk_attr {s : ScrD} (h : scrOk s = true) : attrOk s.A.Fg s.A.Bg = true ∧ attrOk s.SaveA.Fg s.SaveA.Bg = true := by
 have h2 := (scrOk_P h).2.1
 unfold scrP2 at h2
 simp only [Bool.and_eq_true] at h2
 exact h2.2.2
theorem gridOk_cells {g : GridD} (h : gridOk g = true) : g.Cells.length ≤ 4000 ∧ cellsOk g.Cells = true := by
 have b := gridOk_bnd h
 unfold gridOk at h
 rw [Bool.and_eq_true, Bool.and_eq_true, decide_eq_true_eq] at h
 exact ⟨by omega, h.2⟩
def partF (g : GridD) (F : Nat → CellD) (lo i k : Nat) : CellD := if lo ≤ k ∧ k < lo + i then F k else cat g.Cells k
theorem partF_zero {g : GridD} {F : Nat → CellD} {lo k : Nat} : partF g F lo 0 k = cat g.Cells k := by
 unfold partF; rw [if_neg (by omega)]
theorem partF_add {g : GridD} {F : Nat → CellD} {lo i m k : Nat} : partF g F lo (i + m) k = if lo + i ≤ k ∧ k < lo + i + m then F k else partF g F lo i k := by
 unfold partF
 by_cases h1 : lo + i ≤ k ∧ k < lo + i + m
 ·rw [if_pos h1, if_pos (by omega)]
 ·rw [if_neg h1]
  by_cases h2 : lo ≤ k ∧ k < lo + i
  ·rw [if_pos h2, if_pos (by omega)]
  ·rw [if_neg h2, if_neg (by omega)]
theorem partF_one {g : GridD} {F : Nat → CellD} {lo i k : Nat} : partF g F lo (i + 1) k = if k = lo + i then F k else partF g F lo i k := by
 rw [partF_add]
 by_cases h : k = lo + i
 ·rw [if_pos h, if_pos (by omega)]
 ·rw [if_neg h, if_neg (by omega)]
theorem at_div {w y x : Nat} (hx : x < w) : (y * w + x) / w = y ∧ (y * w + x) % w = x := (dm_at hx).2 rfl
theorem rollF_row {g : GridD} {top bot n : Int} {y x : Nat} (hw : (x : Int) < g.W) (h1 : top ≤ (y : Int)) (h2 : (y : Int) ≤ bot) : rollF g top bot n (y * g.W.toNat + x) = if top ≤ (y : Int) + n ∧ (y : Int) + n ≤ bot then cat g.Cells (((y : Int) + n).toNat * g.W.toNat + x) else blankC := by
 obtain ⟨e1, e2⟩ := at_div (w := g.W.toNat) (y := y) (x := x) (by omega)
 unfold rollF
 rw [e1, e2, if_pos ⟨h1, h2⟩]
theorem rollF_out {g : GridD} {top bot n : Int} {k : Nat} (h : ¬ (top ≤ ((k / g.W.toNat : Nat) : Int) ∧ ((k / g.W.toNat : Nat) : Int) ≤ bot)) : rollF g top bot n k = cat g.Cells k := by
 unfold rollF; rw [if_neg h]
theorem partF_roll {g : GridD} {top bot n : Int} {k i : Nat} (hw : 0 < g.W.toNat) (ht : 0 ≤ top) (hi : i = (bot - top + 1).toNat * g.W.toNat) (htb : top ≤ bot) : partF g (rollF g top bot n) (top.toNat * g.W.toNat) i k = rollF g top bot n k := by
 unfold partF
 by_cases h : top ≤ ((k / g.W.toNat : Nat) : Int) ∧ ((k / g.W.toNat : Nat) : Int) ≤ bot
 ·rw [if_pos]
  subst hi
  rw [← Nat.add_mul]
  have h3 := Nat.div_add_mod k g.W.toNat
  have h4 := Nat.mod_lt k hw
  rw [Nat.mul_comm] at h3
  have h5 : top.toNat ≤ k / g.W.toNat := by omega
  have h6 : k / g.W.toNat + 1 ≤ top.toNat + (bot - top + 1).toNat := by omega
  have h7 := Nat.mul_le_mul_right g.W.toNat h5
  have h8 := Nat.mul_le_mul_right g.W.toNat h6
  rw [Nat.add_mul, Nat.one_mul] at h8
  omega
 ·rw [rollF_out h]; split <;> rfl
theorem rollF_big {g : GridD} {top bot n m : Int} (h0 : 0 ≤ top) (hb : bot < g.H) (hn : g.H ≤ n ∧ g.H ≤ m ∨ n ≤ -g.H ∧ m ≤ -g.H) : gRoll g top bot n = gRoll g top bot m := by
 unfold gRoll
 congr 1
 funext k
 unfold rollF
 split
 ·rename_i h
  rw [if_neg (by omega), if_neg (by omega)]
 ·rfl
theorem roll_next {g : GridD} {top bot m i : Int} {a c k : Nat} {xs : List CellD} {v : CellD} (h0 : 0 ≤ top) (hi : i = (top + a) * g.W + c) (hw : 0 ≤ g.W) (hl : i.toNat < xs.length) (hc : (c : Int) < g.W) (hb : top + a ≤ bot) (hv : v = if top ≤ top + a + m ∧ top + a + m ≤ bot then cat g.Cells ((top + a + m) * g.W + c).toNat else blankC)
  (hq : cat xs k = partF g (rollF g top bot m) (top.toNat * g.W.toNat) (a * g.W.toNat + c) k) : cat (xs.set i.toNat v) k = partF g (rollF g top bot m) (top.toNat * g.W.toNat) (a * g.W.toNat + c + 1) k := by
 have e1 : i.toNat = (top.toNat + a) * g.W.toNat + c := by
  rw [hi, Int.toNat_add (Int.mul_nonneg (by omega) hw) (by omega), Int.toNat_mul (by omega) hw, Int.toNat_natCast]
  congr 2; omega
 rw [partF_one]
 show gat encCell (xs.set i.toNat v) k = _
 rw [gat_set2 hl, e1, Nat.add_mul, Nat.add_assoc]
 split
 ·rename_i hk
  subst hk
  rw [hv, show top.toNat * g.W.toNat + (a * g.W.toNat + c) = (top.toNat + a) * g.W.toNat + c by rw [Nat.add_mul, Nat.add_assoc], rollF_row hc (by omega) (by omega)]
  rw [show ((top.toNat + a : Nat) : Int) = top + a by omega]
  split
  ·rename_i hs
   congr 1
   rw [Int.toNat_add (Int.mul_nonneg (by omega) hw) (by omega), Int.toNat_mul (by omega) hw, Int.toNat_natCast]
  ·rfl
 ·exact hq
theorem roll_done {g : GridD} {top bot n m w h : Int} {a : Nat} {xs : List CellD} (hg : gridOk g = true) (h0 : 0 ≤ top) (htb : top ≤ bot) (hb : bot < g.H) (ha : (a : Int) = bot - top + 1) (hw : w = g.W) (hh : h = g.H) (hl : xs.length = g.Cells.length) (hm : n = m ∨ (g.H ≤ n ∧ g.H ≤ m ∨ n ≤ -g.H ∧ m ≤ -g.H))
  (hp : ∀ k, k < g.Cells.length → cat xs k = partF g (rollF g top bot m) (top.toNat * g.W.toNat) (a * g.W.toNat) k) : (⟨w, h, xs⟩ : GridD) = gRoll g top bot n := by
 have b := gridOk_bnd hg
 have e : gRoll g top bot n = gRoll g top bot m := by
  rcases hm with hm | hm
  ·rw [hm]
  ·exact rollF_big h0 hb hm
 rw [e, hw, hh]
 unfold gRoll gmap
 congr 1
 refine ext_gat (F := encCell) hl (fun k hk => ?_)
 rw [← partF_roll (g := g) (top := top) (bot := bot) (n := m) (i := a * g.W.toNat) (by omega) h0 (by congr 1; omega) htb]
 exact hp k hk
theorem gat_splice2 {xs ys : List CellD} {lo m k : Nat} (hy : m ≤ ys.length) (hx : lo + m ≤ xs.length) (hk : k < xs.length) : cat (xs.take lo ++ ys.take m ++ xs.drop (lo + m)) k = if lo ≤ k ∧ k < lo + m then cat ys (k - lo) else cat xs k := gat_splice hy hx hk
theorem asc_at {l : List Int} {lo hi : Int} (h : isAsc l lo hi = true) {i : Nat} (hi' : i < l.length) : (lo ≤ iat l i ∧ iat l i ≤ hi) ∧ (0 < i → iat l (i - 1) < iat l i) := by
 unfold isAsc at h
 rw [List.all_eq_true] at h
 have h4 := h i (List.mem_range.2 hi')
 unfold ascAt at h4
 rw [Bool.and_eq_true, within_iff, Bool.or_eq_true, decide_eq_true_eq, decide_eq_true_eq] at h4
 exact ⟨h4.1, fun h0 => by rcases h4.2 with h5 | h5; omega; exact h5⟩
theorem asc_lt {l : List Int} {lo hi : Int} (h : isAsc l lo hi = true) {i : Nat} : ∀ {j : Nat}, i < j → j < l.length → iat l i < iat l j := by
 intro j
 induction j with
 | zero => intro h1; omega
 | succ j ih =>
  intro h1 h2
  have h3 := (asc_at h h2).2 (by omega)
  rw [Nat.add_sub_cancel] at h3
  rcases Nat.lt_or_ge i j with h4 | h4
  ·have := ih h4 (by omega); omega
  ·have : i = j := by omega
   subst this; exact h3
theorem asc_ge {l : List Int} {lo hi : Int} (h : isAsc l lo hi = true) : ∀ {i : Nat}, i < l.length → lo + i ≤ iat l i := by
 intro i
 induction i with
 | zero => intro h1; have := (asc_at h h1).1; omega
 | succ i ih =>
  intro h1
  have h2 := ih (by omega)
  have h3 := (asc_at h h1).2 (by omega)
  rw [Nat.add_sub_cancel] at h3
  omega
theorem asc_len {l : List Int} {w : Int} (h0 : 1 ≤ w) (h1 : w ≤ 120) (h : isAsc l 0 (w - 1) = true) : l.length ≤ 120 := by
 rcases Nat.lt_or_ge 120 l.length with h2 | h2
 ·have h3 := asc_ge h (i := 120) h2
  have h4 := (asc_at h (i := 120) h2).1
  omega
 ·exact h2
theorem within_of {x a b : Int} (h : a ≤ x ∧ x ≤ b) : within x a b = true := within_iff.2 h
structure ScrFine (s : ScrD) : Prop where
 gM : gridOk s.Main = true
 gA : gridOk s.Alt = true
 dim : s.Main.W = s.W ∧ s.Main.H = s.H ∧ s.Alt.W = s.W ∧ s.Alt.H = s.H
 pos : (0 ≤ s.X ∧ s.X < s.W) ∧ 0 ≤ s.Y ∧ s.Y < s.H
 sav : (0 ≤ s.SaveX ∧ s.SaveX < s.W) ∧ 0 ≤ s.SaveY ∧ s.SaveY < s.H
 wrp : s.Wrap = true → s.X = s.W - 1
 aA : attrOk s.A.Fg s.A.Bg = true
 aS : attrOk s.SaveA.Fg s.SaveA.Bg = true
 reg : (0 ≤ s.Top ∧ s.Top ≤ s.Bot) ∧ s.Bot < s.H ∧ (s.Top = s.Bot → s.H = 1)
 lim : (0 ≤ s.Limit ∧ s.Limit ≤ 100) ∧ (s.Back.length : Int) ≤ s.Limit
 tab : isAsc s.Tabs 0 (s.W - 1) = true
 row : s.Back.all rowOk = true
theorem ScrFine.of {s : ScrD} (h : scrOk s = true) : ScrFine s := by
 obtain ⟨h1, h2, h3, h4, h5, h6⟩ := scrOk_P h
 have hb := scrOk_bnd h
 have hm := scrOk_main h
 have ha := scrOk_attr h
 refine ⟨hm.1, hm.2, ⟨hb.1.2.2.1, hb.1.2.2.2.1, hb.1.2.2.2.2⟩, hb.2.1, hb.2.2.1, ?_, ha.1, ha.2, ⟨⟨hb.2.2.2.1.1, hb.2.2.2.1.2.1⟩, hb.2.2.2.1.2.2, ?_⟩, hb.2.2.2.2, h5, h6⟩
 ·intro hw
  unfold scrP2 at h2
  rw [hw] at h2
  simp only [Bool.and_eq_true, Bool.not_true, Bool.false_or, decide_eq_true_eq] at h2
  exact h2.2.1
 ·intro he
  unfold scrP3 at h3
  rw [he] at h3
  simp only [Bool.and_eq_true, decide_true, Bool.not_true, Bool.false_or, decide_eq_true_eq] at h3
  exact h3.2.2
theorem ScrFine.ok {s : ScrD} (h : ScrFine s) : scrOk s = true := by
 have b := gridOk_bnd h.gM
 obtain ⟨d1, d2, d3, d4⟩ := h.dim
 have hp := h.pos
 have hs := h.sav
 have hr := h.reg
 have hl := h.lim
 refine scrOk_all ?_ ?_ ?_ ?_ h.tab h.row
 ·unfold scrP1 gridFit
  simp [h.gM, h.gA, d1, d2, d3, d4]
 ·unfold scrP2 gridHas
  rw [within_of (by omega), within_of (by omega), within_of (by omega), within_of (by omega), h.aA, h.aS]
  have hw := h.wrp
  cases hq : s.Wrap
  ·rfl
  ·simp [hw hq]
 ·unfold scrP3
  simp only [Bool.and_eq_true, decide_eq_true_eq, Bool.or_eq_true, Bool.not_eq_true', decide_eq_false_iff_not]
  refine ⟨hr.1, hr.2.1, ?_⟩
  by_cases he : s.Top = s.Bot
  ·exact .inr (hr.2.2 he)
  ·exact .inl he
 ·unfold scrP4
  rw [within_of hl.1, Bool.true_and, decide_eq_true_eq]
  exact hl.2
theorem scr_tot {s : ScrD} (h : scrOk s = true) : totScr s ≤ 20220 := by
 have f := ScrFine.of h
 have m := gridOk_cells f.gM
 have a := gridOk_cells f.gA
 have b := back_bnd (scrOk_back h) f.lim.2 f.lim.1.2
 have t : s.Tabs.length ≤ 120 := by
  have hb := scrOk_bnd h
  exact asc_len (by omega) (by omega) f.tab
 show s.Main.Cells.length + s.Alt.Cells.length + s.Tabs.length + tots totRow s.Back ≤ 20220
 omega
theorem blank_ok : cellOk blankC = true := by decide
theorem grid_len {g : GridD} (hg : gridOk g = true) : (g.Cells.length : Int) = g.W * g.H := by
 unfold gridOk at hg; rw [Bool.and_eq_true, Bool.and_eq_true, decide_eq_true_eq] at hg; exact hg.1.2
theorem cat_ok {g : GridD} {k : Nat} (hg : gridOk g = true) (hk : k < g.Cells.length) : cellOk (cat g.Cells k) = true := by
 have h := (gridOk_cells hg).2
 unfold cellsOk at h
 rw [List.all_eq_true] at h
 exact h _ (gat_mem (F := encCell) hk)
theorem gmap_ok {g : GridD} {f : Nat → CellD} (hg : gridOk g = true) (h : ∀ k, k < g.Cells.length → cellOk (f k) = true) : gridOk (gmap g f) = true := by
 have hg' := hg
 unfold gridOk at hg' ⊢
 rw [Bool.and_eq_true, Bool.and_eq_true] at hg' ⊢
 refine ⟨⟨hg'.1.1, ?_⟩, ?_⟩
 ·rw [decide_eq_true_eq, gmap_len]; exact grid_len hg
 ·unfold cellsOk
  rw [List.all_eq_true]
  intro x hx
  obtain ⟨k, hk, rfl⟩ := List.mem_map.1 hx
  exact h k (List.mem_range.1 hk)
theorem idx_lt {g : GridD} {r : Int} {x : Nat} (hg : gridOk g = true) (h0 : 0 ≤ r) (h1 : r < g.H) (hx : x < g.W.toNat) : r.toNat * g.W.toNat + x < g.Cells.length := by
 have b := gridOk_bnd hg
 have l := grid_len hg
 have e : ((g.H.toNat * g.W.toNat : Nat) : Int) = g.W * g.H := by rw [Int.natCast_mul, Int.toNat_of_nonneg (by omega), Int.toNat_of_nonneg (by omega), Int.mul_comm]
 have m := Nat.mul_le_mul_right g.W.toNat (show r.toNat + 1 ≤ g.H.toNat by omega)
 rw [Nat.add_mul, Nat.one_mul] at m
 omega
theorem gRoll_ok {g : GridD} {top bot n : Int} (hg : gridOk g = true) (h0 : 0 ≤ top) (hb : bot < g.H) : gridOk (gRoll g top bot n) = true := by
 have b := gridOk_bnd hg
 refine gmap_ok hg (fun k hk => ?_)
 unfold rollF
 split
 ·split
  ·exact cat_ok hg (idx_lt hg (by omega) (by omega) (Nat.mod_lt _ (by omega)))
  ·exact blank_ok
 ·exact cat_ok hg hk
theorem gShift_ok {g : GridD} {x y n : Int} (hg : gridOk g = true) (h0 : 0 ≤ x) (hy : 0 ≤ y ∧ y < g.H) : gridOk (gShift g x y n) = true := by
 have b := gridOk_bnd hg
 refine gmap_ok hg (fun k hk => ?_)
 unfold shiftF
 split
 ·rename_i h
  split
  ·have := idx_lt (r := ((k / g.W.toNat : Nat) : Int)) (x := (((k % g.W.toNat : Nat) : Int) - n).toNat) hg (by omega) (by omega) (by omega)
   rw [Int.toNat_natCast] at this
   exact cat_ok hg this
  ·exact blank_ok
 ·exact cat_ok hg hk
theorem gFill_ok {g : GridD} {x y w h : Int} {c : CellD} (hg : gridOk g = true) (hc : cellOk c = true) : gridOk (gFill g x y w h c) = true := by
 refine gmap_ok hg (fun k hk => ?_)
 unfold fillFn
 split
 ·exact hc
 ·exact cat_ok hg hk
def shownD (s : ScrD) : GridD := if s.OnAlt = true then s.Alt else s.Main
def putD (s : ScrD) (g : GridD) : ScrD := if s.OnAlt = true then { s with Alt := g } else { s with Main := g }
def shownR (x : ScrR) : GridR := if x.OnAlt = true then x.Alt else x.Main
theorem shownR_dat {x : ScrR} : (shownR x).dat = shownD x.dat := by
 unfold shownR shownD
 by_cases h : x.OnAlt = true
 ·rw [if_pos h, if_pos (show x.dat.OnAlt = true from h)]; rfl
 ·rw [if_neg h, if_neg (show ¬ x.dat.OnAlt = true from h)]; rfl
theorem shownR_alt {x : ScrR} (h : x.OnAlt = true) : shownR x = x.Alt := if_pos h
theorem shownR_main {x : ScrR} (h : ¬ x.OnAlt = true) : shownR x = x.Main := if_neg h
theorem okScrR.shown {B : Nat} {w : World} {x : ScrR} (h : okScrR B w x) : okGridR B w (shownR x) := by
 unfold shownR; split
 ·exact h.Alt
 ·exact h.Main
theorem sepScrR.shown {T : List Nat} {x : ScrR} (h : sepScrR T x) : sepGridR T (shownR x) := by
 unfold shownR; split
 ·exact h.Alt
 ·exact h.Main
theorem ScrFine.shown {s : ScrD} (h : ScrFine s) : gridOk (shownD s) = true ∧ (shownD s).W = s.W ∧ (shownD s).H = s.H := by
 unfold shownD
 split
 ·exact ⟨h.gA, h.dim.2.2⟩
 ·exact ⟨h.gM, h.dim.1, h.dim.2.1⟩
theorem ScrFine.put {s : ScrD} {g : GridD} (h : ScrFine s) (hg : gridOk g = true) (hd : g.W = s.W ∧ g.H = s.H) : ScrFine (putD s g) := by
 unfold putD
 split
 ·exact ⟨h.gM, hg, ⟨h.dim.1, h.dim.2.1, hd⟩, h.pos, h.sav, h.wrp, h.aA, h.aS, h.reg, h.lim, h.tab, h.row⟩
 ·exact ⟨hg, h.gA, ⟨hd.1, hd.2, h.dim.2.2⟩, h.pos, h.sav, h.wrp, h.aA, h.aS, h.reg, h.lim, h.tab, h.row⟩
def rollD (s : ScrD) (top bot n : Int) : ScrD := putD s (gRoll (shownD s) top bot n)
def keepD (s : ScrD) (n : Int) : ScrD := if s.OnAlt = false ∧ s.Top = 0 then keepRows s (min n (s.Bot + 1)).toNat else s
def rollUpD (s : ScrD) (n : Int) : ScrD := rollD (keepD s n) s.Top s.Bot n
def wrapD (s : ScrD) (b : Bool) : ScrD := { s with Wrap := b }
def downD (s : ScrD) : ScrD := wrapD (if s.Y = s.Bot then rollUpD s 1 else if s.Y < s.H - 1 then { s with Y := s.Y + 1 } else s) false
def upD (s : ScrD) : ScrD := wrapD (if s.Y = s.Top then rollD s s.Top s.Bot (-1) else if s.Y > 0 then { s with Y := s.Y - 1 } else s) false
def saveD (s : ScrD) : ScrD := { s with SaveX := s.X, SaveY := s.Y, SaveA := s.A }
def backD (s : ScrD) : ScrD := { s with X := s.SaveX, Y := s.SaveY, A := s.SaveA, Wrap := false }
def tabL (s : ScrD) : List Int := ((List.range s.W.toNat).map (fun i : Nat => (i : Int))).filter (fun x => decide (x = s.X) || s.Tabs.contains x)
def tabD (s : ScrD) : ScrD := { s with Tabs := tabL s }
def resetD (s : ScrD) : ScrD := { scrNew s.W s.H s.Limit with Back := s.Back }
theorem ScrFine.roll {s : ScrD} {top bot n : Int} (h : ScrFine s) (h0 : 0 ≤ top) (hb : bot < s.H) : ScrFine (rollD s top bot n) := by
 have hs := h.shown
 exact h.put (gRoll_ok hs.1 h0 (by rw [hs.2.2]; exact hb)) hs.2
theorem rowAt_ok {g : GridD} {i : Nat} (hg : gridOk g = true) (hi : (i : Int) < g.H) : rowOk (rowAt g i) = true := by
 have b := gridOk_bnd hg
 have l := grid_len hg
 have h2 := idx_lt (r := (i : Int)) (x := 0) hg (by omega) hi (by omega)
 have h3 := idx_lt (r := (i : Int)) (x := g.W.toNat - 1) hg (by omega) hi (by omega)
 rw [Int.toNat_natCast] at h2 h3
 have hl : (rowAt g i).Cells.length = g.W.toNat := by
  show ((g.Cells.drop _).take _).length = _
  rw [List.length_take, List.length_drop]; omega
 unfold rowOk
 rw [Bool.and_eq_true]
 refine ⟨within_of (by omega), ?_⟩
 have hc := (gridOk_cells hg).2
 unfold cellsOk at hc ⊢
 rw [List.all_eq_true] at hc ⊢
 exact fun x hx => hc x (List.mem_of_mem_drop (List.mem_of_mem_take hx))
theorem ScrFine.keepRows {s : ScrD} {n : Nat} (h : ScrFine s) (hn : (n : Int) ≤ s.H) : ScrFine (keepRows s n) := by
 refine ⟨h.gM, h.gA, h.dim, h.pos, h.sav, h.wrp, h.aA, h.aS, h.reg, ⟨h.lim.1, ?_⟩, h.tab, ?_⟩
 ·show ((lastN _ _).length : Int) ≤ s.Limit
  rw [lastN_len]; have := h.lim.1; omega
 ·show (lastN _ _).all rowOk = true
  rw [List.all_eq_true]
  intro x hx
  rcases List.mem_append.1 (List.mem_of_mem_drop hx) with hx | hx
  ·exact List.all_eq_true.1 h.row x hx
  ·obtain ⟨i, hi, rfl⟩ := List.mem_map.1 hx
   exact rowAt_ok h.gM (by rw [h.dim.2.1]; have := List.mem_range.1 hi; omega)
theorem ScrFine.keep {s : ScrD} {n : Int} (h : ScrFine s) : ScrFine (keepD s n) := by
 unfold keepD
 split
 ·exact h.keepRows (by have := h.reg; omega)
 ·exact h
theorem keepD_eqs {s : ScrD} {n : Int} : (keepD s n).H = s.H ∧ (keepD s n).Top = s.Top ∧ (keepD s n).Bot = s.Bot ∧ (keepD s n).W = s.W ∧ (keepD s n).OnAlt = s.OnAlt ∧ (keepD s n).Main = s.Main ∧ (keepD s n).Alt = s.Alt := by
 unfold keepD; split <;> exact ⟨rfl, rfl, rfl, rfl, rfl, rfl, rfl⟩
theorem ScrFine.rollUp {s : ScrD} {n : Int} (h : ScrFine s) : ScrFine (rollUpD s n) := by
 have := h.reg
 exact h.keep.roll (by omega) (by rw [keepD_eqs.1]; omega)
theorem ScrFine.wrap0 {s : ScrD} (h : ScrFine s) : ScrFine (wrapD s false) :=
 ⟨h.gM, h.gA, h.dim, h.pos, h.sav, fun h9 => Bool.noConfusion h9, h.aA, h.aS, h.reg, h.lim, h.tab, h.row⟩
theorem ScrFine.y {s : ScrD} {y : Int} (h : ScrFine s) (hy : 0 ≤ y ∧ y < s.H) : ScrFine { s with Y := y } :=
 ⟨h.gM, h.gA, h.dim, ⟨h.pos.1, hy⟩, h.sav, h.wrp, h.aA, h.aS, h.reg, h.lim, h.tab, h.row⟩
theorem ScrFine.down {s : ScrD} (h : ScrFine s) : ScrFine (downD s) := by
 have hp := h.pos
 refine ScrFine.wrap0 ?_
 split
 ·exact h.rollUp
 ·split
  ·exact h.y (by omega)
  ·exact h
theorem ScrFine.up {s : ScrD} (h : ScrFine s) : ScrFine (upD s) := by
 have hp := h.pos
 have hr := h.reg
 refine ScrFine.wrap0 ?_
 split
 ·exact h.roll (by omega) (by omega)
 ·split
  ·exact h.y (by omega)
  ·exact h
theorem ScrFine.save {s : ScrD} (h : ScrFine s) : ScrFine (saveD s) :=
 ⟨h.gM, h.gA, h.dim, h.pos, h.pos, h.wrp, h.aA, h.aA, h.reg, h.lim, h.tab, h.row⟩
theorem ScrFine.back {s : ScrD} (h : ScrFine s) : ScrFine (backD s) :=
 ⟨h.gM, h.gA, h.dim, h.sav, h.sav, fun h9 => Bool.noConfusion h9, h.aS, h.aS, h.reg, h.lim, h.tab, h.row⟩
theorem roll_row {g : GridD} {top bot n : Int} {a k lo m : Nat} {xs ys : List CellD} (h0 : 0 ≤ top) (hlo : lo = (top.toNat + a) * g.W.toNat) (hm : m = g.W.toNat) (hy : m ≤ ys.length) (hx : lo + m ≤ xs.length) (hk : k < xs.length) (hb : top + a ≤ bot)
  (hv : ∀ j, j < g.W.toNat → cat ys j = if top ≤ top + a + n ∧ top + a + n ≤ bot then cat g.Cells ((top + a + n).toNat * g.W.toNat + j) else blankC) (hq : cat xs k = partF g (rollF g top bot n) (top.toNat * g.W.toNat) (a * g.W.toNat) k) :
  cat (xs.take lo ++ ys.take m ++ xs.drop (lo + m)) k = partF g (rollF g top bot n) (top.toNat * g.W.toNat) ((a + 1) * g.W.toNat) k := by
 rw [gat_splice2 hy hx hk, Nat.add_mul a 1, Nat.one_mul, partF_add, ← Nat.add_mul, ← hlo, hm]
 split
 ·rename_i hr
  rw [hv _ (by omega)]
  have e : k = (top.toNat + a) * g.W.toNat + (k - lo) := by omega
  have e2 : rollF g top bot n k = rollF g top bot n ((top.toNat + a) * g.W.toNat + (k - lo)) := congrArg _ e
  rw [e2, rollF_row (by omega) (by omega) (by omega), show ((top.toNat + a : Nat) : Int) = top + a by omega]
 ·exact hq
theorem roll_src {g : GridD} {y : Int} {j lo m : Nat} (hy : 0 ≤ y) (hw : 0 ≤ g.W) (hlo : lo = (y * g.W).toNat) (hm : m = g.W.toNat) (hj : j < g.W.toNat) : cat ((g.Cells.drop lo).take m) j = cat g.Cells (y.toNat * g.W.toNat + j) := by
 show gat encCell _ _ = _
 rw [gat_cut (by omega), hlo, Int.toNat_mul hy hw]
theorem cat_rep {n j : Nat} {x : CellD} (h : j < n) : cat (List.replicate n x) j = x := by
 show gat encCell _ _ = _
 rw [gat_lt (by rw [List.length_replicate]; exact h), List.getElem_replicate]
def sgrOne (a : AttrD) (n : Int) : AttrD :=
 if n = 0 then ⟨0, 0, false, false, false⟩
 else if n = 1 ∨ n = 22 then { a with Bold := decide (n = 1) }
 else if n = 4 ∨ n = 24 then { a with Under := decide (n = 4) }
 else if n = 7 ∨ n = 27 then { a with Turn := decide (n = 7) }
 else if 30 ≤ n ∧ n ≤ 37 then { a with Fg := n - 29 }
 else if n = 39 then { a with Fg := 0 }
 else if 40 ≤ n ∧ n ≤ 47 then { a with Bg := n - 39 }
 else if n = 49 then { a with Bg := 0 } else a
def sgrAll (a : AttrD) (l : List Int) : AttrD := l.foldl sgrOne a
theorem sgrAll_take {a : AttrD} {l : List Int} {i : Nat} (h : i < l.length) : sgrAll a (l.take (i + 1)) = sgrOne (sgrAll a (l.take i)) (iat l i) := by
 unfold sgrAll
 rw [List.take_add_one, gat_get (F := encI) h, List.foldl_append]
 rfl
def sgrRes (a : AttrD) (l : List Int) : AttrD := if attrOk a.Fg a.Bg = true ∧ 0 < l.length then sgrAll a l else ⟨0, 0, false, false, false⟩
theorem attrOk_iff {a b : Int} : attrOk a b = true ↔ (0 ≤ a ∧ a ≤ 8) ∧ 0 ≤ b ∧ b ≤ 8 := by
 unfold attrOk; rw [Bool.and_eq_true, within_iff, within_iff]
theorem sgrOne_ok {a : AttrD} {n : Int} (h : attrOk a.Fg a.Bg = true) : attrOk (sgrOne a n).Fg (sgrOne a n).Bg = true := by
 rw [attrOk_iff] at h ⊢
 unfold sgrOne
 repeat' split
 all_goals (first | omega | (simp only; omega))
theorem sgrAll_ok {l : List Int} : ∀ {a : AttrD}, attrOk a.Fg a.Bg = true → attrOk (sgrAll a l).Fg (sgrAll a l).Bg = true := by
 induction l with
 | nil => exact fun h => h
 | cons x r ih => exact fun h => ih (sgrOne_ok h)
theorem sgrRes_ok {a : AttrD} {l : List Int} : attrOk (sgrRes a l).Fg (sgrRes a l).Bg = true := by
 unfold sgrRes
 split
 ·rename_i h; exact sgrAll_ok h.1
 ·decide
def argI (l : List Int) (k : Nat) (d : Int) : Int := if k < l.length ∧ iat l k ≠ 0 then iat l k else d
theorem argI_bnd {l : List Int} {k : Nat} {d : Int} (h : areArgs l = true) (hd : 0 ≤ d ∧ d ≤ 9999) : 0 ≤ argI l k d ∧ argI l k d ≤ 9999 := by
 unfold argI
 split
 ·rename_i h1
  exact (areArgs_iff.1 h).2 _ (gat_mem (F := encI) h1.1)
 ·exact hd
theorem argI_pos {l : List Int} {k : Nat} {d : Int} (h : areArgs l = true) (hd : 1 ≤ d ∧ d ≤ 9999) : 1 ≤ argI l k d ∧ argI l k d ≤ 9999 := by
 have h0 := argI_bnd (k := k) h (d := d) (by omega)
 unfold argI at h0 ⊢
 split at h0
 ·rename_i h1; rw [if_pos h1]; have := h1.2; omega
 ·rename_i h1; rw [if_neg h1]; exact hd
def clampI (x hi : Int) : Int := max 0 (min x hi)
theorem clampI_bnd {x w : Int} (h : 1 ≤ w) : 0 ≤ clampI x (w - 1) ∧ clampI x (w - 1) < w := by unfold clampI; omega
def moveD (s : ScrD) (x y : Int) : ScrD := { s with X := clampI x (s.W - 1), Y := clampI y (s.H - 1), Wrap := false }
def clearF (g : GridD) (a b : Int) (k : Nat) : CellD := if a ≤ (k : Int) ∧ (k : Int) < b then blankC else cat g.Cells k
def clearD (s : ScrD) (a b : Int) : ScrD := putD s (gmap (shownD s) (clearF (shownD s) a b))
def eraseD (s : ScrD) (a b k : Int) : ScrD :=
 if k = 0 then clearD s (s.Y * s.W + s.X) b else if k = 1 then clearD s a (s.Y * s.W + s.X + 1) else if k = 2 then clearD s a b else s
def regionD (s : ScrD) (l : List Int) : ScrD :=
 if argI l 0 1 - 1 < argI l 1 s.H - 1 ∧ argI l 1 s.H - 1 < s.H then moveD { s with Top := argI l 0 1 - 1, Bot := argI l 1 s.H - 1 } 0 0 else s
def tabsD (s : ScrD) (k : Int) : ScrD := { s with Tabs := s.Tabs.filter fun x => (decide (k = 0) && !decide (x = s.X)) || (!decide (k = 0) && !decide (k = 3)) }
def linesD (s : ScrD) (n : Int) : ScrD := if within s.Y s.Top s.Bot = true then { rollD s s.Y s.Bot n with X := 0, Wrap := false } else s
def modeD (s : ScrD) (n : Int) (on : Bool) : ScrD :=
 if n = 7 then { s with NoWrap := !on, Wrap := s.Wrap && on }
 else if n = 25 then { s with Hide := !on }
 else if (n = 1049 ∧ on = true) ∧ s.OnAlt = false then { saveD s with Alt := gridNew s.W s.H, OnAlt := true }
 else if (n = 1049 ∧ on = false) ∧ s.OnAlt = true then backD { s with OnAlt := false } else s
def csiD (s : ScrD) (l : List Int) (b : Int) : ScrD :=
 if b = 65 then moveD s s.X (s.Y - argI l 0 1)
 else if b = 66 then moveD s s.X (s.Y + argI l 0 1)
 else if b = 67 then moveD s (s.X + argI l 0 1) s.Y
 else if b = 68 then moveD s (s.X - argI l 0 1) s.Y
 else if b = 71 then moveD s (argI l 0 1 - 1) s.Y
 else if b = 100 then moveD s s.X (argI l 0 1 - 1)
 else if b = 72 ∨ b = 102 then moveD s (argI l 1 1 - 1) (argI l 0 1 - 1)
 else if b = 74 then eraseD s 0 (s.W * s.H) (argI l 0 0)
 else if b = 75 then eraseD s (s.Y * s.W) ((s.Y + 1) * s.W) (argI l 0 0)
 else if b = 88 then clearD s (s.Y * s.W + s.X) (min (s.Y * s.W + s.X + argI l 0 1) ((s.Y + 1) * s.W))
 else if b = 64 then putD s (gShift (shownD s) s.X s.Y (argI l 0 1))
 else if b = 80 then putD s (gShift (shownD s) s.X s.Y (-argI l 0 1))
 else if b = 76 then linesD s (-argI l 0 1)
 else if b = 77 then linesD s (argI l 0 1)
 else if b = 83 then rollUpD s (argI l 0 1)
 else if b = 84 then rollD s s.Top s.Bot (-argI l 0 1)
 else if b = 109 then { s with A := sgrRes s.A l }
 else if b = 114 then regionD s l
 else if b = 103 then tabsD s (argI l 0 0)
 else s
def seqD (s : ScrD) (mark : Bool) (l : List Int) (b : Int) : ScrD :=
 if mark = false then csiD s l b else if b = 104 ∨ b = 108 then l.foldl (fun s n => modeD s n (decide (b = 104))) s else s
def csiOk (s : ScrD) (l : List Int) : Bool := areArgs l && scrOk s
def scrCsiRes (s : ScrD) (mark : Bool) (l : List Int) (b : Int) : ScrD := if csiOk s l = true then seqD s mark l b else scr0
theorem ScrFine.move {s : ScrD} {x y : Int} (h : ScrFine s) : ScrFine (moveD s x y) := by
 have hp := h.pos
 exact ⟨h.gM, h.gA, h.dim, ⟨clampI_bnd (by omega), clampI_bnd (by omega)⟩, h.sav, fun h9 => Bool.noConfusion h9, h.aA, h.aS, h.reg, h.lim, h.tab, h.row⟩
theorem ScrFine.clear {s : ScrD} {a b : Int} (h : ScrFine s) : ScrFine (clearD s a b) := by
 have hs := h.shown
 refine h.put (gmap_ok hs.1 (fun k hk => ?_)) hs.2
 unfold clearF
 split
 ·exact blank_ok
 ·exact cat_ok hs.1 hk
theorem ScrFine.erase {s : ScrD} {a b k : Int} (h : ScrFine s) : ScrFine (eraseD s a b k) := by
 unfold eraseD
 repeat' split
 all_goals first | exact h.clear | exact h
theorem ScrFine.region {s : ScrD} {l : List Int} (h : ScrFine s) (hl : areArgs l = true) : ScrFine (regionD s l) := by
 have b := gridOk_bnd h.gM
 obtain ⟨d1, d2, _⟩ := h.dim
 unfold regionD
 split
 ·rename_i hr
  have h1 := argI_pos (k := 0) hl (d := 1) (by omega)
  have h' : ScrFine { s with Top := argI l 0 1 - 1, Bot := argI l 1 s.H - 1 } := ⟨h.gM, h.gA, h.dim, h.pos, h.sav, h.wrp, h.aA, h.aS, ⟨by constructor <;> (simp only; omega), hr.2, fun he => by simp only at he; omega⟩, h.lim, h.tab, h.row⟩
  exact h'.move
 ·exact h
theorem ScrFine.wx {s : ScrD} (h : ScrFine s) : ScrFine { s with X := 0, Wrap := false } := by
 have hp := h.pos
 exact ⟨h.gM, h.gA, h.dim, ⟨by constructor <;> (simp only; omega), hp.2⟩, h.sav, fun h9 => Bool.noConfusion h9, h.aA, h.aS, h.reg, h.lim, h.tab, h.row⟩
theorem ScrFine.lines {s : ScrD} {n : Int} (h : ScrFine s) : ScrFine (linesD s n) := by
 unfold linesD
 split
 ·rename_i hw
  rw [within_iff] at hw
  have hr := h.reg
  exact (h.roll (by omega) (by omega)).wx
 ·exact h
theorem asc_pair {l : List Int} {lo hi : Int} : isAsc l lo hi = true ↔ l.Pairwise (· < ·) ∧ ∀ x, x ∈ l → lo ≤ x ∧ x ≤ hi := by
 constructor
 ·intro h
  constructor
  ·rw [List.pairwise_iff_getElem]
   intro i j hi' hj hij
   have := asc_lt h hij hj
   rwa [show iat l i = l[i] from gat_lt hi', show iat l j = l[j] from gat_lt hj] at this
  ·intro x hx
   obtain ⟨i, hi', rfl⟩ := List.mem_iff_getElem.1 hx
   have := (asc_at h hi').1
   rwa [show iat l i = l[i] from gat_lt hi'] at this
 ·rintro ⟨h1, h2⟩
  refine isAsc_all fun i hi' => ?_
  unfold ascAt
  rw [Bool.and_eq_true, within_iff, Bool.or_eq_true, decide_eq_true_eq, decide_eq_true_eq, show iat l i = l[i] from gat_lt hi']
  refine ⟨h2 _ (List.getElem_mem hi'), ?_⟩
  rcases Nat.eq_zero_or_pos i with h3 | h3
  ·exact .inl h3
  ·right
   rw [show iat l (i - 1) = l[i - 1] from gat_lt (by omega)]
   exact List.pairwise_iff_getElem.1 h1 (i - 1) i (by omega) hi' (by omega)
theorem asc_sub {l m : List Int} {lo hi : Int} (h : isAsc l lo hi = true) (hm : m.Sublist l) : isAsc m lo hi = true := by
 rw [asc_pair] at h ⊢
 exact ⟨h.1.sublist hm, fun x hx => h.2 x (hm.subset hx)⟩
theorem ScrFine.tabs {s : ScrD} {l : List Int} (h : ScrFine s) (hl : isAsc l 0 (s.W - 1) = true) : ScrFine { s with Tabs := l } :=
 ⟨h.gM, h.gA, h.dim, h.pos, h.sav, h.wrp, h.aA, h.aS, h.reg, h.lim, hl, h.row⟩
theorem ScrFine.sgr {s : ScrD} {l : List Int} (h : ScrFine s) : ScrFine { s with A := sgrRes s.A l } :=
 ⟨h.gM, h.gA, h.dim, h.pos, h.sav, h.wrp, sgrRes_ok, h.aS, h.reg, h.lim, h.tab, h.row⟩
theorem ScrFine.shift {s : ScrD} {n : Int} (h : ScrFine s) : ScrFine (putD s (gShift (shownD s) s.X s.Y n)) := by
 have hs := h.shown
 have hp := h.pos
 exact h.put (gShift_ok hs.1 hp.1.1 (by rw [hs.2.2]; exact hp.2)) hs.2
theorem fine_ite {p : Prop} [Decidable p] {a b : ScrD} (ha : ScrFine a) (hb : ScrFine b) : ScrFine (if p then a else b) := by
 by_cases h : p
 ·rw [if_pos h]; exact ha
 ·rw [if_neg h]; exact hb
theorem ScrFine.csi {s : ScrD} {l : List Int} {b : Int} (h : ScrFine s) (hl : areArgs l = true) : ScrFine (csiD s l b) := by
 have hr := h.reg
 unfold csiD
 repeat' (with_reducible refine fine_ite ?_ ?_)
 all_goals first | exact h.move | exact h.erase | exact h.clear | exact h.shift | exact h.lines | exact h.rollUp | exact h.roll (by omega) (by omega) | exact h.sgr | exact h.region hl | exact h.tabs (asc_sub h.tab List.filter_sublist) | exact h
theorem isSize_of {g : GridD} (hg : gridOk g = true) : isSize g.W g.H = true := by
 unfold gridOk at hg; rw [Bool.and_eq_true, Bool.and_eq_true] at hg; exact hg.1.1
theorem ScrFine.size {s : ScrD} (h : ScrFine s) : isSize s.W s.H = true := by
 have := isSize_of h.gM
 rwa [h.dim.1, h.dim.2.1] at this
theorem ScrFine.mode {s : ScrD} {n : Int} {on : Bool} (h : ScrFine s) : ScrFine (modeD s n on) := by
 unfold modeD
 split
 ·exact ⟨h.gM, h.gA, h.dim, h.pos, h.sav, fun h9 => h.wrp (by simp only [Bool.and_eq_true] at h9; exact h9.1), h.aA, h.aS, h.reg, h.lim, h.tab, h.row⟩
 ·split
  ·exact ⟨h.gM, h.gA, h.dim, h.pos, h.sav, h.wrp, h.aA, h.aS, h.reg, h.lim, h.tab, h.row⟩
  ·split
   ·exact ⟨h.gM, gridOk_new h.size, ⟨h.dim.1, h.dim.2.1, rfl, rfl⟩, h.pos, h.pos, h.wrp, h.aA, h.aA, h.reg, h.lim, h.tab, h.row⟩
   ·split
    ·exact ⟨h.gM, h.gA, h.dim, h.sav, h.sav, fun h9 => Bool.noConfusion h9, h.aS, h.aS, h.reg, h.lim, h.tab, h.row⟩
    ·exact h
def modesD (s : ScrD) (l : List Int) (on : Bool) : ScrD := l.foldl (fun s n => modeD s n on) s
theorem modesD_take {s : ScrD} {l : List Int} {i : Nat} {on : Bool} (h : i < l.length) : modesD s (l.take (i + 1)) on = modeD (modesD s (l.take i) on) (iat l i) on := by
 unfold modesD
 rw [List.take_add_one, gat_get (F := encI) h, List.foldl_append]
 rfl
theorem ScrFine.modes {l : List Int} {on : Bool} : ∀ {s : ScrD}, ScrFine s → ScrFine (modesD s l on) := by
 induction l with
 | nil => exact fun h => h
 | cons x r ih => exact fun h => ih h.mode
theorem ScrFine.seq {s : ScrD} {mark : Bool} {l : List Int} {b : Int} (h : ScrFine s) (hl : areArgs l = true) : ScrFine (seqD s mark l b) := by
 unfold seqD
 split
 ·exact h.csi hl
 ·split
  ·exact ScrFine.modes h
  ·exact h
theorem k86_ (g : GridR) (top : Int) (bot : Int) (n : Int) (w : World) (f_g : okGridR 549755813888 w g) (hg : gridOk g.dat = true) (ht : 0 ≤ top ∧ top ≤ bot ∧ bot < g.H) (hn : -100000 ≤ n ∧ n ≤ 100000) :
    Calls Tryz.prog 249 #[.agg #[i64 g.W, i64 g.H, .slice g.Cells.A g.Cells.n g.Cells.c], i64 top, i64 bot, i64 n] w fun e w' => ∃ r L1, e = .returned (.agg #[i64 r.W, i64 r.H, .slice r.Cells.A r.Cells.n r.Cells.c]) ∧ St w [] L1 w' ∧ ownGridR r L1 ∧ r.dat = gRoll g.dat top bot n := by
 have nb_g_Cells := f_g.Cells_n
 have nl_g_Cells := f_g.Cells.len
 have hgb : (1 ≤ g.W ∧ g.W ≤ 120) ∧ (1 ≤ g.H ∧ g.H ≤ 120) ∧ 1 ≤ g.W * g.H ∧ g.W * g.H ≤ 4000 := gridOk_bnd hg
 have hgl : (g.Cells.xs.length : Int) = g.W * g.H := grid_len hg
 have hsmg : smGrid 1048576 g.dat := by show g.Cells.xs.length ≤ 1048576; omega
 refine enter 48 Tryz.func249 rfl Tryz.ntmps249 rfl rfl ?_
 have hs1 := St.init w
 refine WC.sr (WL.bx hs1 rfl (fun b2 _ hs3 => WL.al hs3 Tryz.zeroValue28 rfl rfl (fun b4 _ hs5 => WL.nil (WC.sr (WL.r 1 hs5 [1] rfl ?_)))))
 refine WL.cl Tryz.call206 rfl (k80_ g _ (okGridR.st0 f_g hs5) ?_) ?_
 · first | assumption | rfl | omega
 rintro _ whs6 ⟨r7, L1_8, rfl, hs6, ho9, hd10⟩
 replace hs6 := hs5.callF hs6
 refine ⟨_, rfl, ?_⟩
 replace hs6 := St.back [_, _] hs6
 skip
 refine WL.al hs6 Tryz.zeroValue28 rfl rfl (fun b11 _ hs12 => WL.st tbk hs12 0 rfl rfl (fun _ hs13 => WL.nil (WC.seq (fun K14 hK14 => WC.r1 hs13 [] rfl (WC.block ?_)))))
 have hM19 := (St.grp1 (L1 := L1_8) [_] ((((hs13.fb b2).fb b4).fr L1_8).fb b11))
 refine WC.lV [1, 2, 3, 4, 8, 9] rfl hM19 (fun k_ (a_ : Hp) f => ∃ (a : Nat) (r : GridR) (L17 : Hp), k_ = (bot - top + 1).toNat - a ∧ a_ = [(b11, .cells (List.toArray [i64 r.W, i64 r.H, .slice r.Cells.A r.Cells.n r.Cells.c]) 28 (0, 0))] ++ L17 ∧ (top + (a : Int) ≤ bot + 1) ∧ (r.W = g.W ∧ r.H = g.H ∧ r.Cells.xs.length = g.Cells.xs.length) ∧ (∀ k, k < g.Cells.xs.length → cat r.Cells.xs k = partF g.dat (rollF g.dat top bot n) (top.toNat * g.W.toNat) (a * g.W.toNat) k) ∧ ownGridR r L17 ∧ Sub [(10, .int .i64 (top + a))] f) (((fun (a : Nat) => (bot - top + 1).toNat - a) (0))) ?_ ?_
 ·refine ⟨0, r7, L1_8, rfl, rfl, ?_, ?_, ?_, ho9, ⟨?_, trivial⟩⟩
  · omega
  · exact ⟨congrArg GridD.W hd10, congrArg GridD.H hd10, congrArg (fun d : GridD => d.Cells.length) hd10⟩
  · intro k hk; rw [Nat.zero_mul, partF_zero]; exact congrArg (fun d : GridD => cat d.Cells k) hd10
  · (refine congrArg some (congrArg (Value.int _) ?_); omega)
 rintro _ _ f w ⟨a, r, L17, rfl, rfl, p0, p1, p2, ho18, hG⟩ hF hs20
 refine WC.sub _ (hG.app hF) ?_
 clear hG hF
 replace hs20 := St.ungrp1 [_] hs20
 have hs21 := (((hs20.fb b2).fb b4).fb b11)
 have hsmr : smGrid 549755813888 r.dat := by show r.Cells.xs.length ≤ 549755813888; omega
 refine WC.seq (fun K22 hK22 => WC.r1 hs21 [] rfl ?_)
 refine WC.cq rfl (fun h23 qh23 => ?_) (fun h23 qh23 => ?_)
 ·have hab : top + (a : Int) ≤ bot := by omega
  have hv0 : 0 ≤ (top + (a : Int)) * g.W := Int.mul_nonneg (by omega) (by omega)
  have hv1 : (top + (a : Int) + 1) * g.W = (top + (a : Int)) * g.W + g.W := by rw [Int.add_mul, Int.one_mul]
  have hv2 : (top + (a : Int) + 1) * g.W ≤ g.H * g.W := Int.mul_le_mul_of_nonneg_right (by omega) (by omega)
  rw [Int.mul_comm g.H g.W] at hv2
  have hrw : r.W = g.W := p1.1
  have hz0 : (top + (a : Int)) * r.W = (top + (a : Int)) * g.W := by rw [hrw]
  have hz1 : (top + (a : Int) + 1) * r.W = (top + (a : Int) + 1) * g.W := by rw [hrw]
  have hnr := ownGridR.len ‹ownGridR r _›
  have hcr := OwnF.cap ‹ownGridR r _›
  have hlr := f_g.Cells.len
  have hcg := f_g.Cells_c
  have hlo0 : ((top + (a : Int)) * r.W).toNat = (top.toNat + a) * g.W.toNat := by rw [hrw, Int.toNat_mul (by omega) (by omega)]; congr 1; omega
  have hmm1 : ((top + (a : Int) + 1) * r.W).toNat - ((top + (a : Int)) * r.W).toNat = g.W.toNat := by rw [hz0, hz1]; omega
  refine WC.skip (hK22 _ _ (WC.seq (fun K24 hK24 => WC.block (WC.r1 hs21 [] rfl (WC.sr (WL.r 1 hs21 [] rfl (WL.cl Tryz.call97 rfl (k0_ _ _ _ _) ?_)))))))
  rintro _ whs25 ⟨rfl, hs25⟩
  replace hs25 := hs21.call0 hs25
  refine ⟨_, rfl, WL.r 1 hs25 [] rfl ?_⟩
  apply WL.gA 4 Acts.nil hs25 rfl
  ·intro g26 J27
   have qg26 := g26
   try simp only [bf, within_iff, within_not] at qg26
   refine WL.runA tbk 3 (Acts.nil.cons (j := 2) rfl g26) hs25 [] rfl trivial (WL.call (wantT rfl g26) rfl rfl (Run.call Tryz.call97 rfl rfl rfl) (k0_ _ _ _ _) ?_)
   rintro _ whs28 ⟨rfl, hs28⟩
   replace hs28 := hs25.call0 hs28
   refine ⟨_, rfl, WL.eA 4 Acts.nil J27 hs28 g26 rfl rfl⟩
  intro _ hs29
  refine WL.nil (WC.cq rfl (fun h30 qh30 => ?_) (fun h30 qh30 => ?_))
  ·have hin : top ≤ top + (a : Int) + n ∧ top + (a : Int) + n ≤ bot := by have h9 := h30; simp only [Bool.and_eq_true, within_iff] at h9; omega
   have hu0 : 0 ≤ (top + (a : Int) + n) * g.W := Int.mul_nonneg (by omega) (by omega)
   have hu1 : (top + (a : Int) + n + 1) * g.W = (top + (a : Int) + n) * g.W + g.W := by rw [Int.add_mul, Int.one_mul]
   have hu2 : (top + (a : Int) + n + 1) * g.W ≤ g.H * g.W := Int.mul_le_mul_of_nonneg_right (by omega) (by omega)
   rw [Int.mul_comm g.H g.W] at hu2
   have hsrc : ((top + (a : Int) + n + 1) * g.W).toNat - ((top + (a : Int) + n) * g.W).toNat = g.W.toNat := by omega
   refine WC.rH (hs29.rm L17) hs29 (fun _ hs31 => ?_)
   refine WH.rn [0, 1, 3, 4] (hs31.rm L17) [0, 2] rfl rfl (WH.o1 2 rfl (WL.cl Tryz.call224 rfl (k83_ r _ _ (ownGridR.ok (B := 549755813888) ho18 (hs31.ow L17) hsmr) ?_ ?_ ?_ ?_) ?_))
   iterate 4 first | assumption | rfl | omega
   rintro _ whs32 ⟨rfl, hs32⟩
   replace hs32 := hs31.call0 hs32
   refine ⟨_, rfl, WL.nil ⟨(hs32.rm L17), WH.o1 5 rfl (WL.cl Tryz.call224 rfl (k83_ g _ _ (okGridR.st0 f_g hs32) ?_ ?_ ?_ ?_) ?_)⟩⟩
   iterate 4 first | assumption | rfl | omega
   rintro _ whs33 ⟨rfl, hs33⟩
   replace hs33 := hs32.call0 hs33
   refine ⟨_, rfl, WL.nil ⟨(hs33.rm L17), WH.o1 6 rfl ?_⟩⟩
   refine WL.copyF (lo := ((top + (a : Int)) * r.W).toNat) (hs33.fr L17) ho18 (SlF.cutC (lo := (((top + (a : Int)) + n) * g.W).toNat) (hi := ((((top + (a : Int)) + n) + 1) * g.W).toNat) (SlF.st0 f_g.Cells hs33) (by refine ⟨?_, ?_, ?_⟩ <;> (omega))) Tryz.underlying26 Tryz.underlying26 inf75 rfl rfl rfl rfl rfl rfl rfl (.inl rfl) ?_ ?_ (fun L34 _ hs35 ho36 => ?_)
   · omega
   · omega
   replace hs35 := St.back [_, _, _] hs35
   refine WL.nil ⟨(hs35.rm L34), WH.dn (hK24 _ _ (WC.region (WL.r 3 hs35 [] rfl (WL.nil (tkN ?_)))))⟩
   have hF37 := (St.grp1 (L1 := L34) [_] ((((hs35.fb b2).fb b4).fr L34).fb b11))
   refine ⟨sbF rfl, _, hF37, _, ?_, a + 1, ⟨r.W, r.H, SlD.of ho36⟩, L34, rfl, rfl, ?_, ?_, ?_, ho36, ⟨?_, trivial⟩⟩
   · omega
   · omega
   · exact ⟨p1.1, p1.2.1, by simp only [List.length_append, List.length_take, List.length_drop]; omega⟩
   · intro k hk; show cat _ k = partF g.dat (rollF g.dat top bot n) (top.toNat * g.dat.W.toNat) ((a + 1) * g.dat.W.toNat) k; first | exact roll_row ht.1 hlo0 (by show _ = g.W.toNat; (try simp only [List.length_replicate]); omega) (by first | (simp only [List.length_take, List.length_drop]; omega) | (simp only [List.length_replicate]; omega)) (by (try simp only [List.length_replicate]); omega) (by omega) hab (fun j hj => by have _ := hin; rw [if_pos hin]; exact roll_src (by omega) (by show 0 ≤ g.W; omega) rfl hsrc hj) (p2 k hk) | exact roll_row ht.1 hlo0 (by show _ = g.W.toNat; (try simp only [List.length_replicate]); omega) (by first | (simp only [List.length_take, List.length_drop]; omega) | (simp only [List.length_replicate]; omega)) (by (try simp only [List.length_replicate]); omega) (by omega) hab (fun j hj => by rw [if_neg hout]; exact cat_rep hj) (p2 k hk)
   · (refine congrArg some (congrArg (Value.int _) ?_); omega)
  have hout : ¬ (top ≤ top + (a : Int) + n ∧ top + (a : Int) + n ≤ bot) := by intro h8; have h9 := h30; simp [within] at h9; omega
  refine WC.rH (hs29.rm L17) hs29 (fun _ hs38 => ?_)
  refine WH.rn [0, 1, 5, 6] (hs38.rm L17) [0, 2] rfl rfl (WH.o1 2 rfl (WL.cl Tryz.call224 rfl (k83_ r _ _ (ownGridR.ok (B := 549755813888) ho18 (hs38.ow L17) hsmr) ?_ ?_ ?_ ?_) ?_))
  iterate 4 first | assumption | rfl | omega
  rintro _ whs39 ⟨rfl, hs39⟩
  replace hs39 := hs38.call0 hs39
  refine ⟨_, rfl, WL.nil ⟨(hs39.rm L17), WH.o1 3 rfl (WL.cl Tryz.call253 rfl (k56_ _) ?_)⟩⟩
  rintro _ whs40 ⟨rfl, hs40⟩
  replace hs40 := hs39.call0 hs40
  refine ⟨_, rfl, WL.nil ⟨(hs40.rm L17), WH.o1 4 rfl (WL.buildF (F := encCell) hs40 ([blankC]) Tryz.runUnderlying26 Tryz.sizeOf75 Tryz.zeroValue75 rfl rfl rfl rfl rfl rfl rfl rfl rfl rfl rfl rfl (fun A44 c45 L41 whs42 hs42 ho43 => ?_))⟩⟩
  replace hs42 := St.back [_, _, _] hs42
  refine WL.nil ⟨((hs42.rm L41).rm L17), WH.o1 7 rfl (WL.cl Tryz.call252 rfl (k60_ _ _ _ _ _ _ (SlF.ofOwn ho43 (hs42.ow L41)) ?_ ?_) ?_)⟩
  iterate 2 first | assumption | rfl | omega
  rintro _ whs46 ⟨A47, c48, L1_49, rfl, hs46, ho50⟩
  replace hs46 := hs42.callF hs46
  refine ⟨_, rfl, ?_⟩
  replace hs46 := St.back [_, _, _] hs46
  refine WL.nil ⟨(((hs46.rm L1_49).rm L41).rm L17), WH.o1 8 rfl (WL.copyF (lo := ((top + (a : Int)) * r.W).toNat) (hs46.fr L17) ho18 (SlF.ofOwn ho50 (hs46.ow L1_49)) Tryz.underlying26 Tryz.underlying26 inf75 rfl rfl rfl rfl rfl rfl rfl (.inl rfl) ?_ ?_ (fun L51 _ hs52 ho53 => ?_))⟩
  · omega
  · omega
  replace hs52 := St.back [_, _, _] hs52
  refine WL.nil ⟨(((hs52.rm L51).rm L1_49).rm L41), WH.dn (hK24 _ _ (WC.region (WL.r 3 hs52 [] rfl (WL.nil (tkN ?_)))))⟩
  replace hs52 := ((hs52.rm L1_49).rm L41)
  have hF54 := (St.grp1 (L1 := L51) [_] ((((hs52.fb b2).fb b4).fr L51).fb b11))
  refine ⟨sbF rfl, _, hF54, _, ?_, a + 1, ⟨r.W, r.H, SlD.of ho53⟩, L51, rfl, rfl, ?_, ?_, ?_, ho53, ⟨?_, trivial⟩⟩
  · omega
  · omega
  · exact ⟨p1.1, p1.2.1, by simp only [List.length_append, List.length_take, List.length_drop]; omega⟩
  · intro k hk; show cat _ k = partF g.dat (rollF g.dat top bot n) (top.toNat * g.dat.W.toNat) ((a + 1) * g.dat.W.toNat) k; first | exact roll_row ht.1 hlo0 (by show _ = g.W.toNat; (try simp only [List.length_replicate]); omega) (by first | (simp only [List.length_take, List.length_drop]; omega) | (simp only [List.length_replicate]; omega)) (by (try simp only [List.length_replicate]); omega) (by omega) hab (fun j hj => by have _ := hin; rw [if_pos hin]; exact roll_src (by omega) (by show 0 ≤ g.W; omega) rfl hsrc hj) (p2 k hk) | exact roll_row ht.1 hlo0 (by show _ = g.W.toNat; (try simp only [List.length_replicate]); omega) (by first | (simp only [List.length_take, List.length_drop]; omega) | (simp only [List.length_replicate]; omega)) (by (try simp only [List.length_replicate]); omega) (by omega) hab (fun j hj => by rw [if_neg hout]; exact cat_rep hj) (p2 k hk)
  · (refine congrArg some (congrArg (Value.int _) ?_); omega)
 refine WC.exit (hK14 _ _ (WC.sr (WL.r 1 hs21 [0] rfl (WL.st tbk hs21 1 rfl rfl (fun _ hs55 => WL.nil (WC.ret (retV1 rfl (resV.cellA tbk hs55 1 rfl rfl rfl rfl) ?_)))))))
 refine ⟨r, _, rfl, (St.keep1 (hs55.fr L17)), ?_, ?_⟩
 · exact ho18
 · exact roll_done hg ht.1 ht.2.1 ht.2.2 (m := n) (by omega) p1.1 p1.2.1 p1.2.2 (.inl rfl) p2
theorem k87_ (v_s : Value) (s : List RowR) (L_s : Hp) (i : Int) (j : Int) (w : World) (o_s : OwnN encRowR ownRowR 98 v_s s L_s) (h_s : Hh w L_s) (hd_ : ((L_s).map (·.1)).Nodup) (hi : i = 0) (hj : 0 < j ∧ j ≤ s.length) (hn : s.length ≤ 549755813888) :
    Calls Tryz.prog 260 #[v_s, i64 i, i64 j] w fun e w' => ∃ A c n xs L1, e = .returned (.slice A n c) ∧ St w (L_s.map (·.1)) L1 w' ∧ OwnN encRowR ownRowR 98 (.slice A n c) xs L1 ∧ xs = s.drop j.toNat := by
 obtain ⟨A_s, c_s, rfl⟩ := o_s.shape
 refine enter 33 Tryz.func260 rfl Tryz.ntmps260 rfl rfl ?_
 have hs1 := St.takes1 w L_s h_s hd_
 refine WC.r1 hs1 [] rfl (WC.sr (WL.r 5 hs1 [] rfl ?_))
 have hc_ := OwnN.cap o_s
 refine WL.val rfl rfl rfl (Run.slice3 0 j.toNat s.length Tryz.runUnderlying31 Tryz.sizeOf98 rfl rfl rfl rfl rfl ?_ ?_ ?_ ?_) ?_
 · omega
 · omega
 · rfl
 · omega
 refine WL.nil (WC.seq (fun K2 hK2 => WC.r1 hs1 [] rfl ?_))
 refine WC.cq rfl (fun h3 qh3 => ?_) (fun h3 qh3 => ?_)
 ·exfalso; omega
 refine WC.skip (hK2 _ _ (WC.sr ?_))
 obtain ⟨L4, L5, hs8, ho6, ho7⟩ := OwnN.open_ hs1 o_s
 refine WL.r 3 hs8 [] rfl (WL.nil (WC.seq (fun K9 hK9 => WC.rH (hs8.rm L4) hs8 (fun _ hs10 => ?_))))
 refine WH.rn [0, 1] (hs10.rm L4) [] rfl rfl ?_
 refine WH.take 2 rfl (by kernel_rfl) rfl rfl rfl (hs10.rm L4) (fun w_ hs_ => (Run.sliceH0 0 Tryz.runUnderlying31 Tryz.sizeOf98 rfl rfl rfl ?_ ?_)) ?_
 · exact hi
 · exact Nat.zero_le _
 refine WH.rn [3, 4] (hs10.rm L4) [] rfl rfl ?_
 have hc_ := OwnF.cap ho6
 refine WH.take 5 rfl (by kernel_rfl) rfl rfl rfl (hs10.rm L4) (fun w_ hs_ => (Run.sliceL (j.toNat) Tryz.runUnderlying31 Tryz.sizeOf98 rfl rfl rfl ?_ ?_)) ?_
 · first | rfl | (omega)
 · refine ⟨?_, ?_, ?_⟩ <;> (omega)
 refine WH.o1 6 rfl ?_
 refine WL.appendR hs10 (OwnF.take (k := 0) ho6 (Nat.zero_le _)) (SlF.src (SlF.cutL (j.toNat) (SlF.ofOwn ho6 (hs10.ow L4)) (by refine ⟨?_, ?_, ?_⟩ <;> (omega))) Tryz.underlying31) Tryz.underlying31 inf98 rfl rfl rfl rfl rfl rfl rfl ?_ ?_ (fun L11 whs12 hs12 ho13 => ?_)
 · rw [List.length_drop]; omega
 · omega
 have hdl : 0 + (s.drop j.toNat).length = s.length - j.toNat := by rw [List.length_drop]; omega
 rw [hdl, List.take_zero, List.nil_append] at ho13
 rw [hdl]
 refine WL.nil ⟨(hs12.rm L11), WH.rn [7] (hs12.rm L11) [] rfl rfl (WH.dn (hK9 _ _ (WC.sr (WL.r 4 hs12 [] rfl ?_))))⟩
 refine WL.val rfl rfl rfl (Run.sliceT (s.length - j.toNat) s.length Tryz.runUnderlying31 Tryz.sizeOf98 rfl rfl rfl rfl ?_ ?_ ?_) ?_
 · omega
 · omega
 · omega
 refine WL.clearT hs12 ho13 Tryz.underlying31 Tryz.zeroValue98 rfl rfl rfl rfl rfl ?_ (fun L14 whs15 hs15 ho16 => ?_)
 · omega
 refine WL.nil (WC.r1 hs15 [] rfl (WC.ret (retV1 rfl (resV.tmp rfl) ?_)))
 obtain ⟨L17, hs18, ho19⟩ := OwnN.foldD ((hs15.fr L5).fr L14) ho16 ho7
 exact ⟨_, _, _, _, _, rfl, St.keep1 hs18, ho19, rfl⟩
theorem pair_ext : ∀ {l m : List Int}, l.Pairwise (· < ·) → m.Pairwise (· < ·) → (∀ x, x ∈ l ↔ x ∈ m) → l = m
 | [], [], _, _, _ => rfl
 | [], y :: m, _, _, h => by have := (h y).2 List.mem_cons_self; cases this
 | x :: l, [], _, _, h => by have := (h x).1 List.mem_cons_self; cases this
 | x :: l, y :: m, hl, hm, h => by
  rw [List.pairwise_cons] at hl hm
  have e : x = y := by
   rcases List.mem_cons.1 ((h x).1 List.mem_cons_self) with e | h1
   ·exact e
   ·rcases List.mem_cons.1 ((h y).2 List.mem_cons_self) with e | h2
    ·exact e.symm
    ·have := hl.1 y h2
     have := hm.1 x h1
     omega
  subst e
  rw [pair_ext hl.2 hm.2 fun z => ?_]
  constructor
  ·intro hz
   rcases List.mem_cons.1 ((h z).1 (List.mem_cons_of_mem _ hz)) with e | h1
   ·have := hl.1 z hz; omega
   ·exact h1
  ·intro hz
   rcases List.mem_cons.1 ((h z).2 (List.mem_cons_of_mem _ hz)) with e | h1
   ·have := hm.1 z hz; omega
   ·exact h1
def lowb (l : List Int) (t : Int) : Nat := (l.filter fun x => decide (x < t)).length
theorem lowb_of {l : List Int} {t : Int} {k : Nat} (hk : k ≤ l.length) (h1 : ∀ m, m < k → iat l m < t) (h2 : ∀ m, k ≤ m → m < l.length → t ≤ iat l m) : lowb l t = k := by
 unfold lowb
 rw [← List.take_append_drop k l, List.filter_append]
 have a : (l.take k).filter (fun x => decide (x < t)) = l.take k := by
  rw [List.filter_eq_self]
  intro x hx
  obtain ⟨i, hi, rfl⟩ := List.mem_iff_getElem.1 hx
  rw [List.length_take] at hi
  have := h1 i (by omega)
  rw [show iat l i = l[i]'(by omega) from gat_lt (by omega)] at this
  rw [List.getElem_take, decide_eq_true_eq]; exact this
 have b : (l.drop k).filter (fun x => decide (x < t)) = [] := by
  rw [List.filter_eq_nil_iff]
  intro x hx
  obtain ⟨i, hi, rfl⟩ := List.mem_iff_getElem.1 hx
  rw [List.length_drop] at hi
  have := h2 (k + i) (by omega) (by omega)
  rw [show iat l (k + i) = l[k + i]'(by omega) from gat_lt (by omega)] at this
  rw [List.getElem_drop, decide_eq_true_eq]; omega
 rw [a, b, List.append_nil, List.length_take]; omega
theorem lowb_le {l : List Int} {t : Int} : lowb l t ≤ l.length := List.length_filter_le _ _
theorem asc_split {l : List Int} {lo hi t : Int} (h : isAsc l lo hi = true) : (∀ m, m < lowb l t → iat l m < t) ∧ ∀ m, lowb l t ≤ m → m < l.length → t ≤ iat l m := by
 have key : ∃ k, k ≤ l.length ∧ (∀ m, m < k → iat l m < t) ∧ ∀ m, k ≤ m → m < l.length → t ≤ iat l m := by
  have : ∀ n, n ≤ l.length → ∃ k, k ≤ n ∧ (∀ m, m < k → iat l m < t) ∧ ∀ m, k ≤ m → m < n → t ≤ iat l m := by
   intro n
   induction n with
   | zero => intro _; exact ⟨0, by omega, fun m hm => by omega, fun m _ hm => by omega⟩
   | succ n ih =>
    intro hn
    obtain ⟨k, h1, h2, h3⟩ := ih (by omega)
    by_cases hx : iat l n < t
    ·refine ⟨n + 1, by omega, fun m hm => ?_, fun m h4 h5 => by omega⟩
     rcases Nat.lt_or_ge m n with h6 | h6
     ·have := asc_lt h h6 (by omega); omega
     ·obtain rfl : m = n := by omega
      exact hx
    ·refine ⟨k, by omega, h2, fun m h4 h5 => ?_⟩
     rcases Nat.lt_or_ge m n with h6 | h6
     ·exact h3 m h4 h6
     ·obtain rfl : m = n := by omega
      omega
  exact this _ (Nat.le_refl _)
 obtain ⟨k, h1, h2, h3⟩ := key
 rw [lowb_of h1 h2 h3]
 exact ⟨h2, h3⟩
def insL (l : List Int) (k : Nat) (x : Int) : List Int := l.take k ++ [x] ++ l.drop k
theorem mem_insL {l : List Int} {k : Nat} {x y : Int} : y ∈ insL l k x ↔ y = x ∨ y ∈ l := by
 unfold insL
 rw [List.append_assoc, List.mem_append, List.mem_append, List.mem_singleton]
 constructor
 ·rintro (h | h | h)
  ·exact .inr (List.mem_of_mem_take h)
  ·exact .inl h
  ·exact .inr (List.mem_of_mem_drop h)
 ·rintro (h | h)
  ·exact .inr (.inl h)
  ·rw [← List.take_append_drop k l] at h
   rcases List.mem_append.1 h with h | h
   ·exact .inl h
   ·exact .inr (.inr h)
theorem pair_insL {l : List Int} {x : Int} {lo hi : Int} (h : isAsc l lo hi = true) (hx : x ∉ l) : (insL l (lowb l x) x).Pairwise (· < ·) := by
 have hp := (asc_pair.1 h).1
 obtain ⟨h1, h2⟩ := asc_split (t := x) h
 have hT : ∀ a, a ∈ l.take (lowb l x) → a < x := by
  intro a ha
  obtain ⟨i, hi', rfl⟩ := List.mem_iff_getElem.1 ha
  rw [List.length_take] at hi'
  have := h1 i (by omega)
  rw [show iat l i = l[i]'(by omega) from gat_lt (by omega)] at this
  rw [List.getElem_take]; exact this
 have hD : ∀ a, a ∈ l.drop (lowb l x) → x < a := by
  intro a ha
  have hm := List.mem_of_mem_drop ha
  obtain ⟨i, hi', rfl⟩ := List.mem_iff_getElem.1 ha
  rw [List.length_drop] at hi'
  have := h2 (lowb l x + i) (by omega) (by omega)
  rw [show iat l (lowb l x + i) = l[lowb l x + i]'(by omega) from gat_lt (by omega)] at this
  rw [List.getElem_drop] at hm ⊢
  have : l[lowb l x + i]'(by omega) ≠ x := fun e => hx (e ▸ hm)
  omega
 unfold insL
 rw [List.append_assoc, List.pairwise_append]
 refine ⟨hp.sublist (List.take_sublist _ _), ?_, ?_⟩
 ·rw [List.singleton_append, List.pairwise_cons]
  exact ⟨hD, hp.sublist (List.drop_sublist _ _)⟩
 ·intro a ha b hb
  have h3 := hT a ha
  rcases List.mem_append.1 hb with hb | hb
  ·rw [List.mem_singleton] at hb; omega
  ·have := hD b hb; omega
theorem mem_tabL {s : ScrD} (h : ScrFine s) {y : Int} : y ∈ tabL s ↔ y = s.X ∨ y ∈ s.Tabs := by
 have hp := h.pos
 unfold tabL
 rw [List.mem_filter, List.mem_map]
 simp only [Bool.or_eq_true, decide_eq_true_eq, List.contains_iff_mem]
 constructor
 ·exact fun h1 => h1.2
 ·intro h1
  refine ⟨?_, h1⟩
  have : 0 ≤ y ∧ y < s.W := by
   rcases h1 with h1 | h1
   ·omega
   ·have := (asc_pair.1 h.tab).2 y h1; omega
  exact ⟨y.toNat, List.mem_range.2 (by omega), by omega⟩
theorem pair_tabL {s : ScrD} : (tabL s).Pairwise (· < ·) := by
 unfold tabL
 refine List.Pairwise.sublist List.filter_sublist ?_
 rw [List.pairwise_map]
 exact List.Pairwise.imp (fun h => by omega) List.pairwise_lt_range
theorem tabL_ins {s : ScrD} (h : ScrFine s) (hx : s.X ∉ s.Tabs) : insL s.Tabs (lowb s.Tabs s.X) s.X = tabL s :=
 pair_ext (pair_insL h.tab hx) pair_tabL fun y => by rw [mem_insL, mem_tabL h]
theorem tabL_has {s : ScrD} (h : ScrFine s) (hx : s.X ∈ s.Tabs) : s.Tabs = tabL s :=
 pair_ext (asc_pair.1 h.tab).1 pair_tabL fun y => by
  rw [mem_tabL h]
  constructor
  ·exact .inr
  ·rintro (rfl | h1)
   ·exact hx
   ·exact h1
theorem ScrFine.tabD {s : ScrD} (h : ScrFine s) : ScrFine (tabD s) := by
 have hp := h.pos
 refine h.tabs (asc_pair.2 ⟨pair_tabL, fun y hy => ?_⟩)
 rcases (mem_tabL h).1 hy with h1 | h1
 ·omega
 ·exact (asc_pair.1 h.tab).2 y h1
theorem tabsL_asc {w : Int} (h : 1 ≤ w) : isAsc (tabsL w) 0 (w - 1) = true := by
 rw [asc_pair]
 constructor
 ·unfold tabsL
  rw [List.pairwise_map]
  exact List.Pairwise.imp (fun h => by omega) List.pairwise_lt_range
 ·intro x hx
  obtain ⟨i, hi, rfl⟩ := List.mem_map.1 hx
  have := List.mem_range.1 hi
  omega
theorem ScrFine.fresh {w h l : Int} (hs : isSize w h = true) (hl : 0 ≤ l ∧ l ≤ 100) : ScrFine (scrNew w h l) := by
 obtain ⟨h1, h2, _⟩ := isSize_bnd hs
 refine ⟨gridOk_new hs, gridOk_new hs, ⟨rfl, rfl, rfl, rfl⟩, ?_, ?_, fun h9 => Bool.noConfusion h9, (show attrOk 0 0 = true by decide), (show attrOk 0 0 = true by decide), ?_, ⟨hl, ?_⟩, tabsL_asc h1.1, rfl⟩
 ·show (0 ≤ (0 : Int) ∧ (0 : Int) < w) ∧ 0 ≤ (0 : Int) ∧ (0 : Int) < h; omega
 ·show (0 ≤ (0 : Int) ∧ (0 : Int) < w) ∧ 0 ≤ (0 : Int) ∧ (0 : Int) < h; omega
 ·show (0 ≤ (0 : Int) ∧ (0 : Int) ≤ h - 1) ∧ h - 1 < h ∧ ((0 : Int) = h - 1 → h = 1); omega
 ·exact hl.1
theorem ScrFine.reset {s : ScrD} (h : ScrFine s) : ScrFine (resetD s) := by
 have f := ScrFine.fresh h.size h.lim.1
 exact ⟨f.gM, f.gA, f.dim, f.pos, f.sav, f.wrp, f.aA, f.aS, f.reg, h.lim, f.tab, h.row⟩
def escD (s : ScrD) (b : Int) : ScrD :=
 if b = 68 then downD s else if b = 77 then upD s else if b = 69 then { downD s with X := 0 } else if b = 55 then saveD s else if b = 56 then backD s else if b = 72 then tabD s else if b = 99 then resetD s else s
theorem ScrFine.x0 {s : ScrD} (h : ScrFine s) (hw : s.Wrap = false) : ScrFine { s with X := 0 } := by
 have hp := h.pos
 exact ⟨h.gM, h.gA, h.dim, ⟨by constructor <;> (simp only; omega), hp.2⟩, h.sav, fun h9 => (by rw [show s.Wrap = true from h9] at hw; cases hw), h.aA, h.aS, h.reg, h.lim, h.tab, h.row⟩
theorem ScrFine.esc {s : ScrD} {b : Int} (h : ScrFine s) : ScrFine (escD s b) := by
 unfold escD
 repeat' (with_reducible refine fine_ite ?_ ?_)
 all_goals first | exact h.down | exact h.up | exact h.down.x0 rfl | exact h.save | exact h.back | exact h.tabD | exact h.reset | exact h
def scrEscRes (s : ScrD) (b : Int) : ScrD := if scrOk s = true then escD s b else scr0
def runeD (s : ScrD) (r : Int) : ScrD :=
 let s1 := if s.Wrap = true then { downD s with X := 0 } else s
 let s2 := putD s1 (gFill (shownD s1) s1.X s1.Y 1 1 ⟨r, s1.A⟩)
 if s1.X = s1.W - 1 then wrapD s2 (!s1.NoWrap) else { s2 with X := s1.X + 1 }
def nextTab (s : ScrD) : Int := if 0 ≤ findI (fun n => decide (s.X < n)) s.Tabs then iat s.Tabs (findI (fun n => decide (s.X < n)) s.Tabs).toNat else s.W - 1
def ctlD (s : ScrD) (b : Int) : ScrD :=
 if b = 8 then moveD s (s.X - 1) s.Y else if b = 9 then moveD s (nextTab s) s.Y else if b = 10 ∨ b = 11 ∨ b = 12 then downD s else if b = 13 then moveD s 0 s.Y else s
def scrRuneRes (s : ScrD) (r : Int) : ScrD := if scrOk s = true then (if shows r = true then runeD s r else s) else scr0
def scrCtlRes (s : ScrD) (b : Int) : ScrD := if scrOk s = true then ctlD s b else scr0
def scrGoRes (s : ScrD) (x y : Int) : ScrD := if scrOk s = true then moveD s x y else scr0
def scrCopyRes (s : ScrD) : ScrD := if scrOk s = true then s else scr0
theorem putD_eqs {s : ScrD} {g : GridD} : (putD s g).X = s.X ∧ (putD s g).W = s.W ∧ (putD s g).NoWrap = s.NoWrap ∧ (putD s g).Y = s.Y ∧ (putD s g).OnAlt = s.OnAlt ∧ (putD s g).Wrap = s.Wrap := by
 unfold putD; split <;> exact ⟨rfl, rfl, rfl, rfl, rfl, rfl⟩
theorem ScrFine.rune {s : ScrD} {r : Int} (h : ScrFine s) (hr : shows r = true) : ScrFine (runeD s r) := by
 have h1 : ScrFine (if s.Wrap = true then { downD s with X := 0 } else s) := by
  split
  ·exact h.down.x0 rfl
  ·exact h
 unfold runeD
 generalize (if s.Wrap = true then { downD s with X := 0 } else s) = s1 at h1
 have hp := h1.pos
 have hs := h1.shown
 have h2 : ScrFine (putD s1 (gFill (shownD s1) s1.X s1.Y 1 1 ⟨r, s1.A⟩)) := h1.put (gFill_ok hs.1 (by unfold cellOk; rw [hr, h1.aA]; rfl)) hs.2
 obtain ⟨e1, e2, _, _, _, _⟩ := putD_eqs (s := s1) (g := gFill (shownD s1) s1.X s1.Y 1 1 ⟨r, s1.A⟩)
 show ScrFine (if s1.X = s1.W - 1 then _ else _)
 split
 ·rename_i hx
  exact ⟨h2.gM, h2.gA, h2.dim, h2.pos, h2.sav, fun _ => by show (putD _ _).X = (putD _ _).W - 1; rw [e1, e2]; exact hx, h2.aA, h2.aS, h2.reg, h2.lim, h2.tab, h2.row⟩
 ·rename_i hx
  refine ⟨h2.gM, h2.gA, h2.dim, ⟨?_, h2.pos.2⟩, h2.sav, ?_, h2.aA, h2.aS, h2.reg, h2.lim, h2.tab, h2.row⟩
  ·show 0 ≤ s1.X + 1 ∧ s1.X + 1 < (putD _ _).W
   rw [e2]; omega
  ·intro hw
   have h3 := h2.wrp hw
   rw [e1, e2] at h3
   exact absurd h3 hx
theorem ScrFine.ctl {s : ScrD} {b : Int} (h : ScrFine s) : ScrFine (ctlD s b) := by
 unfold ctlD
 repeat' (with_reducible refine fine_ite ?_ ?_)
 all_goals first | exact h.move | exact h.down | exact h
theorem put_wrap {s : ScrD} {g : GridD} {b : Bool} : putD (wrapD s b) g = wrapD (putD s g) b := by
 unfold putD wrapD; split <;> rfl
theorem shown_wrap {s : ScrD} {b : Bool} : shownD (wrapD s b) = shownD s := rfl
theorem keep_wrap {s : ScrD} {n : Int} {b : Bool} : keepD (wrapD s b) n = wrapD (keepD s n) b := by
 by_cases h : s.OnAlt = false ∧ s.Top = 0
 ·unfold keepD; rw [if_pos h, if_pos (show (wrapD s b).OnAlt = false ∧ (wrapD s b).Top = 0 from h)]; rfl
 ·unfold keepD; rw [if_neg h, if_neg (show ¬ ((wrapD s b).OnAlt = false ∧ (wrapD s b).Top = 0) from h)]
theorem rollUp_wrap {s : ScrD} {n : Int} {b : Bool} : rollUpD (wrapD s b) n = wrapD (rollUpD s n) b := by
 unfold rollUpD rollD
 rw [keep_wrap, put_wrap, shown_wrap]; rfl
def scrDownRes (s : ScrD) : ScrD := if scrOk s = true then downD s else scr0
def scrUpRes (s : ScrD) : ScrD := if scrOk s = true then upD s else scr0
theorem part_next {g : GridD} {f : Nat → CellD} {lo a j k : Nat} {xs : List CellD} {v : CellD} (hj : j = lo + a) (hl : j < xs.length) (hv : v = f (lo + a)) (hq : cat xs k = partF g f lo a k) : cat (xs.set j v) k = partF g f lo (a + 1) k := by
 subst hj
 rw [partF_one]
 show gat encCell (xs.set (lo + a) v) k = _
 rw [gat_set2 hl]
 split
 ·rename_i hk; subst hk; exact hv
 ·exact hq
theorem part_skip {g : GridD} {f : Nat → CellD} {a k : Nat} {xs : List CellD} (hf : f a = cat g.Cells a) (hq : cat xs k = partF g f 0 a k) : cat xs k = partF g f 0 (a + 1) k := by
 rw [partF_one, hq]
 split
 ·rename_i hk
  rw [Nat.zero_add] at hk
  subst hk
  unfold partF
  rw [if_neg (by omega)]; exact hf.symm
 ·rfl
theorem part_done {g : GridD} {f : Nat → CellD} {lo a : Nat} {w h : Int} {xs : List CellD} (hw : w = g.W) (hh : h = g.H) (hl : xs.length = g.Cells.length) (ho : ∀ k, k < g.Cells.length → ¬ (lo ≤ k ∧ k < lo + a) → f k = cat g.Cells k)
  (hp : ∀ k, k < g.Cells.length → cat xs k = partF g f lo a k) : (⟨w, h, xs⟩ : GridD) = gmap g f := by
 subst hw hh
 unfold gmap
 congr 1
 refine ext_gat (F := encCell) hl fun k hk => ?_
 have h1 := hp k hk
 unfold partF at h1
 by_cases h2 : lo ≤ k ∧ k < lo + a
 ·rw [if_pos h2] at h1; exact h1
 ·rw [if_neg h2] at h1; rw [ho k hk h2]; exact h1
theorem dm_eq {w k : Nat} : k = k / w * w + k % w := by
 have := Nat.div_add_mod k w
 rw [Nat.mul_comm] at this
 exact this.symm
theorem shiftF_at {g : GridD} {x y n : Int} {a : Nat} (h0 : 0 ≤ x) (h1 : 0 ≤ y) (h2 : x + a < g.W) : shiftF g x y n (y.toNat * g.W.toNat + x.toNat + a) = if x ≤ x + a - n ∧ x + a - n < g.W then cat g.Cells (y.toNat * g.W.toNat + (x + a - n).toNat) else blankC := by
 obtain ⟨e1, e2⟩ := at_div (w := g.W.toNat) (y := y.toNat) (x := x.toNat + a) (by omega)
 unfold shiftF
 rw [Nat.add_assoc, e1, e2, if_pos ⟨by omega, by omega⟩, show ((x.toNat + a : Nat) : Int) = x + a by omega]
theorem shiftF_out {g : GridD} {x y n : Int} {k : Nat} (hw : 0 < g.W.toNat) (h0 : 0 ≤ x) (h1 : 0 ≤ y) (hx : x < g.W) (h : ¬ (y.toNat * g.W.toNat + x.toNat ≤ k ∧ k < y.toNat * g.W.toNat + x.toNat + (g.W - x).toNat)) : shiftF g x y n k = cat g.Cells k := by
 unfold shiftF
 rw [if_neg]
 rintro ⟨h2, h3⟩
 apply h
 have h4 := dm_eq (w := g.W.toNat) (k := k)
 have h5 := Nat.mod_lt k hw
 have h6 : k / g.W.toNat = y.toNat := by omega
 rw [h6] at h4
 omega
theorem shift_big {g : GridD} {x y n m : Int} (h0 : 0 ≤ x) (hn : n = m ∨ (g.W ≤ n ∧ g.W ≤ m ∨ n ≤ -g.W ∧ m ≤ -g.W)) : gShift g x y n = gShift g x y m := by
 rcases hn with rfl | hn
 ·rfl
 ·unfold gShift
  congr 1
  funext k
  unfold shiftF
  split
  ·rename_i h
   have h5 : ((k % g.W.toNat : Nat) : Int) < g.W ∨ g.W ≤ 0 := by
    rcases Nat.eq_zero_or_pos g.W.toNat with h6 | h6
    ·omega
    ·have := Nat.mod_lt k h6; omega
   rw [if_neg (by omega), if_neg (by omega)]
  ·rfl
theorem shift_done {g : GridD} {x y n m w h : Int} {a : Nat} {xs : List CellD} (h0 : 0 ≤ x ∧ x < g.W) (h1 : 0 ≤ y) (ha : (a : Int) = g.W - x) (hw : w = g.W) (hh : h = g.H) (hl : xs.length = g.Cells.length) (hm : n = m ∨ (g.W ≤ n ∧ g.W ≤ m ∨ n ≤ -g.W ∧ m ≤ -g.W))
  (hp : ∀ k, k < g.Cells.length → cat xs k = partF g (shiftF g x y m) (y.toNat * g.W.toNat + x.toNat) a k) : (⟨w, h, xs⟩ : GridD) = gShift g x y n := by
 rw [shift_big h0.1 hm]
 exact part_done hw hh hl (fun k _ hk => shiftF_out (by omega) h0.1 h1 h0.2 (by rw [show (g.W - x).toNat = a by omega]; exact hk)) hp
theorem fill_clear {g : GridD} {x y n : Int} (h0 : 0 ≤ x ∧ x < g.W) (h1 : 0 ≤ y) : gFill g x y n 1 blankC = gmap g (clearF g (y * g.W + x) (min (y * g.W + x + n) ((y + 1) * g.W))) := by
 unfold gFill
 congr 1
 funext k
 unfold fillFn clearF
 have hw : 0 < g.W.toNat := by omega
 have h4 := dm_eq (w := g.W.toNat) (k := k)
 have h5 := Nat.mod_lt k hw
 generalize hq : k / g.W.toNat = q at h4 ⊢
 generalize hr : k % g.W.toNat = r at h4 h5 ⊢
 have e1 : (k : Int) = q * g.W + r := by
  rw [h4, Int.natCast_add, Int.natCast_mul, Int.toNat_of_nonneg (by omega)]
 have e2 : (y + 1) * g.W = y * g.W + g.W := by rw [Int.add_mul, Int.one_mul]
 have hiff : ((x ≤ (r : Int) ∧ (r : Int) < x + n) ∧ y ≤ (q : Int) ∧ (q : Int) < y + 1) ↔ y * g.W + x ≤ (k : Int) ∧ (k : Int) < min (y * g.W + x + n) ((y + 1) * g.W) := by
  constructor
  ·rintro ⟨h6, h7⟩
   have h8 : (q : Int) = y := by omega
   rw [e1, h8, e2]
   omega
  ·rintro ⟨h6, h7⟩
   have h8 : (q : Int) = y := by
    rcases Int.lt_or_le (q : Int) y with h9 | h9
    ·have := Int.mul_le_mul_of_nonneg_right (show (q : Int) + 1 ≤ y by omega) (show 0 ≤ g.W by omega)
     rw [Int.add_mul, Int.one_mul] at this
     omega
    ·rcases Int.lt_or_le y (q : Int) with h10 | h10
     ·have := Int.mul_le_mul_of_nonneg_right (show y + 1 ≤ (q : Int) by omega) (show 0 ≤ g.W by omega)
      rw [e2] at this
      omega
     ·omega
   rw [e1, h8, e2] at h7
   rw [e1, h8] at h6
   omega
 by_cases h : y * g.W + x ≤ (k : Int) ∧ (k : Int) < min (y * g.W + x + n) ((y + 1) * g.W)
 ·rw [if_pos h, if_pos (hiff.2 h)]
 ·rw [if_neg h, if_neg (fun h9 => h (hiff.1 h9))]
theorem clearF_out {g : GridD} {a b : Int} {k : Nat} (h : ¬ (a ≤ (k : Int) ∧ (k : Int) < b)) : clearF g a b k = cat g.Cells k := by unfold clearF; rw [if_neg h]
theorem clearF_in {g : GridD} {a b : Int} {k : Nat} (h : a ≤ (k : Int) ∧ (k : Int) < b) : clearF g a b k = blankC := by unfold clearF; rw [if_pos h]
theorem countP_lowb {l : List Int} {t : Int} : l.countP (fun x => decide (x < t)) = lowb l t := List.countP_eq_length_filter
theorem asc_le {l : List Int} {lo hi : Int} (h : isAsc l lo hi = true) : l.Pairwise (· ≤ ·) := (asc_pair.1 h).1.imp (fun h => Int.le_of_lt h)
theorem int_not {l : List Int} {x : Int} (h : ∀ j, j < l.length → iat l j ≠ x) : ¬ x ∈ l := by
 intro hx
 obtain ⟨j, hj, rfl⟩ := List.mem_iff_getElem.1 hx
 exact h j hj (gat_lt (F := encI) hj)
def tabTo (s : ScrD) (i : Nat) : List Int := ((List.range i).map (fun i : Nat => (i : Int))).filter (fun x => decide (x = s.X) || s.Tabs.contains x)
theorem tabTo_in {s : ScrD} {i : Nat} (h : (i : Int) = s.X ∨ s.Tabs.contains (i : Int) = true) : tabTo s (i + 1) = tabTo s i ++ [(i : Int)] := by
 unfold tabTo
 rw [List.range_succ, List.map_append, List.filter_append]
 congr 1
 show List.filter _ [(i : Int)] = _
 rw [List.filter_cons, if_pos (by rw [Bool.or_eq_true, decide_eq_true_eq]; exact h)]
 rfl
theorem tabTo_out {s : ScrD} {i : Nat} (h : ¬ ((i : Int) = s.X ∨ s.Tabs.contains (i : Int) = true)) : tabTo s (i + 1) = tabTo s i := by
 unfold tabTo
 rw [List.range_succ, List.map_append, List.filter_append]
 show _ ++ List.filter _ [(i : Int)] = _
 rw [List.filter_cons, if_neg (by rw [Bool.or_eq_true, decide_eq_true_eq]; exact h)]
 exact List.append_nil _
theorem tabTo_le {s : ScrD} {i : Nat} : (tabTo s i).length ≤ i := by
 refine Nat.le_trans (List.length_filter_le _ _) ?_
 rw [List.length_map, List.length_range]; exact Nat.le_refl _
def isMove (b : Int) : Bool := decide (b = 65 ∨ b = 66 ∨ b = 67 ∨ b = 68 ∨ b = 71 ∨ b = 100 ∨ b = 72 ∨ b = 102)
def moveByD (s : ScrD) (n m b : Int) : ScrD :=
 if b = 65 then moveD s s.X (s.Y - n) else if b = 66 then moveD s s.X (s.Y + n) else if b = 67 then moveD s (s.X + n) s.Y else if b = 68 then moveD s (s.X - n) s.Y
 else if b = 71 then moveD s (n - 1) s.Y else if b = 100 then moveD s s.X (n - 1) else if b = 72 ∨ b = 102 then moveD s (m - 1) (n - 1) else s
theorem csiD_move {s : ScrD} {l : List Int} {b : Int} (h : isMove b = true) : csiD s l b = moveByD s (argI l 0 1) (argI l 1 1) b := by
 unfold isMove at h
 rw [decide_eq_true_eq] at h
 rcases h with rfl | rfl | rfl | rfl | rfl | rfl | rfl | rfl <;> rfl
theorem findI_bnd {p : Int → Bool} {s : List Int} (h : ¬ findI p s = -1) : 0 ≤ findI p s ∧ findI p s < s.length := by
 rcases findI_cases (p := p) (xs := s) with ⟨h1, _⟩ | ⟨i, hi, h1, _⟩
 ·exact absurd h1 h
 ·rw [h1]; omega
structure DelTo (p : Int → Bool) (s : List Int) (j m : Nat) (zs : List Int) : Prop where
 len : zs.length = s.length
 pre : zs.take m = (s.take j).filter (fun x => !p x)
 rest : ∀ k, j ≤ k → k < s.length → iat zs k = iat s k
theorem delTo_start {p : Int → Bool} {s : List Int} (h : ¬ findI p s = -1) : DelTo p s ((findI p s).toNat + 1) (findI p s).toNat s := by
 rcases findI_cases (p := p) (xs := s) with ⟨h1, _⟩ | ⟨i, hi, h1, h2, h3⟩
 ·exact absurd h1 h
 ·rw [h1, Int.toNat_natCast]
  refine ⟨rfl, ?_, fun _ _ _ => rfl⟩
  rw [List.take_add_one, List.getElem?_eq_getElem hi, List.filter_append]
  have e1 : (s.take i).filter (fun x => !p x) = s.take i := by
   rw [List.filter_eq_self]
   intro x hx
   obtain ⟨k, hk, rfl⟩ := List.mem_iff_getElem.1 hx
   rw [List.length_take] at hk
   rw [List.getElem_take, h3 k (by omega)]; rfl
  rw [e1]
  show _ = s.take i ++ List.filter _ [s[i]]
  rw [List.filter_cons, if_neg (by rw [h2]; decide)]
  exact (List.append_nil _).symm
theorem DelTo.keep {p : Int → Bool} {s zs : List Int} {j m : Nat} (h : DelTo p s j m zs) (hj : j < s.length) (hm : m < j) (hp : p (iat zs j) = false) : DelTo p s (j + 1) (m + 1) (zs.set m (iat zs j)) := by
 have hl := h.len
 refine ⟨by rw [List.length_set]; exact hl, ?_, fun k h1 h2 => ?_⟩
 ·rw [List.take_add_one, List.take_set_of_le (Nat.le_refl _), List.getElem?_set_self (by omega), h.pre, List.take_add_one (l := s), gat_get (F := encI) hj, List.filter_append]
  congr 1
  show _ = List.filter _ [iat s j]
  rw [← h.rest j (Nat.le_refl _) hj, List.filter_cons, if_pos (by rw [hp]; decide)]
  rfl
 ·show gat encI (zs.set m _) k = _
  rw [gat_set2 (by omega), if_neg (by omega)]
  exact h.rest k (by omega) h2
theorem DelTo.skip {p : Int → Bool} {s zs : List Int} {j m : Nat} (h : DelTo p s j m zs) (hj : j < s.length) (hp : p (iat zs j) = true) : DelTo p s (j + 1) m zs := by
 refine ⟨h.len, ?_, fun k h1 h2 => h.rest k (by omega) h2⟩
 rw [h.pre, List.take_add_one (l := s), gat_get (F := encI) hj, List.filter_append]
 show _ = _ ++ List.filter _ [iat s j]
 rw [← h.rest j (Nat.le_refl _) hj, List.filter_cons, if_neg (by rw [hp]; decide)]
 exact (List.append_nil _).symm
theorem DelTo.all {p : Int → Bool} {s zs : List Int} {j m : Nat} (h : DelTo p s j m zs) (hj : s.length ≤ j) : zs.take m = s.filter (fun x => !p x) := by
 rw [h.pre, List.take_of_length_le hj]
theorem del_none {p : Int → Bool} {s : List Int} (h : findI p s = -1) : s.filter (fun x => !p x) = s := by
 rcases findI_cases (p := p) (xs := s) with ⟨_, h1⟩ | ⟨i, hi, h1, _⟩
 ·rw [List.filter_eq_self]; intro x hx; rw [h1 x hx]; rfl
 ·rw [h1] at h; omega
theorem tabsD_0 {s : ScrD} : tabsD s 0 = { s with Tabs := s.Tabs.filter fun x => !decide (x = s.X) } := by
 unfold tabsD
 congr 1
 exact List.filter_congr (fun x _ => by simp)
theorem tabsD_3 {s : ScrD} : tabsD s 3 = { s with Tabs := [] } := by
 unfold tabsD
 congr 1
 rw [List.filter_eq_nil_iff]
 intro x _; simp
theorem tabsD_o {s : ScrD} {k : Int} (h0 : ¬ k = 0) (h3 : ¬ k = 3) : tabsD s k = s := by
 unfold tabsD
 rw [show s.Tabs.filter _ = s.Tabs from List.filter_eq_self.2 (fun x _ => by simp [h0, h3])]
theorem moveByD_no {s : ScrD} {n m b : Int} (h : isMove b = false) : moveByD s n m b = s := by
 unfold isMove at h
 rw [decide_eq_false_iff_not] at h
 unfold moveByD
 rw [if_neg (by omega), if_neg (by omega), if_neg (by omega), if_neg (by omega), if_neg (by omega), if_neg (by omega), if_neg (by omega)]
theorem isMove_no {b : Int} (h : isMove b = false) : ¬ b = 65 ∧ ¬ b = 66 ∧ ¬ b = 67 ∧ ¬ b = 68 ∧ ¬ b = 71 ∧ ¬ b = 100 ∧ ¬ (b = 72 ∨ b = 102) := by
 unfold isMove at h
 rw [decide_eq_false_iff_not] at h
 omega
theorem fine_smB {s : ScrD} {B : Nat} (h : ScrFine s) (hB : 20220 ≤ B) : smScr B s := totScr_sm (Nat.le_trans (scr_tot h.ok) hB)
theorem clamp_eq {x h : Int} (h0 : 0 ≤ h) : clampI x h = if x < 0 then 0 else min x h := by unfold clampI; split <;> omega
theorem ScrFine.reg2 {s : ScrD} {l : List Int} (h : ScrFine s) (hl : areArgs l = true) (hr : argI l 0 1 - 1 < argI l 1 s.H - 1 ∧ argI l 1 s.H - 1 < s.H) : ScrFine { s with Top := argI l 0 1 - 1, Bot := argI l 1 s.H - 1 } := by
 have b := gridOk_bnd h.gM
 obtain ⟨d1, d2, _⟩ := h.dim
 have h1 := argI_pos (k := 0) hl (d := 1) (by omega)
 exact ⟨h.gM, h.gA, h.dim, h.pos, h.sav, h.wrp, h.aA, h.aS, ⟨by constructor <;> (simp only; omega), hr.2, fun he => by simp only at he; omega⟩, h.lim, h.tab, h.row⟩
theorem filt_in {p : Int → Bool} {l : List Int} {i : Nat} (h : i < l.length) (hp : p (iat l i) = true) : (l.take (i + 1)).filter p = (l.take i).filter p ++ [iat l i] := by
 rw [List.take_add_one, gat_get (F := encI) h, List.filter_append]
 congr 1
 show List.filter p [iat l i] = _
 rw [List.filter_cons, if_pos hp]; rfl
theorem filt_out {p : Int → Bool} {l : List Int} {i : Nat} (h : i < l.length) (hp : ¬ p (iat l i) = true) : (l.take (i + 1)).filter p = (l.take i).filter p := by
 rw [List.take_add_one, gat_get (F := encI) h, List.filter_append]
 show _ ++ List.filter p [iat l i] = _
 rw [List.filter_cons, if_neg hp]
 exact List.append_nil _
def tabP (s : ScrD) (k : Int) (x : Int) : Bool := (decide (k = 0) && !decide (x = s.X)) || (!decide (k = 0) && !decide (k = 3))
theorem tabsD_P {s : ScrD} {k : Int} : tabsD s k = { s with Tabs := s.Tabs.filter (tabP s k) } := rfl
theorem tabP_iff {s : ScrD} {k x : Int} : tabP s k x = true ↔ (k = 0 ∧ ¬ x = s.X) ∨ (¬ k = 0 ∧ ¬ k = 3) := by
 unfold tabP
 simp only [Bool.or_eq_true, Bool.and_eq_true, decide_eq_true_eq, Bool.not_eq_true', decide_eq_false_iff_not]
def modeTo (s : ScrD) (l : List Int) (b : Int) (i : Nat) : ScrD := if b = 104 ∨ b = 108 then modesD s (l.take i) (decide (b = 104)) else s
theorem modeTo_zero {s : ScrD} {l : List Int} {b : Int} : modeTo s l b 0 = s := by unfold modeTo; split <;> rfl
theorem modeTo_next {s : ScrD} {l : List Int} {b : Int} {i : Nat} (hb : b = 104 ∨ b = 108) (h : i < l.length) : modeTo s l b (i + 1) = modeD (modeTo s l b i) (iat l i) (decide (b = 104)) := by
 unfold modeTo; rw [if_pos hb, if_pos hb]; exact modesD_take h
theorem modeTo_same {s : ScrD} {l : List Int} {b : Int} {i : Nat} (hb : ¬ (b = 104 ∨ b = 108)) : modeTo s l b (i + 1) = modeTo s l b i := by
 unfold modeTo; rw [if_neg hb, if_neg hb]
theorem ScrFine.modeT {s : ScrD} {l : List Int} {b : Int} {i : Nat} (h : ScrFine s) : ScrFine (modeTo s l b i) := by
 show ScrFine (if _ then _ else _)
 split
 ·exact h.modes
 ·exact h
theorem modeTo_all {s : ScrD} {l : List Int} {b : Int} {i : Nat} (hi : l.length ≤ i) : modeTo s l b i = seqD s true l b := by
 unfold modeTo seqD
 rw [List.take_of_length_le hi, if_neg (show ¬ true = false by decide)]; rfl
theorem scrGo_eq {s : ScrD} {x y : Int} (h : ScrFine s) : scrGoRes s x y = moveD s x y := by unfold scrGoRes; rw [if_pos h.ok]
theorem gridRes_eq {w h : Int} (hs : isSize w h = true) : gridRes w h = gridNew w h := by unfold gridRes; rw [hs]; rfl
theorem csi_not {s : ScrD} {mark : Bool} {l : List Int} {b : Int} (h : ¬ (scrOk s = true ∧ areArgs l = true)) : scrCsiRes s mark l b = scr0 := by
 unfold scrCsiRes csiOk
 rw [if_neg]
 rw [Bool.and_eq_true]
 exact fun h9 => h ⟨h9.2, h9.1⟩
theorem csi_yes {s : ScrD} {mark : Bool} {l : List Int} {b : Int} (h : scrOk s = true) (hl : areArgs l = true) : scrCsiRes s mark l b = seqD s mark l b := by
 unfold scrCsiRes csiOk
 rw [if_pos (by rw [Bool.and_eq_true]; exact ⟨hl, h⟩)]
theorem fill_one {g : GridD} {x y w h : Int} {c : CellD} {j : Nat} (hw : w = g.W) (hh : h = g.H) (h0 : 0 ≤ x ∧ x < g.W) (h1 : 0 ≤ y) (hj : j = (y * g.W).toNat + x.toNat) (hl : j < g.Cells.length) : (⟨w, h, g.Cells.set j c⟩ : GridD) = gFill g x y 1 1 c := by
 have e0 : (y * g.W).toNat = y.toNat * g.W.toNat := Int.toNat_mul h1 (by omega)
 obtain ⟨d1, d2⟩ := at_div (w := g.W.toNat) (y := y.toNat) (x := x.toNat) (by omega)
 refine part_done (lo := j) (a := 1) hw hh (List.length_set) (fun k hk hn => ?_) (fun k hk => ?_)
 ·unfold fillFn
  rw [if_neg]
  rintro ⟨h2, h3⟩
  apply hn
  have h4 := dm_eq (w := g.W.toNat) (k := k)
  have h6 : k / g.W.toNat = y.toNat := by omega
  rw [h6] at h4
  omega
 ·show gat encCell (g.Cells.set j c) k = _
  rw [gat_set2 hl]
  unfold partF
  by_cases hk2 : k = j
  ·rw [if_pos hk2, if_pos (by omega)]
   unfold fillFn
   rw [hk2, hj, e0, d1, d2, if_pos (by omega)]
  ·rw [if_neg hk2, if_neg (by omega)]
def nxt (l : List Int) (x d : Int) : Int := (l.find? fun n => decide (x < n)).getD d
theorem nxt_drop {l : List Int} {x d : Int} {i : Nat} (h : i < l.length) : nxt (l.drop i) x d = if x < iat l i then iat l i else nxt (l.drop (i + 1)) x d := by
 unfold nxt
 rw [List.drop_eq_getElem_cons h, List.find?_cons, show iat l i = l[i] from gat_lt h]
 by_cases hx : x < l[i]
 ·rw [decide_eq_true hx, if_pos hx]; rfl
 ·rw [decide_eq_false hx, if_neg hx]
theorem nxt_end {l : List Int} {x d : Int} : nxt (l.drop l.length) x d = d := by rw [List.drop_length]; rfl
theorem nextTab_nxt {s : ScrD} : nextTab s = nxt s.Tabs s.X (s.W - 1) := by
 unfold nextTab nxt
 rcases findI_cases (p := fun n => decide (s.X < n)) (xs := s.Tabs) with ⟨e, h⟩ | ⟨i, hi, e, h1, h2⟩
 ·rw [e, if_neg (by omega), List.find?_eq_none.2 (fun x hx => by rw [h x hx]; exact Bool.false_ne_true)]; rfl
 ·have hf : (s.Tabs.find? fun n => decide (s.X < n)) = some s.Tabs[i] := List.find?_eq_some_iff_getElem.2 ⟨h1, i, hi, rfl, fun j hj => by have h3 := h2 j hj; simpa using h3⟩
  rw [e, if_pos (by omega), show ((i : Int)).toNat = i by omega, show iat s.Tabs i = s.Tabs[i] from gat_lt hi, hf]; rfl
theorem runeD_lt {s s1 : ScrD} {r : Int} (h1 : s1 = if s.Wrap = true then { downD s with X := 0 } else s) (hx : s1.X ≠ s1.W - 1) : runeD s r = { putD s1 (gFill (shownD s1) s1.X s1.Y 1 1 ⟨r, s1.A⟩) with X := s1.X + 1 } := by
 subst h1; exact if_neg hx
theorem runeD_eq {s s1 : ScrD} {r : Int} (h1 : s1 = if s.Wrap = true then { downD s with X := 0 } else s) (hx : s1.X = s1.W - 1) : runeD s r = wrapD (putD s1 (gFill (shownD s1) s1.X s1.Y 1 1 ⟨r, s1.A⟩)) (!s1.NoWrap) := by
 subst h1; exact if_pos hx
def scrActRes (s : ScrD) (a : ActD) : ScrD := if a.Kind = 1 then scrRuneRes s a.R else if a.Kind = 2 then scrCtlRes s a.R else if a.Kind = 3 then scrEscRes s a.R else if a.Kind = 4 then scrCsiRes s a.Mark a.Args a.R else scrCopyRes s
theorem vpCsi_args {v : VpD} {b : Int} (h : areArgs v.Args = true) : areArgs (vpCsi v b).2.Args = true := by
 unfold vpCsi
 (repeat' split)
 all_goals first | rfl | exact h
theorem vpPlain_args {p : List UInt8} {b : Int} : areArgs (vpPlain p b).2.Args = true := by
 unfold vpPlain
 (repeat' split)
 all_goals rfl
theorem vpStep_args {v : VpD} {b : Int} (h : vpOk v = true) : areArgs (vpStep v b).2.Args = true := by
 unfold vpStep
 (repeat' split)
 all_goals first
  | rfl
  | exact vpPlain_args
  | (rename_i hs _; rw [vpOk_csi (.inl hs), Bool.and_eq_true] at h; exact vpCsi_args h.1)
  | (rename_i hs; rw [vpOk_csi (.inl hs), Bool.and_eq_true] at h; exact vpCsi_args h.1)
theorem vpParse_args : ∀ {l : List UInt8} {v : VpD}, vpOk v = true → ∀ a, a ∈ (vpParse v l).2 → areArgs a.Args = true
 | [], v, _, a, ha => by cases ha
 | y :: r, v, h, a, ha => by
  simp only [vpParse, List.mem_append] at ha
  rcases ha with ha | ha
  ·split at ha
   ·cases ha
   ·rw [List.mem_singleton] at ha; rw [ha]; exact vpStep_args h
  ·exact vpParse_args (vpStep_ok h) a ha
def doAct (s : ScrD) (a : ActD) : ScrD := if a.Kind = 1 then (if shows a.R = true then runeD s a.R else s) else if a.Kind = 2 then ctlD s a.R else if a.Kind = 3 then escD s a.R else if a.Kind = 4 then seqD s a.Mark a.Args a.R else s
theorem ScrFine.act {s : ScrD} {a : ActD} (h : ScrFine s) (ha : areArgs a.Args = true) : ScrFine (doAct s a) := by
 unfold doAct
 refine fine_ite ?_ (fine_ite h.ctl (fine_ite h.esc (fine_ite (h.seq ha) h)))
 split
 ·rename_i hr; exact h.rune hr
 ·exact h
theorem act_res {s : ScrD} {a : ActD} (h : ScrFine s) (ha : areArgs a.Args = true) : scrActRes s a = doAct s a := by
 have hk := h.ok
 unfold scrActRes doAct scrRuneRes scrCtlRes scrEscRes scrCopyRes
 rw [if_pos hk, if_pos hk, if_pos hk, if_pos hk, show scrCsiRes s a.Mark a.Args a.R = seqD s a.Mark a.Args a.R from by unfold scrCsiRes csiOk; rw [ha, hk]; rfl]
def actsD (s : ScrD) (l : List ActD) : ScrD := l.foldl doAct s
theorem ScrFine.acts : ∀ {l : List ActD} {s : ScrD}, ScrFine s → (∀ a, a ∈ l → areArgs a.Args = true) → ScrFine (actsD s l)
 | [], _, h, _ => h
 | a :: r, s, h, ha => ScrFine.acts (l := r) (h.act (ha a List.mem_cons_self)) (fun b hb => ha b (List.mem_cons_of_mem _ hb))
theorem actsD_next {s : ScrD} {l : List ActR} {i : Nat} (h : i < l.length) : actsD s ((l.take (i + 1)).map ActR.dat) = doAct (actsD s ((l.take i).map ActR.dat)) (gat encActR l i).dat := by
 unfold actsD
 rw [List.take_add_one, gat_get (F := encActR) h, List.map_append, List.foldl_append]; rfl
theorem acts_take {l : List ActR} {m : List ActD} {i : Nat} (hm : l.map ActR.dat = m) (ha : ∀ a, a ∈ m → areArgs a.Args = true) : ∀ a, a ∈ (l.take i).map ActR.dat → areArgs a.Args = true := fun a h => by
 obtain ⟨x, hx, rfl⟩ := List.mem_map.1 h
 exact ha _ (hm ▸ List.mem_map_of_mem (List.mem_of_mem_take hx))
theorem acts_gat {l : List ActR} {m : List ActD} {i : Nat} (hm : l.map ActR.dat = m) (ha : ∀ a, a ∈ m → areArgs a.Args = true) (hi : i < l.length) : areArgs (gat encActR l i).dat.Args = true := ha _ (hm ▸ List.mem_map_of_mem (gat_mem hi))
def term0 : TermD := ⟨vp0, scr0⟩
def termFeedRes (t : TermD) (b : List UInt8) : TermD := if termOk t = true then ⟨(vpParse t.P b).1, actsD t.S (vpParse t.P b).2⟩ else term0
theorem termFeedRes_tot {t : TermD} {b : List UInt8} : totTerm (termFeedRes t b) ≤ 20230 := by
 unfold termFeedRes
 split
 ·rename_i h
  obtain ⟨h1, h2⟩ := termOk_P h
  have h3 := vpOk_len (vpParse_ok (l := b) h1)
  have h4 := scr_tot ((ScrFine.of h2).acts (vpParse_args (l := b) h1)).ok
  simp only [totTerm, totScr] at h4 ⊢
  omega
 ·show 0 ≤ 20230; omega
theorem WC.jPK {P : Program} {n : Nat} {x : Code} {K : Fr → World → Prop} {Q : Kont} {f F : Fr} {w0 w : World} {T : List Nat} {b : Nat} {o0 : Obj} {L0 R : Hp} (is : List Nat) (hF : rstr is f = some F) (hst : St w0 T ((b, o0) :: (L0 ++ R)) w) (X : Obj → Hp → Prop)
  (hx : WC P n x (thenK (fun f' w' => ∃ o L1, St w0 T ((b, o) :: (L1 ++ R)) w' ∧ X o L1 ∧ Sub F f') Q) f w) (hy : ∀ o L1 w', X o L1 → St w0 T ((b, o) :: (L1 ++ R)) w' → ∀ f', Sub F f' → K f' w') : WC P n x (thenK K Q) f w :=
 hx.mono fun e f' w' h => by
  cases e
  case normal =>
   obtain ⟨o, L1, h1, h2, h3⟩ := h
   exact hy o L1 w' h2 h1 f' h3
  all_goals exact h
theorem OwnN.sep1 {α β : Type} {F : Enc α} {own : α → Hp → Prop} {G : Enc β} {e e2 : TypeId} {v : Value} {xs : List α} {ys : List β} {LN L1 R : Hp} {i n c : Nat} {A : Option Addr} {w0 w : World} {T : List Nat} (hs : St w0 T (L1 ++ R) w) (hm : ∀ p, p ∈ LN → p ∈ R) (h : OwnN F own e v xs LN) (hi : i < xs.length) (ho : ∀ L, own (gat F xs i) L → OwnF G e2 (.slice A n c) ys L) : 0 < n → (adr A).block ∉ L1.map (·.1) := by
 obtain ⟨L0, Lb, rfl, _, hb⟩ := h
 obtain ⟨Li, h1, h2⟩ := hb.mem _ (gat_mem hi)
 exact OwnF.sep hs (fun p hp => hm p (List.mem_append_right _ (h2 p hp))) (ho _ h1)
theorem k88_ (u_0 u_1 u_2 u_3 : Value) (b_s : Nat) (s : ScrR) (L_s : Hp) (w : World) (hb_s : w.heap[b_s]? = some (oS u_0 u_1 u_2 u_3 s)) (o_s : ownScrR s L_s) (h_s : Hh w L_s) (hd_ : (b_s :: L_s.map (·.1)).Nodup) (hx : s.OnAlt = false) :
    Calls Tryz.prog 223 #[.pointer (some ⟨b_s, 4, none⟩)] w fun e w' => ∃ r L1, e = .returned (.pointer (some ⟨b_s, 6, none⟩)) ∧ St w (b_s :: L_s.map (·.1)) ([(b_s, oS u_0 u_1 u_2 u_3 r)] ++ L1) w' ∧ ownScrR r L1 ∧ r.dat = s.dat := by
 refine enter 13 Tryz.func223 rfl Tryz.ntmps223 rfl rfl ?_
 have hs1 := St.takeP w b_s _ L_s hb_s h_s hd_
 refine WC.r1 hs1 [] rfl (WC.seq (fun K2 hK2 => WC.r1 hs1 [0] rfl ?_))
 refine WC.cq rfl (fun h3 qh3 => ?_) (fun h3 qh3 => ?_)
 ·exfalso; have h9 := h3; rw [hx] at h9; revert h9; decide
 refine WC.skip (hK2 _ _ (WC.r1 hs1 [] rfl (WC.ret (retV1 rfl (resV.tmp rfl) (⟨s, _, rfl, St.keepP (L1 := L_s) ((hs1.fr L_s).fb b_s), o_s, ?_⟩)))))
 · rfl
theorem k89_ (u_0 u_1 u_2 u_3 : Value) (b_s : Nat) (s : ScrR) (L_s : Hp) (w : World) (hb_s : w.heap[b_s]? = some (oS u_0 u_1 u_2 u_3 s)) (o_s : ownScrR s L_s) (h_s : Hh w L_s) (hd_ : (b_s :: L_s.map (·.1)).Nodup) (hx : s.OnAlt = true) :
    Calls Tryz.prog 223 #[.pointer (some ⟨b_s, 4, none⟩)] w fun e w' => ∃ r L1, e = .returned (.pointer (some ⟨b_s, 9, none⟩)) ∧ St w (b_s :: L_s.map (·.1)) ([(b_s, oS u_0 u_1 u_2 u_3 r)] ++ L1) w' ∧ ownScrR r L1 ∧ r.dat = s.dat := by
 refine enter 13 Tryz.func223 rfl Tryz.ntmps223 rfl rfl ?_
 have hs1 := St.takeP w b_s _ L_s hb_s h_s hd_
 refine WC.r1 hs1 [] rfl (WC.seq (fun K2 hK2 => WC.r1 hs1 [0] rfl ?_))
 refine WC.cq rfl (fun h3 qh3 => ?_) (fun h3 qh3 => ?_)
 ·refine WC.r1 hs1 [] rfl (WC.ret (tkR ?_))
  clear hK2
  refine retV1 rfl (resV.tmp rfl) (⟨s, _, rfl, St.keepP (L1 := L_s) ((hs1.fr L_s).fb b_s), o_s, ?_⟩)
  · rfl
 exfalso; have h9 := h3; rw [hx] at h9; revert h9; decide
theorem k90_ (u_0 u_1 u_2 u_3 : Value) (b_s : Nat) (s : ScrR) (L_s : Hp) (n : Nat) (w : World) (hb_s : w.heap[b_s]? = some (oS u_0 u_1 u_2 u_3 s)) (o_s : ownScrR s L_s) (h_s : Hh w L_s) (hd_ : (b_s :: L_s.map (·.1)).Nodup) (hm : gridOk s.Main.dat = true) (hlim : 0 ≤ s.Limit ∧ s.Limit ≤ 1048576) (hb : (s.Back.xs.length : Int) ≤ s.Limit) (hn : (n : Int) ≤ s.Main.H) (hsm : smScr 1048576 s.dat) :
    Calls Tryz.prog 248 #[.pointer (some ⟨b_s, 4, none⟩), .int .i64 n] w fun e w' => ∃ r L1, e = .returned (.tuple #[]) ∧ St w (b_s :: L_s.map (·.1)) ([(b_s, oS u_0 u_1 u_2 u_3 r)] ++ L1) w' ∧ ownScrR r L1 ∧ r.dat = keepRows s.dat n := by
 have hsmB : smScr 549755813888 s.dat := smScr_mono hsm (by decide)
 have hgb : (1 ≤ s.Main.W ∧ s.Main.W ≤ 120) ∧ (1 ≤ s.Main.H ∧ s.Main.H ≤ 120) ∧ 1 ≤ s.Main.W * s.Main.H ∧ s.Main.W * s.Main.H ≤ 4000 := gridOk_bnd hm
 have hgl : (s.Main.Cells.xs.length : Int) = s.Main.W * s.Main.H := by have h_ := hm; unfold gridOk at h_; rw [Bool.and_eq_true, Bool.and_eq_true, decide_eq_true_eq] at h_; exact h_.1.2
 refine enter 49 Tryz.func248 rfl Tryz.ntmps248 rfl rfl ?_
 have hs1 := St.takeP w b_s _ L_s hb_s h_s hd_
 refine WC.seq (fun K2 hK2 => WC.r1 hs1 [] rfl (WC.block ?_))
 have hM7 := (St.grp1 (L1 := L_s) [_] ((hs1.fr L_s).fb b_s))
 refine WC.lV [0, 6] rfl hM7 (fun k_ (a_ : Hp) f => ∃ (i : Nat) (r : ScrR) (L5 : Hp), k_ = n - i ∧ a_ = [(b_s, oS u_0 u_1 u_2 u_3 r)] ++ L5 ∧ (i ≤ n) ∧ (r.dat = keepTo s.dat i) ∧ ownScrR r L5 ∧ Sub [(7, .int .i64 i)] f) (((fun (i : Nat) => n - i) (0))) ?_ ?_
 ·refine ⟨0, s, L_s, rfl, rfl, ?_, ?_, o_s, ⟨rfl, trivial⟩⟩
  · omega
  · exact keepTo_zero.symm
 rintro _ _ f w ⟨i, r, L5, rfl, rfl, p0, p1, ho6, hG⟩ hF hs8
 refine WC.sub _ (hG.app hF) ?_
 clear hG hF
 replace hs8 := St.ungrp1 [_] hs8
 have hsmr : smScr 549755813888 r.dat := by rw [p1]; exact keepTo_sm (smScr_mono hsm (by decide)) hm (by simp only [ScrR.dat, List.length_map]; omega) (by decide)
 have hrb : r.Back.xs.length = s.Back.xs.length + i := by have h9 := congrArg (fun d : ScrD => d.Back.length) p1; simpa [ScrR.dat, keepTo] using h9
 have hrm : r.Main.dat = s.Main.dat := congrArg ScrD.Main p1
 have hrW : r.Main.W = s.Main.W := congrArg GridD.W hrm
 have hrC : r.Main.Cells.xs = s.Main.Cells.xs := congrArg GridD.Cells hrm
 have hrL : r.Limit = s.Limit := congrArg ScrD.Limit p1
 obtain ⟨⟨hrn1, hrn2⟩, _, _, hrn3, hrn4⟩ := ownScrR.lens ‹ownScrR r _›
 refine WC.r1 hs8 [] rfl (WC.seq (fun K9 hK9 => ?_))
 refine WC.cD rfl (fun qh10 => ?_) (fun qh10 => ?_)
 ·have hv0 : 0 ≤ (i : Int) * r.Main.W := Int.mul_nonneg (by omega) (by omega)
  have hv1 : ((i : Int) + 1) * r.Main.W = (i : Int) * r.Main.W + r.Main.W := by rw [Int.add_mul, Int.one_mul]
  have hv2 : ((i : Int) + 1) * r.Main.W ≤ s.Main.H * s.Main.W := by rw [hrW]; exact Int.mul_le_mul_of_nonneg_right (by omega) (by omega)
  rw [Int.mul_comm s.Main.H] at hv2
  have hrl : r.Main.Cells.xs.length = s.Main.Cells.xs.length := congrArg List.length hrC
  have hrow : (RowD.mk ((r.Main.Cells.xs.drop ((i : Int) * r.Main.W).toNat).take ((((i : Int) + 1) * r.Main.W).toNat - ((i : Int) * r.Main.W).toNat))) = rowAt s.dat.Main i := by
    have e1 : ((i : Int) * r.Main.W).toNat = i * s.Main.W.toNat := by rw [hrW]; exact toNat_mul_nat (by omega)
    have e2 : (((i : Int) + 1) * r.Main.W).toNat - i * s.Main.W.toNat = s.Main.W.toNat := by rw [← e1]; omega
    rw [e1, e2, hrC]; rfl
  refine WC.skip (hK9 _ _ (WC.seq (fun K11 hK11 => WC.block (WC.r1 hs8 [] rfl (WC.rG 17 (hs8.d1.rm L5) (hs8.rm L5) hs8 (fun _ hs12 => ?_))))))
  refine WG.rn [0, 1, 2, 3, 4, 5, 6, 7, 8, 9] (hs12.rm L5) [0, 0] rfl rfl (WG.o1 10 rfl rfl (WL.cl Tryz.call224 rfl (k83_ r.Main _ _ (ownScrR.ok (B := 549755813888) ho6 (hs12.ow L5) hsmr).Main ?_ ?_ ?_ ?_) ?_))
  iterate 4 first | assumption | rfl | omega
  rintro _ whs13 ⟨rfl, hs13⟩
  replace hs13 := hs12.call0 hs13
  refine ⟨_, rfl, WL.nil ⟨(hs13.rm L5), WG.o1 11 rfl rfl ?_⟩⟩
  refine WL.cl Tryz.call208 rfl (k79_ _ _ _ _ _ (SlF.cutC (lo := ((i : Int) * r.Main.W).toNat) (hi := (((i : Int) + 1) * r.Main.W).toNat) (ownScrR.ok (B := 549755813888) ho6 (hs13.ow L5) hsmr).Main.Cells (by refine ⟨?_, ?_, ?_⟩ <;> (omega))) ?_) ?_
  · first | assumption | rfl | omega
  rintro _ whs14 ⟨A15, c16, L1_17, rfl, hs14, ho18⟩
  replace hs14 := hs13.callF hs14
  refine ⟨_, rfl, ?_⟩
  replace hs14 := St.back [_] hs14
  refine WL.nil ⟨((hs14.rm L1_17).rm L5), ?_⟩
  refine WG.tk 12 rfl (by kernel_rfl) rfl rfl rfl ((hs14.rm L1_17).rm L5) (fun w_ hs_ => (Run.build rfl rfl rfl rfl (built_98_0 _ _ _))) ?_
  refine WG.o1 13 rfl rfl (WL.buildSlice hs14 Tryz.runUnderlying31 Tryz.sizeOf98 Tryz.zeroValue98 rfl rfl rfl rfl rfl rfl rfl rfl rfl rfl (fun b19 whs20 hs20 => WL.nil ⟨((hs20.d1.rm L1_17).rm L5), WG.o1 14 rfl rfl ?_⟩))
  obtain ⟨L21, L22, L23, L24, hs29, ho25, ho26, ho27, ho28⟩ := ownScrR.op hs20 ho6
  have hs30 := ((hs29.fb b_s).fb b19)
  obtain ⟨L31, L32, hs35, ho33, ho34⟩ := OwnN.open_ (hs30.fr L24) ho28
  have hs36 := ((hs35.fb b_s).fb b19)
  refine WL.appendG (hs36.fr L31) ho33 (srcF (F := encRowR) (ys := [(⟨SlD.of ho18⟩ : RowR)]) Tryz.underlying31 rfl rfl (hs36.own _ (nthL_mem (i := 0) rfl)).1) Tryz.underlying31 inf98 rfl rfl rfl rfl rfl rfl rfl rfl rfl rfl ?_ (fun A40 c41 L37 whs38 hs38 ho39 => ?_)
  · simp; omega
  replace hs38 := St.back [_, _] hs38
  obtain ⟨L42, hs43, hb44⟩ := Bag.put (x := (⟨SlD.of ho18⟩ : RowR)) ((hs38.fr L1_17).fr L32) ho34 ho18
  have hs45 := ((hs43.fb b_s).fb b19)
  obtain ⟨L47, hs46, ho48⟩ := OwnN.fold ((hs45.fr L42).fr L37) ho39 hb44
  have hs49 := ((hs46.fb b_s).fb b19)
  refine WL.nil ⟨((((hs49.d1.rm L47).rm L21).rm L22).rm L23), WG.rn [15, 16] ((((hs49.d1.rm L47).rm L21).rm L22).rm L23) [] rfl rfl (WG.oK rfl (WL.st tbk hs49 1 rfl rfl (fun _ hs50 => WL.nil ⟨((((hs50.d1.d1.rm L47).rm L21).rm L22).rm L23), WH.dn (hK11 _ _ (WC.region ?_))⟩)))⟩
  refine WL.r 2 hs50 [] rfl (WL.nil (tkN ?_))
  obtain ⟨L52, hs51, ho53⟩ := ownScrR.fl hs50 ho25 ho26 ho27 ho48
  have hs54 := ((hs51.fb b_s).fb b19)
  replace hs54 := hs54.d1
  have hF55 := (St.grp1 (L1 := L52) [_] ((hs54.fr L52).fb b_s))
  refine ⟨sbF rfl, _, hF55, _, ?_, i + 1, ⟨r.W, r.H, ⟨r.Main.W, r.Main.H, SlD.of ho25⟩, ⟨r.Alt.W, r.Alt.H, SlD.of ho26⟩, r.OnAlt, r.X, r.Y, r.Wrap, ⟨r.A.Fg, r.A.Bg, r.A.Bold, r.A.Under, r.A.Turn⟩, r.Top, r.Bot, r.NoWrap, r.Hide, r.SaveX, r.SaveY, ⟨r.SaveA.Fg, r.SaveA.Bg, r.SaveA.Bold, r.SaveA.Under, r.SaveA.Turn⟩, SlD.of ho27, r.Limit, SlD.ofN ho48⟩, L52, rfl, rfl, ?_, ?_, (by exact ho53), ⟨rfl, trivial⟩⟩
  · omega
  · omega
  · rw [keepTo_succ (r := ⟨_⟩) hrow, ← p1]; simp only [ScrR.dat, List.map_append, List.map_cons, List.map_nil]; rfl
 have hin : i = n := by omega
 rw [hin] at p1
 have hrd : r.dat.Back.length = r.Back.xs.length := List.length_map _
 refine WC.exit (hK2 _ _ (WC.q1 hs8 [0, 0] rfl (fun _ hs56 => WC.r1 hs56 [] rfl ?_)))
 refine WC.cD rfl (fun qh57 => ?_) (fun qh57 => ?_)
 ·refine WC.region (WL.r 6 hs56 [0] rfl ?_)
  obtain ⟨L59, L60, L61, L62, hs67, ho63, ho64, ho65, ho66⟩ := ownScrR.op hs56 ho6
  have hs68 := (hs67.fb b_s)
  refine WL.cl Tryz.call260 rfl (k87_ _ _ _ _ _ _ ho66 (hs68.ow L62) (St.nodupL (hs68.fr L62)) ?_ ?_ ?_) ?_
  iterate 3 first | assumption | rfl | omega
  rintro _ whs58 ⟨A69, c70, n71, xs72, L1_73, rfl, hs58, ho74, hd75⟩
  replace hs58 := St.lend (hs68.fr L62) hs58
  refine ⟨_, rfl, ?_⟩
  replace hs58 := St.back [_] hs58
  refine WL.r 2 hs58 [] rfl (WL.st tbk hs58 0 rfl rfl (fun _ hs76 => WL.nil (retK0 rfl ?_)))
  obtain ⟨L78, hs77, ho79⟩ := ownScrR.fl hs76 ho63 ho64 ho65 ho74
  have hs80 := (hs77.fb b_s)
  refine ownScrR.retp4 rfl ((hs80.fr L78).fb b_s) ho79 ?_
  · refine Eq.trans ?_ (keepTo_drop p1 (k := ((r.Back.n : Int) - r.Limit).toNat) (by show _ = _ - s.Limit.toNat; omega)); simp only [ScrR.dat, hd75, List.map_drop]
 refine WC.skip (retK0 rfl (⟨r, _, rfl, St.keepP (L1 := L5) ((hs56.fr L5).fb b_s), ho6, ?_⟩))
 · exact keepTo_all p1 (by show _ ≤ s.Limit.toNat; omega)
theorem k91_ (u_0 u_1 u_2 u_3 : Value) (b_s : Nat) (s : ScrR) (L_s : Hp) (top : Int) (bot : Int) (n : Int) (w : World) (hb_s : w.heap[b_s]? = some (oS u_0 u_1 u_2 u_3 s)) (o_s : ownScrR s L_s) (h_s : Hh w L_s) (hd_ : (b_s :: L_s.map (·.1)).Nodup) (hg : gridOk (shownD s.dat) = true) (ht : 0 ≤ top ∧ top ≤ bot ∧ bot < (shownD s.dat).H) (hn : -100000 ≤ n ∧ n ≤ 100000) (hsmB : smScr 549755813888 s.dat) (hx : s.OnAlt = false) :
    Calls Tryz.prog 210 #[.pointer (some ⟨b_s, 4, none⟩), i64 top, i64 bot, i64 n] w fun e w' => ∃ r L1, e = .returned (.tuple #[]) ∧ St w (b_s :: L_s.map (·.1)) ([(b_s, oS u_0 u_1 u_2 u_3 r)] ++ L1) w' ∧ ownScrR r L1 ∧ r.dat = rollD s.dat top bot n := by
 refine enter 20 Tryz.func210 rfl Tryz.ntmps210 rfl rfl ?_
 have hs1 := St.takeP w b_s _ L_s hb_s h_s hd_
 refine WC.sr (WL.r 1 hs1 [] rfl ?_)
 have hF2 := ((hs1.fr L_s).fb b_s)
 refine WL.cl Tryz.call223 rfl (k88_ _ _ _ _ _ s _ _ (St.headP hF2) o_s (St.ownP hF2) (St.nodupP hF2) ?_) ?_
 · first | assumption | rfl | omega
 rintro _ whs3 ⟨r4, L5, rfl, hs3, ho6, hd7⟩
 replace hs3 := St.lendP hF2 hs3
 refine ⟨_, rfl, ?_⟩
 have hd2 := hd7
 have hM2 : r4.Main.dat = shownD s.dat := (congrArg ScrD.Main hd2).trans (by unfold shownD; rw [if_neg (show ¬ s.dat.OnAlt = true from by show ¬ s.OnAlt = true; first | exact hx | (rw [hx]; decide))])
 have hg2 : gridOk r4.Main.dat = true := by rw [hM2]; exact hg
 have ht2 : 0 ≤ top ∧ top ≤ bot ∧ bot < r4.Main.H := by have h9 := congrArg GridD.H hM2; simp only [GridR.dat] at h9; rw [h9]; exact ht
 refine WL.r 1 hs3 [] rfl (WL.nil (WC.region (WL.r 7 hs3 [0] rfl ?_)))
 refine WL.cl Tryz.call249 rfl (k86_ r4.Main _ _ _ _ (ownScrR.ok (B := 549755813888) ho6 (hs3.ow L5) (by rw [hd7]; assumption)).Main ?_ ?_ ?_) ?_
 iterate 3 first | assumption | rfl | omega
 rintro _ whs8 ⟨r9, L1_10, rfl, hs8, ho11, hd12⟩
 replace hs8 := hs3.callF hs8
 refine ⟨_, rfl, ?_⟩
 replace hs8 := St.back [_] hs8
 have hd3 := hd12
 refine WL.r 1 hs8 [] rfl (WL.st tbk hs8 0 rfl rfl (fun _ hs13 => WL.nil (retK0 rfl ?_)))
 obtain ⟨L14, L15, L16, L17, hs22, ho18, ho19, ho20, ho21⟩ := ownScrR.op hs13 ho6
 have hs23 := (hs22.fb b_s)
 obtain ⟨L25, hs24, ho26⟩ := ownScrR.fl hs23 ho11 ho19 ho20 ho21
 have hs27 := (hs24.fb b_s)
 refine ownScrR.retp4 rfl ((hs27.fr L25).fb b_s) ho26 ?_
 · rw [show rollD s.dat top bot n = { s.dat with Main := gRoll (shownD s.dat) top bot n } from by unfold rollD putD; rw [if_neg (show ¬ s.dat.OnAlt = true from by show ¬ s.OnAlt = true; first | exact hx | (rw [hx]; decide))], ← hd2]; exact ScrD.ext' rfl rfl (hd3.trans (by rw [hM2, hd2])) rfl rfl rfl rfl rfl rfl rfl rfl rfl rfl rfl rfl rfl rfl rfl rfl
theorem k92_ (u_0 u_1 u_2 u_3 : Value) (b_s : Nat) (s : ScrR) (L_s : Hp) (top : Int) (bot : Int) (n : Int) (w : World) (hb_s : w.heap[b_s]? = some (oS u_0 u_1 u_2 u_3 s)) (o_s : ownScrR s L_s) (h_s : Hh w L_s) (hd_ : (b_s :: L_s.map (·.1)).Nodup) (hg : gridOk (shownD s.dat) = true) (ht : 0 ≤ top ∧ top ≤ bot ∧ bot < (shownD s.dat).H) (hn : -100000 ≤ n ∧ n ≤ 100000) (hsmB : smScr 549755813888 s.dat) (hx : s.OnAlt = true) :
    Calls Tryz.prog 210 #[.pointer (some ⟨b_s, 4, none⟩), i64 top, i64 bot, i64 n] w fun e w' => ∃ r L1, e = .returned (.tuple #[]) ∧ St w (b_s :: L_s.map (·.1)) ([(b_s, oS u_0 u_1 u_2 u_3 r)] ++ L1) w' ∧ ownScrR r L1 ∧ r.dat = rollD s.dat top bot n := by
 refine enter 20 Tryz.func210 rfl Tryz.ntmps210 rfl rfl ?_
 have hs1 := St.takeP w b_s _ L_s hb_s h_s hd_
 refine WC.sr (WL.r 1 hs1 [] rfl ?_)
 have hF2 := ((hs1.fr L_s).fb b_s)
 refine WL.cl Tryz.call223 rfl (k89_ _ _ _ _ _ s _ _ (St.headP hF2) o_s (St.ownP hF2) (St.nodupP hF2) ?_) ?_
 · first | assumption | rfl | omega
 rintro _ whs3 ⟨r4, L5, rfl, hs3, ho6, hd7⟩
 replace hs3 := St.lendP hF2 hs3
 refine ⟨_, rfl, ?_⟩
 have hd2 := hd7
 have hM2 : r4.Alt.dat = shownD s.dat := (congrArg ScrD.Alt hd2).trans (by unfold shownD; rw [if_pos (show  s.dat.OnAlt = true from by show  s.OnAlt = true; first | exact hx | (rw [hx]; decide))])
 have hg2 : gridOk r4.Alt.dat = true := by rw [hM2]; exact hg
 have ht2 : 0 ≤ top ∧ top ≤ bot ∧ bot < r4.Alt.H := by have h9 := congrArg GridD.H hM2; simp only [GridR.dat] at h9; rw [h9]; exact ht
 refine WL.r 1 hs3 [] rfl (WL.nil (WC.region (WL.r 7 hs3 [0] rfl ?_)))
 refine WL.cl Tryz.call249 rfl (k86_ r4.Alt _ _ _ _ (ownScrR.ok (B := 549755813888) ho6 (hs3.ow L5) (by rw [hd7]; assumption)).Alt ?_ ?_ ?_) ?_
 iterate 3 first | assumption | rfl | omega
 rintro _ whs8 ⟨r9, L1_10, rfl, hs8, ho11, hd12⟩
 replace hs8 := hs3.callF hs8
 refine ⟨_, rfl, ?_⟩
 replace hs8 := St.back [_] hs8
 have hd3 := hd12
 refine WL.r 1 hs8 [] rfl (WL.st tbk hs8 0 rfl rfl (fun _ hs13 => WL.nil (retK0 rfl ?_)))
 obtain ⟨L14, L15, L16, L17, hs22, ho18, ho19, ho20, ho21⟩ := ownScrR.op hs13 ho6
 have hs23 := (hs22.fb b_s)
 obtain ⟨L25, hs24, ho26⟩ := ownScrR.fl hs23 ho18 ho11 ho20 ho21
 have hs27 := (hs24.fb b_s)
 refine ownScrR.retp4 rfl ((hs27.fr L25).fb b_s) ho26 ?_
 · rw [show rollD s.dat top bot n = { s.dat with Alt := gRoll (shownD s.dat) top bot n } from by unfold rollD putD; rw [if_pos (show  s.dat.OnAlt = true from by show  s.OnAlt = true; first | exact hx | (rw [hx]; decide))], ← hd2]; exact ScrD.ext' rfl rfl rfl (hd3.trans (by rw [hM2, hd2])) rfl rfl rfl rfl rfl rfl rfl rfl rfl rfl rfl rfl rfl rfl rfl
theorem k93_ (u_0 u_1 u_2 u_3 : Value) (b_s : Nat) (s : ScrR) (L_s : Hp) (top : Int) (bot : Int) (n : Int) (w : World) (hb_s : w.heap[b_s]? = some (oS u_0 u_1 u_2 u_3 s)) (o_s : ownScrR s L_s) (h_s : Hh w L_s) (hd_ : (b_s :: L_s.map (·.1)).Nodup) (hg : gridOk (shownD s.dat) = true) (ht : 0 ≤ top ∧ top ≤ bot ∧ bot < (shownD s.dat).H) (hn : -100000 ≤ n ∧ n ≤ 100000) (hsmB : smScr 549755813888 s.dat) :
    Calls Tryz.prog 210 #[.pointer (some ⟨b_s, 4, none⟩), i64 top, i64 bot, i64 n] w fun e w' => ∃ r L1, e = .returned (.tuple #[]) ∧ St w (b_s :: L_s.map (·.1)) ([(b_s, oS u_0 u_1 u_2 u_3 r)] ++ L1) w' ∧ ownScrR r L1 ∧ r.dat = rollD s.dat top bot n := by
 rcases Bool.eq_false_or_eq_true s.OnAlt with hx_ | hx_
 · exact k92_ u_0 u_1 u_2 u_3 b_s s L_s top bot n w hb_s o_s h_s hd_ hg ht hn hsmB hx_
 · exact k91_ u_0 u_1 u_2 u_3 b_s s L_s top bot n w hb_s o_s h_s hd_ hg ht hn hsmB hx_
theorem k94_ (u_0 u_1 u_2 u_3 : Value) (b_s : Nat) (s : ScrR) (L_s : Hp) (n : Int) (w : World) (hb_s : w.heap[b_s]? = some (oS u_0 u_1 u_2 u_3 s)) (o_s : ownScrR s L_s) (h_s : Hh w L_s) (hd_ : (b_s :: L_s.map (·.1)).Nodup) (hf : ScrFine s.dat) (hn : 0 ≤ n ∧ n ≤ 100000) (hsm : smScr 1048576 s.dat) :
    Calls Tryz.prog 209 #[.pointer (some ⟨b_s, 4, none⟩), i64 n] w fun e w' => ∃ r L1, e = .returned (.tuple #[]) ∧ St w (b_s :: L_s.map (·.1)) ([(b_s, oS u_0 u_1 u_2 u_3 r)] ++ L1) w' ∧ ownScrR r L1 ∧ r.dat = rollUpD s.dat n := by
 have hsmB : smScr 549755813888 s.dat := by first | assumption | exact smScr_mono hsm (by decide)
 have hok9 := hf.ok
 obtain ⟨hb1, hb2, hb3, hb4, hb5, hb6⟩ := scrOk_bnd hok9
 obtain ⟨hm, hma⟩ := scrOk_main hok9
 simp only [ScrR.dat, GridR.dat, List.length_map] at hb1 hb2 hb3 hb4 hb5 hb6
 have hgs0 : gridOk (shownD s.dat) = true := hf.shown.1
 have hts0 : 0 ≤ s.Top ∧ s.Top ≤ s.Bot ∧ s.Bot < (shownD s.dat).H := by rw [hf.shown.2.2]; exact ⟨hf.reg.1.1, hf.reg.1.2, hf.reg.2.1⟩
 refine enter 36 Tryz.func209 rfl Tryz.ntmps209 rfl rfl ?_
 have hs1 := St.takeP w b_s _ L_s hb_s h_s hd_
 refine WC.seq (fun K2 hK2 => WC.sr (WL.r 6 hs1 [0] rfl (WL.pA tbk 5 Acts.nil hs1 [0] rfl rfl rfl rfl (fun g_ => ⟨rfl, trivial⟩) (WL.nil ?_))))
 refine WC.cq rfl (fun h3 qh3 => ?_) (fun h3 qh3 => ?_)
 ·have hk : keepD s.dat n = keepRows s.dat (min n (s.Bot + 1)).toNat := by unfold keepD; rw [if_pos (by show s.OnAlt = false ∧ s.Top = 0; have h9 := h3; simpa using h9)]; rfl
  refine WC.region (WL.r 7 hs1 [0] rfl (WL.val rfl rfl rfl (Run.asN ((min n (s.Bot + 1)).toNat) (Run.min rfl rfl rfl) ?_) ?_))
  · omega
  have hF4 := ((hs1.fr L_s).fb b_s)
  refine WL.cl Tryz.call248 rfl (k90_ _ _ _ _ _ s _ _ _ (St.headP hF4) o_s (St.ownP hF4) (St.nodupP hF4) ?_ ?_ ?_ ?_ ?_) ?_
  iterate 5 first | assumption | rfl | omega
  rintro _ whs5 ⟨r6, L7, rfl, hs5, ho8, hd9⟩
  replace hs5 := St.lendP hF4 hs5
  refine ⟨_, rfl, ?_⟩
  have hkr : r6.dat = keepD s.dat n := hd9.trans hk.symm
  have hfr : ScrFine r6.dat := by rw [hkr]; exact hf.keep
  have hsr : smScr 549755813888 r6.dat := by rw [hd9]; exact keepRows_sm hsmB hm (by decide) (by show s.Limit.toNat ≤ _; omega)
  have hgs : gridOk (shownD r6.dat) = true := hfr.shown.1
  have hts : 0 ≤ r6.Top ∧ r6.Top ≤ r6.Bot ∧ r6.Bot < (shownD r6.dat).H := by rw [hfr.shown.2.2]; exact ⟨hfr.reg.1.1, hfr.reg.1.2, hfr.reg.2.1⟩
  have hrT : r6.Top = s.Top := (congrArg ScrD.Top hkr).trans keepD_eqs.2.1
  have hrB : r6.Bot = s.Bot := (congrArg ScrD.Bot hkr).trans keepD_eqs.2.2.1
  refine WL.nil (hK2 _ _ (WC.rH (hs5.d1.rm L7) hs5 (fun _ hs10 => ?_)))
  refine WH.rn [0, 1, 2, 3, 5, 6, 7, 9] (hs10.d1.rm L7) [] rfl rfl (WH.all [4, 8] (by kernel_rfl) rfl (WHs.cons (i := 4) rfl ?_ (WHs.cons (i := 8) rfl ?_ WHs.nil)))
  ·refine WL.r 1 hs10 [0] rfl (WL.nil ⟨(hs10.d1.rm L7), WH.o1 8 rfl (WL.r 1 hs10 [0] rfl (WL.nil ⟨(hs10.d1.rm L7), WH.o1 10 rfl ?_⟩))⟩)
   have hF11 := ((hs10.fr L7).fb b_s)
   refine WL.cl Tryz.call210 rfl (k93_ _ _ _ _ _ r6 _ _ _ _ _ (St.headP hF11) ho8 (St.ownP hF11) (St.nodupP hF11) ?_ ?_ ?_ ?_) ?_
   iterate 4 first | assumption | rfl | omega
   rintro _ whs12 ⟨r13, L14, rfl, hs12, ho15, hd16⟩
   replace hs12 := St.lendP hF11 hs12
   refine ⟨_, rfl, WL.nil ⟨(hs12.d1.rm L14), WH.dn (retK0 rfl (⟨r13, _, rfl, St.keepP (L1 := L14) ((hs12.fr L14).fb b_s), ho15, ?_⟩))⟩⟩
   · refine hd16.trans ?_; unfold rollUpD; first | (rw [hkr, hrT, hrB]; rfl) | (rw [hk]; rfl)
  refine WL.r 1 hs10 [0] rfl (WL.nil ⟨(hs10.d1.rm L7), WH.o1 4 rfl (WL.r 1 hs10 [0] rfl (WL.nil ⟨(hs10.d1.rm L7), WH.o1 10 rfl ?_⟩))⟩)
  have hF17 := ((hs10.fr L7).fb b_s)
  refine WL.cl Tryz.call210 rfl (k93_ _ _ _ _ _ r6 _ _ _ _ _ (St.headP hF17) ho8 (St.ownP hF17) (St.nodupP hF17) ?_ ?_ ?_ ?_) ?_
  iterate 4 first | assumption | rfl | omega
  rintro _ whs18 ⟨r19, L20, rfl, hs18, ho21, hd22⟩
  replace hs18 := St.lendP hF17 hs18
  refine ⟨_, rfl, WL.nil ⟨(hs18.d1.rm L20), WH.dn (retK0 rfl (⟨r19, _, rfl, St.keepP (L1 := L20) ((hs18.fr L20).fb b_s), ho21, ?_⟩))⟩⟩
  · refine hd22.trans ?_; unfold rollUpD; first | (rw [hkr, hrT, hrB]; rfl) | (rw [hk]; rfl)
 have hk : keepD s.dat n = s.dat := by unfold keepD; rw [if_neg (by show ¬ (s.OnAlt = false ∧ s.Top = 0); have h9 := h3; simpa using h9)]
 refine WC.skip (hK2 _ _ (WC.rH (hs1.d1.rm L_s) hs1 (fun _ hs23 => ?_)))
 refine WH.rn [0, 1, 2, 3, 5, 6, 7, 9] (hs23.d1.rm L_s) [] rfl rfl (WH.all [4, 8] (by kernel_rfl) rfl (WHs.cons (i := 4) rfl ?_ (WHs.cons (i := 8) rfl ?_ WHs.nil)))
 ·refine WL.r 1 hs23 [0] rfl (WL.nil ⟨(hs23.d1.rm L_s), WH.o1 8 rfl (WL.r 1 hs23 [0] rfl (WL.nil ⟨(hs23.d1.rm L_s), WH.o1 10 rfl ?_⟩))⟩)
  have hF24 := ((hs23.fr L_s).fb b_s)
  refine WL.cl Tryz.call210 rfl (k93_ _ _ _ _ _ s _ _ _ _ _ (St.headP hF24) o_s (St.ownP hF24) (St.nodupP hF24) ?_ ?_ ?_ ?_) ?_
  iterate 4 first | assumption | rfl | omega
  rintro _ whs25 ⟨r26, L27, rfl, hs25, ho28, hd29⟩
  replace hs25 := St.lendP hF24 hs25
  refine ⟨_, rfl, WL.nil ⟨(hs25.d1.rm L27), WH.dn (retK0 rfl (⟨r26, _, rfl, St.keepP (L1 := L27) ((hs25.fr L27).fb b_s), ho28, ?_⟩))⟩⟩
  · refine hd29.trans ?_; unfold rollUpD; first | (rw [hkr, hrT, hrB]; rfl) | (rw [hk]; rfl)
 refine WL.r 1 hs23 [0] rfl (WL.nil ⟨(hs23.d1.rm L_s), WH.o1 4 rfl (WL.r 1 hs23 [0] rfl (WL.nil ⟨(hs23.d1.rm L_s), WH.o1 10 rfl ?_⟩))⟩)
 have hF30 := ((hs23.fr L_s).fb b_s)
 refine WL.cl Tryz.call210 rfl (k93_ _ _ _ _ _ s _ _ _ _ _ (St.headP hF30) o_s (St.ownP hF30) (St.nodupP hF30) ?_ ?_ ?_ ?_) ?_
 iterate 4 first | assumption | rfl | omega
 rintro _ whs31 ⟨r32, L33, rfl, hs31, ho34, hd35⟩
 replace hs31 := St.lendP hF30 hs31
 refine ⟨_, rfl, WL.nil ⟨(hs31.d1.rm L33), WH.dn (retK0 rfl (⟨r32, _, rfl, St.keepP (L1 := L33) ((hs31.fr L33).fb b_s), ho34, ?_⟩))⟩⟩
 · refine hd35.trans ?_; unfold rollUpD; first | (rw [hkr, hrT, hrB]; rfl) | (rw [hk]; rfl)
theorem k95_ (u_0 u_1 u_2 u_3 : Value) (b_s : Nat) (s : ScrR) (L_s : Hp) (w : World) (hb_s : w.heap[b_s]? = some (oS u_0 u_1 u_2 u_3 s)) (o_s : ownScrR s L_s) (h_s : Hh w L_s) (hd_ : (b_s :: L_s.map (·.1)).Nodup) (hf : ScrFine s.dat) (hsm : smScr 1048576 s.dat) :
    Calls Tryz.prog 151 #[.pointer (some ⟨b_s, 4, none⟩)] w fun e w' => ∃ r L1, e = .returned (.tuple #[]) ∧ St w (b_s :: L_s.map (·.1)) ([(b_s, oS u_0 u_1 u_2 u_3 r)] ++ L1) w' ∧ ownScrR r L1 ∧ r.dat = downD s.dat := by
 have hsmB : smScr 549755813888 s.dat := by first | assumption | exact smScr_mono hsm (by decide)
 have hok9 := hf.ok
 obtain ⟨hb1, hb2, hb3, hb4, hb5, hb6⟩ := scrOk_bnd hok9
 obtain ⟨hm, hma⟩ := scrOk_main hok9
 simp only [ScrR.dat, GridR.dat, List.length_map] at hb1 hb2 hb3 hb4 hb5 hb6
 have hgs0 : gridOk (shownD s.dat) = true := hf.shown.1
 have hts0 : 0 ≤ s.Top ∧ s.Top ≤ s.Bot ∧ s.Bot < (shownD s.dat).H := by rw [hf.shown.2.2]; exact ⟨hf.reg.1.1, hf.reg.1.2, hf.reg.2.1⟩
 refine enter 35 Tryz.func151 rfl Tryz.ntmps151 rfl rfl ?_
 have hs1 := St.takeP w b_s _ L_s hb_s h_s hd_
 refine WC.seq (fun K2 hK2 => WC.block (WC.q1 hs1 [0, 0] rfl (fun _ hs3 => ?_)))
 refine WC.cq rfl (fun h4 qh4 => ?_) (fun h4 qh4 => ?_)
 ·have e1 : s.dat.Y = s.dat.Bot := by show s.Y = s.Bot; have h9 := h4; simpa using h9
  refine WC.region (WL.r 1 hs3 [] rfl ?_)
  have hF5 := ((hs3.fr L_s).fb b_s)
  refine WL.cl Tryz.call209 rfl (k94_ _ _ _ _ _ s _ _ _ (St.headP hF5) o_s (St.ownP hF5) (St.nodupP hF5) ?_ ?_ ?_) ?_
  iterate 3 first | assumption | rfl | omega
  rintro _ whs6 ⟨r7, L8, rfl, hs6, ho9, hd10⟩
  replace hs6 := St.lendP hF5 hs6
  refine ⟨_, rfl, ?_⟩
  have hd3 := hd10
  refine WL.nil (hK2 _ _ (WC.region (WL.r 3 hs6 [] rfl (WL.st tbk hs6 0 rfl rfl (fun _ hs11 => WL.nil (retK0 rfl ?_))))))
  obtain ⟨L12, L13, L14, L15, hs20, ho16, ho17, ho18, ho19⟩ := ownScrR.op hs11 ho9
  have hs21 := (hs20.fb b_s)
  obtain ⟨L23, hs22, ho24⟩ := ownScrR.fl hs21 ho16 ho17 ho18 ho19
  have hs25 := (hs22.fb b_s)
  refine ownScrR.retp4 rfl ((hs25.fr L23).fb b_s) ho24 ?_
  · unfold downD; first | (rw [if_pos e1, ← hd3]; rfl) | (rw [if_neg e1, if_pos e2]; rfl) | (rw [if_neg e1, if_neg e2]; rfl)
 have e1 : ¬ s.dat.Y = s.dat.Bot := by show ¬ s.Y = s.Bot; have h9 := h4; simpa using h9
 refine WC.q1 hs3 [0, 0] rfl (fun _ hs26 => ?_)
 refine WC.cq rfl (fun h27 qh27 => ?_) (fun h27 qh27 => ?_)
 ·have e2 : s.dat.Y < s.dat.H - 1 := by show s.Y < s.H - 1; have h9 := h27; simpa using h9
  refine WC.region (WL.r 7 hs26 [0] rfl (WL.st tbk hs26 0 rfl rfl (fun _ hs28 => WL.nil (hK2 _ _ (WC.region (WL.r 3 hs28 [] rfl (WL.st tbk hs28 0 rfl rfl (fun _ hs29 => ?_))))))))
  refine WL.nil (retK0 rfl ?_)
  obtain ⟨L30, L31, L32, L33, hs38, ho34, ho35, ho36, ho37⟩ := ownScrR.op hs29 o_s
  have hs39 := (hs38.fb b_s)
  obtain ⟨L41, hs40, ho42⟩ := ownScrR.fl hs39 ho34 ho35 ho36 ho37
  have hs43 := (hs40.fb b_s)
  refine ownScrR.retp4 rfl ((hs43.fr L41).fb b_s) ho42 ?_
  · unfold downD; first | (rw [if_pos e1, ← hd3]; rfl) | (rw [if_neg e1, if_pos e2]; rfl) | (rw [if_neg e1, if_neg e2]; rfl)
 have e2 : ¬ s.dat.Y < s.dat.H - 1 := by show ¬ s.Y < s.H - 1; have h9 := h27; simpa using h9
 refine WC.skip (hK2 _ _ (WC.region (WL.r 3 hs26 [] rfl (WL.st tbk hs26 0 rfl rfl (fun _ hs44 => WL.nil (retK0 rfl ?_))))))
 obtain ⟨L45, L46, L47, L48, hs53, ho49, ho50, ho51, ho52⟩ := ownScrR.op hs44 o_s
 have hs54 := (hs53.fb b_s)
 obtain ⟨L56, hs55, ho57⟩ := ownScrR.fl hs54 ho49 ho50 ho51 ho52
 have hs58 := (hs55.fb b_s)
 refine ownScrR.retp4 rfl ((hs58.fr L56).fb b_s) ho57 ?_
 · unfold downD; first | (rw [if_pos e1, ← hd3]; rfl) | (rw [if_neg e1, if_pos e2]; rfl) | (rw [if_neg e1, if_neg e2]; rfl)
theorem k96_ (u_0 u_1 u_2 u_3 : Value) (b_s : Nat) (s : ScrR) (L_s : Hp) (w : World) (hb_s : w.heap[b_s]? = some (oS u_0 u_1 u_2 u_3 s)) (o_s : ownScrR s L_s) (h_s : Hh w L_s) (hd_ : (b_s :: L_s.map (·.1)).Nodup) (hf : ScrFine s.dat) (hsm : smScr 1048576 s.dat) :
    Calls Tryz.prog 152 #[.pointer (some ⟨b_s, 4, none⟩)] w fun e w' => ∃ r L1, e = .returned (.tuple #[]) ∧ St w (b_s :: L_s.map (·.1)) ([(b_s, oS u_0 u_1 u_2 u_3 r)] ++ L1) w' ∧ ownScrR r L1 ∧ r.dat = upD s.dat := by
 have hsmB : smScr 549755813888 s.dat := by first | assumption | exact smScr_mono hsm (by decide)
 have hok9 := hf.ok
 obtain ⟨hb1, hb2, hb3, hb4, hb5, hb6⟩ := scrOk_bnd hok9
 obtain ⟨hm, hma⟩ := scrOk_main hok9
 simp only [ScrR.dat, GridR.dat, List.length_map] at hb1 hb2 hb3 hb4 hb5 hb6
 have hgs0 : gridOk (shownD s.dat) = true := hf.shown.1
 have hts0 : 0 ≤ s.Top ∧ s.Top ≤ s.Bot ∧ s.Bot < (shownD s.dat).H := by rw [hf.shown.2.2]; exact ⟨hf.reg.1.1, hf.reg.1.2, hf.reg.2.1⟩
 refine enter 38 Tryz.func152 rfl Tryz.ntmps152 rfl rfl ?_
 have hs1 := St.takeP w b_s _ L_s hb_s h_s hd_
 refine WC.seq (fun K2 hK2 => WC.block (WC.q1 hs1 [0, 0] rfl (fun _ hs3 => ?_)))
 refine WC.cq rfl (fun h4 qh4 => ?_) (fun h4 qh4 => ?_)
 ·have e1 : s.dat.Y = s.dat.Top := by show s.Y = s.Top; have h9 := h4; simpa using h9
  refine WC.rH (hs3.d1.rm L_s) hs3 (fun _ hs5 => ?_)
  refine WH.rn [0, 1, 2, 3, 5, 6, 7] (hs5.d1.rm L_s) [] rfl rfl (WH.all [4, 8] (by kernel_rfl) rfl (WHs.cons (i := 4) rfl ?_ (WHs.cons (i := 8) rfl ?_ WHs.nil)))
  ·refine WL.r 1 hs5 [0] rfl (WL.nil ⟨(hs5.d1.rm L_s), WH.o1 8 rfl (WL.r 1 hs5 [0] rfl (WL.nil ⟨(hs5.d1.rm L_s), WH.o1 9 rfl ?_⟩))⟩)
   have hF6 := ((hs5.fr L_s).fb b_s)
   refine WL.cl Tryz.call210 rfl (k93_ _ _ _ _ _ s _ _ _ _ _ (St.headP hF6) o_s (St.ownP hF6) (St.nodupP hF6) ?_ ?_ ?_ ?_) ?_
   iterate 4 first | assumption | rfl | omega
   rintro _ whs7 ⟨r8, L9, rfl, hs7, ho10, hd11⟩
   replace hs7 := St.lendP hF6 hs7
   refine ⟨_, rfl, ?_⟩
   have hd3 := hd11
   refine WL.nil ⟨(hs7.d1.rm L9), WH.dn (hK2 _ _ (WC.region (WL.r 3 hs7 [] rfl (WL.st tbk hs7 0 rfl rfl (fun _ hs12 => WL.nil (retK0 rfl ?_))))))⟩
   obtain ⟨L13, L14, L15, L16, hs21, ho17, ho18, ho19, ho20⟩ := ownScrR.op hs12 ho10
   have hs22 := (hs21.fb b_s)
   obtain ⟨L24, hs23, ho25⟩ := ownScrR.fl hs22 ho17 ho18 ho19 ho20
   have hs26 := (hs23.fb b_s)
   refine ownScrR.retp4 rfl ((hs26.fr L24).fb b_s) ho25 ?_
   · unfold upD; first | (rw [if_pos e1]; show _ = wrapD (rollD s.dat s.Top s.Bot (-1)) false; refine Eq.trans ?_ (congrArg (fun d => wrapD d false) hd3); rfl) | (rw [if_neg e1, if_pos e2]; rfl) | (rw [if_neg e1, if_neg e2]; rfl)
  refine WL.r 1 hs5 [0] rfl (WL.nil ⟨(hs5.d1.rm L_s), WH.o1 4 rfl (WL.r 1 hs5 [0] rfl (WL.nil ⟨(hs5.d1.rm L_s), WH.o1 9 rfl ?_⟩))⟩)
  have hF27 := ((hs5.fr L_s).fb b_s)
  refine WL.cl Tryz.call210 rfl (k93_ _ _ _ _ _ s _ _ _ _ _ (St.headP hF27) o_s (St.ownP hF27) (St.nodupP hF27) ?_ ?_ ?_ ?_) ?_
  iterate 4 first | assumption | rfl | omega
  rintro _ whs28 ⟨r29, L30, rfl, hs28, ho31, hd32⟩
  replace hs28 := St.lendP hF27 hs28
  refine ⟨_, rfl, ?_⟩
  have hd3 := hd32
  refine WL.nil ⟨(hs28.d1.rm L30), WH.dn (hK2 _ _ (WC.region (WL.r 3 hs28 [] rfl (WL.st tbk hs28 0 rfl rfl (fun _ hs33 => WL.nil (retK0 rfl ?_))))))⟩
  obtain ⟨L34, L35, L36, L37, hs42, ho38, ho39, ho40, ho41⟩ := ownScrR.op hs33 ho31
  have hs43 := (hs42.fb b_s)
  obtain ⟨L45, hs44, ho46⟩ := ownScrR.fl hs43 ho38 ho39 ho40 ho41
  have hs47 := (hs44.fb b_s)
  refine ownScrR.retp4 rfl ((hs47.fr L45).fb b_s) ho46 ?_
  · unfold upD; first | (rw [if_pos e1]; show _ = wrapD (rollD s.dat s.Top s.Bot (-1)) false; refine Eq.trans ?_ (congrArg (fun d => wrapD d false) hd3); rfl) | (rw [if_neg e1, if_pos e2]; rfl) | (rw [if_neg e1, if_neg e2]; rfl)
 have e1 : ¬ s.dat.Y = s.dat.Top := by show ¬ s.Y = s.Top; have h9 := h4; simpa using h9
 refine WC.r1 hs3 [0] rfl (WC.cq rfl (fun h48 qh48 => ?_) (fun h48 qh48 => ?_))
 ·have e2 : s.dat.Y > 0 := by show s.Y > 0; have h9 := h48; simpa using h9
  refine WC.region (WL.r 7 hs3 [0] rfl (WL.st tbk hs3 0 rfl rfl (fun _ hs49 => WL.nil (hK2 _ _ (WC.region (WL.r 3 hs49 [] rfl (WL.st tbk hs49 0 rfl rfl (fun _ hs50 => ?_))))))))
  refine WL.nil (retK0 rfl ?_)
  obtain ⟨L51, L52, L53, L54, hs59, ho55, ho56, ho57, ho58⟩ := ownScrR.op hs50 o_s
  have hs60 := (hs59.fb b_s)
  obtain ⟨L62, hs61, ho63⟩ := ownScrR.fl hs60 ho55 ho56 ho57 ho58
  have hs64 := (hs61.fb b_s)
  refine ownScrR.retp4 rfl ((hs64.fr L62).fb b_s) ho63 ?_
  · unfold upD; first | (rw [if_pos e1]; show _ = wrapD (rollD s.dat s.Top s.Bot (-1)) false; refine Eq.trans ?_ (congrArg (fun d => wrapD d false) hd3); rfl) | (rw [if_neg e1, if_pos e2]; rfl) | (rw [if_neg e1, if_neg e2]; rfl)
 have e2 : ¬ s.dat.Y > 0 := by show ¬ s.Y > 0; have h9 := h48; simpa using h9
 refine WC.skip (hK2 _ _ (WC.region (WL.r 3 hs3 [] rfl (WL.st tbk hs3 0 rfl rfl (fun _ hs65 => WL.nil (retK0 rfl ?_))))))
 obtain ⟨L66, L67, L68, L69, hs74, ho70, ho71, ho72, ho73⟩ := ownScrR.op hs65 o_s
 have hs75 := (hs74.fb b_s)
 obtain ⟨L77, hs76, ho78⟩ := ownScrR.fl hs75 ho70 ho71 ho72 ho73
 have hs79 := (hs76.fb b_s)
 refine ownScrR.retp4 rfl ((hs79.fr L77).fb b_s) ho78 ?_
 · unfold upD; first | (rw [if_pos e1]; show _ = wrapD (rollD s.dat s.Top s.Bot (-1)) false; refine Eq.trans ?_ (congrArg (fun d => wrapD d false) hd3); rfl) | (rw [if_neg e1, if_pos e2]; rfl) | (rw [if_neg e1, if_neg e2]; rfl)
theorem k97_ (u_0 u_1 u_2 u_3 : Value) (b_s : Nat) (s : ScrR) (L_s : Hp) (w : World) (hb_s : w.heap[b_s]? = some (oS u_0 u_1 u_2 u_3 s)) (o_s : ownScrR s L_s) (h_s : Hh w L_s) (hd_ : (b_s :: L_s.map (·.1)).Nodup) (hsm : smScr 549755813888 s.dat) :
    Calls Tryz.prog 153 #[.pointer (some ⟨b_s, 4, none⟩)] w fun e w' => ∃ r L1, e = .returned (.tuple #[]) ∧ St w (b_s :: L_s.map (·.1)) ([(b_s, oS u_0 u_1 u_2 u_3 r)] ++ L1) w' ∧ ownScrR r L1 ∧ r.dat = saveD s.dat := by
 refine enter 23 Tryz.func153 rfl Tryz.ntmps153 rfl rfl ?_
 have hs1 := St.takeP w b_s _ L_s hb_s h_s hd_
 refine WC.rH hs1.d1 hs1 (fun _ hs2 => ?_)
 refine WH.rn [0, 1, 2, 3, 4, 5, 7, 8, 9, 11, 12, 13] hs2.d1 [] rfl rfl (WH.all [6, 10, 14] (by kernel_rfl) rfl (WHs.cons (i := 6) rfl ?_ (WHs.cons (i := 10) rfl ?_ (WHs.cons (i := 14) rfl ?_ WHs.nil))))
 ·refine WL.r 1 hs2 [0] rfl (WL.nil ⟨hs2.d1, WH.all [10, 14] (by kernel_rfl) rfl (WHs.cons (i := 10) rfl ?_ (WHs.cons (i := 14) rfl ?_ WHs.nil))⟩)
  ·refine WL.r 1 hs2 [0] rfl (WL.nil ⟨hs2.d1, WH.o1 14 rfl (WL.r 1 hs2 [0] rfl (WL.nil ⟨hs2.d1, WH.rn [15, 16] hs2.d1 [] rfl rfl (WH.o1 17 rfl (WL.st tbk hs2 0 rfl rfl (fun _ hs3 => ?_)))⟩))⟩)
   refine WL.nil ⟨hs3.d1, WH.rn [18, 19] hs3.d1 [] rfl rfl (WH.o1 20 rfl (WL.st tbk hs3 0 rfl rfl (fun _ hs4 => WL.nil ⟨hs4.d1, WH.rn [21, 22] hs4.d1 [] rfl rfl (WH.o1 23 rfl (WL.st tbk hs4 0 rfl rfl (fun _ hs5 => ?_)))⟩)))⟩
   refine WL.nil ⟨hs5.d1, WH.dn (retK0 rfl ?_)⟩
   obtain ⟨L6, L7, L8, L9, hs14, ho10, ho11, ho12, ho13⟩ := ownScrR.op hs5 o_s
   have hs15 := (hs14.fb b_s)
   obtain ⟨L17, hs16, ho18⟩ := ownScrR.fl hs15 ho10 ho11 ho12 ho13
   have hs19 := (hs16.fb b_s)
   refine ownScrR.retp4 rfl ((hs19.fr L17).fb b_s) ho18 ?_
   · rfl
  refine WL.r 1 hs2 [0] rfl (WL.nil ⟨hs2.d1, WH.o1 10 rfl (WL.r 1 hs2 [0] rfl (WL.nil ⟨hs2.d1, WH.rn [15, 16] hs2.d1 [] rfl rfl (WH.o1 17 rfl (WL.st tbk hs2 0 rfl rfl (fun _ hs20 => ?_)))⟩))⟩)
  refine WL.nil ⟨hs20.d1, WH.rn [18, 19] hs20.d1 [] rfl rfl (WH.o1 20 rfl (WL.st tbk hs20 0 rfl rfl (fun _ hs21 => WL.nil ⟨hs21.d1, WH.rn [21, 22] hs21.d1 [] rfl rfl (WH.o1 23 rfl (WL.st tbk hs21 0 rfl rfl (fun _ hs22 => ?_)))⟩)))⟩
  refine WL.nil ⟨hs22.d1, WH.dn (retK0 rfl ?_)⟩
  obtain ⟨L23, L24, L25, L26, hs31, ho27, ho28, ho29, ho30⟩ := ownScrR.op hs22 o_s
  have hs32 := (hs31.fb b_s)
  obtain ⟨L34, hs33, ho35⟩ := ownScrR.fl hs32 ho27 ho28 ho29 ho30
  have hs36 := (hs33.fb b_s)
  refine ownScrR.retp4 rfl ((hs36.fr L34).fb b_s) ho35 ?_
  · rfl
 ·refine WL.r 1 hs2 [0] rfl (WL.nil ⟨hs2.d1, WH.all [6, 14] (by kernel_rfl) rfl (WHs.cons (i := 6) rfl ?_ (WHs.cons (i := 14) rfl ?_ WHs.nil))⟩)
  ·refine WL.r 1 hs2 [0] rfl (WL.nil ⟨hs2.d1, WH.o1 14 rfl (WL.r 1 hs2 [0] rfl (WL.nil ⟨hs2.d1, WH.rn [15, 16] hs2.d1 [] rfl rfl (WH.o1 17 rfl (WL.st tbk hs2 0 rfl rfl (fun _ hs37 => ?_)))⟩))⟩)
   refine WL.nil ⟨hs37.d1, WH.rn [18, 19] hs37.d1 [] rfl rfl (WH.o1 20 rfl (WL.st tbk hs37 0 rfl rfl (fun _ hs38 => WL.nil ⟨hs38.d1, WH.rn [21, 22] hs38.d1 [] rfl rfl (WH.o1 23 rfl (WL.st tbk hs38 0 rfl rfl (fun _ hs39 => ?_)))⟩)))⟩
   refine WL.nil ⟨hs39.d1, WH.dn (retK0 rfl ?_)⟩
   obtain ⟨L40, L41, L42, L43, hs48, ho44, ho45, ho46, ho47⟩ := ownScrR.op hs39 o_s
   have hs49 := (hs48.fb b_s)
   obtain ⟨L51, hs50, ho52⟩ := ownScrR.fl hs49 ho44 ho45 ho46 ho47
   have hs53 := (hs50.fb b_s)
   refine ownScrR.retp4 rfl ((hs53.fr L51).fb b_s) ho52 ?_
   · rfl
  refine WL.r 1 hs2 [0] rfl (WL.nil ⟨hs2.d1, WH.o1 6 rfl (WL.r 1 hs2 [0] rfl (WL.nil ⟨hs2.d1, WH.rn [15, 16] hs2.d1 [] rfl rfl (WH.o1 17 rfl (WL.st tbk hs2 0 rfl rfl (fun _ hs54 => ?_)))⟩))⟩)
  refine WL.nil ⟨hs54.d1, WH.rn [18, 19] hs54.d1 [] rfl rfl (WH.o1 20 rfl (WL.st tbk hs54 0 rfl rfl (fun _ hs55 => WL.nil ⟨hs55.d1, WH.rn [21, 22] hs55.d1 [] rfl rfl (WH.o1 23 rfl (WL.st tbk hs55 0 rfl rfl (fun _ hs56 => ?_)))⟩)))⟩
  refine WL.nil ⟨hs56.d1, WH.dn (retK0 rfl ?_)⟩
  obtain ⟨L57, L58, L59, L60, hs65, ho61, ho62, ho63, ho64⟩ := ownScrR.op hs56 o_s
  have hs66 := (hs65.fb b_s)
  obtain ⟨L68, hs67, ho69⟩ := ownScrR.fl hs66 ho61 ho62 ho63 ho64
  have hs70 := (hs67.fb b_s)
  refine ownScrR.retp4 rfl ((hs70.fr L68).fb b_s) ho69 ?_
  · rfl
 refine WL.r 1 hs2 [0] rfl (WL.nil ⟨hs2.d1, WH.all [6, 10] (by kernel_rfl) rfl (WHs.cons (i := 6) rfl ?_ (WHs.cons (i := 10) rfl ?_ WHs.nil))⟩)
 ·refine WL.r 1 hs2 [0] rfl (WL.nil ⟨hs2.d1, WH.o1 10 rfl (WL.r 1 hs2 [0] rfl (WL.nil ⟨hs2.d1, WH.rn [15, 16] hs2.d1 [] rfl rfl (WH.o1 17 rfl (WL.st tbk hs2 0 rfl rfl (fun _ hs71 => ?_)))⟩))⟩)
  refine WL.nil ⟨hs71.d1, WH.rn [18, 19] hs71.d1 [] rfl rfl (WH.o1 20 rfl (WL.st tbk hs71 0 rfl rfl (fun _ hs72 => WL.nil ⟨hs72.d1, WH.rn [21, 22] hs72.d1 [] rfl rfl (WH.o1 23 rfl (WL.st tbk hs72 0 rfl rfl (fun _ hs73 => ?_)))⟩)))⟩
  refine WL.nil ⟨hs73.d1, WH.dn (retK0 rfl ?_)⟩
  obtain ⟨L74, L75, L76, L77, hs82, ho78, ho79, ho80, ho81⟩ := ownScrR.op hs73 o_s
  have hs83 := (hs82.fb b_s)
  obtain ⟨L85, hs84, ho86⟩ := ownScrR.fl hs83 ho78 ho79 ho80 ho81
  have hs87 := (hs84.fb b_s)
  refine ownScrR.retp4 rfl ((hs87.fr L85).fb b_s) ho86 ?_
  · rfl
 refine WL.r 1 hs2 [0] rfl (WL.nil ⟨hs2.d1, WH.o1 6 rfl (WL.r 1 hs2 [0] rfl (WL.nil ⟨hs2.d1, WH.rn [15, 16] hs2.d1 [] rfl rfl (WH.o1 17 rfl (WL.st tbk hs2 0 rfl rfl (fun _ hs88 => ?_)))⟩))⟩)
 refine WL.nil ⟨hs88.d1, WH.rn [18, 19] hs88.d1 [] rfl rfl (WH.o1 20 rfl (WL.st tbk hs88 0 rfl rfl (fun _ hs89 => WL.nil ⟨hs89.d1, WH.rn [21, 22] hs89.d1 [] rfl rfl (WH.o1 23 rfl (WL.st tbk hs89 0 rfl rfl (fun _ hs90 => ?_)))⟩)))⟩
 refine WL.nil ⟨hs90.d1, WH.dn (retK0 rfl ?_)⟩
 obtain ⟨L91, L92, L93, L94, hs99, ho95, ho96, ho97, ho98⟩ := ownScrR.op hs90 o_s
 have hs100 := (hs99.fb b_s)
 obtain ⟨L102, hs101, ho103⟩ := ownScrR.fl hs100 ho95 ho96 ho97 ho98
 have hs104 := (hs101.fb b_s)
 refine ownScrR.retp4 rfl ((hs104.fr L102).fb b_s) ho103 ?_
 · rfl
theorem k98_ (u_0 u_1 u_2 u_3 : Value) (b_s : Nat) (s : ScrR) (L_s : Hp) (w : World) (hb_s : w.heap[b_s]? = some (oS u_0 u_1 u_2 u_3 s)) (o_s : ownScrR s L_s) (h_s : Hh w L_s) (hd_ : (b_s :: L_s.map (·.1)).Nodup) (hsm : smScr 549755813888 s.dat) :
    Calls Tryz.prog 154 #[.pointer (some ⟨b_s, 4, none⟩)] w fun e w' => ∃ r L1, e = .returned (.tuple #[]) ∧ St w (b_s :: L_s.map (·.1)) ([(b_s, oS u_0 u_1 u_2 u_3 r)] ++ L1) w' ∧ ownScrR r L1 ∧ r.dat = backD s.dat := by
 refine enter 26 Tryz.func154 rfl Tryz.ntmps154 rfl rfl ?_
 have hs1 := St.takeP w b_s _ L_s hb_s h_s hd_
 refine WC.rH hs1.d1 hs1 (fun _ hs2 => ?_)
 refine WH.rn [0, 1, 2, 3, 4, 5, 6, 8, 9, 10, 12, 13, 14] hs2.d1 [] rfl rfl (WH.all [7, 11, 15] (by kernel_rfl) rfl (WHs.cons (i := 7) rfl ?_ (WHs.cons (i := 11) rfl ?_ (WHs.cons (i := 15) rfl ?_ WHs.nil))))
 ·refine WL.r 1 hs2 [0] rfl (WL.nil ⟨hs2.d1, WH.all [11, 15] (by kernel_rfl) rfl (WHs.cons (i := 11) rfl ?_ (WHs.cons (i := 15) rfl ?_ WHs.nil))⟩)
  ·refine WL.r 1 hs2 [0] rfl (WL.nil ⟨hs2.d1, WH.o1 15 rfl (WL.r 1 hs2 [0] rfl (WL.nil ⟨hs2.d1, WH.rn [16, 17] hs2.d1 [] rfl rfl (WH.o1 18 rfl (WL.st tbk hs2 0 rfl rfl (fun _ hs3 => ?_)))⟩))⟩)
   refine WL.nil ⟨hs3.d1, WH.rn [19, 20] hs3.d1 [] rfl rfl (WH.o1 21 rfl (WL.st tbk hs3 0 rfl rfl (fun _ hs4 => WL.nil ⟨hs4.d1, WH.rn [22, 23] hs4.d1 [] rfl rfl (WH.o1 24 rfl (WL.st tbk hs4 0 rfl rfl (fun _ hs5 => ?_)))⟩)))⟩
   refine WL.nil ⟨hs5.d1, WH.rn [25, 26] hs5.d1 [] rfl rfl (WH.o1 27 rfl (WL.st tbk hs5 0 rfl rfl (fun _ hs6 => WL.nil ⟨hs6.d1, WH.dn (retK0 rfl ?_)⟩)))⟩
   obtain ⟨L7, L8, L9, L10, hs15, ho11, ho12, ho13, ho14⟩ := ownScrR.op hs6 o_s
   have hs16 := (hs15.fb b_s)
   obtain ⟨L18, hs17, ho19⟩ := ownScrR.fl hs16 ho11 ho12 ho13 ho14
   have hs20 := (hs17.fb b_s)
   refine ownScrR.retp4 rfl ((hs20.fr L18).fb b_s) ho19 ?_
   · rfl
  refine WL.r 1 hs2 [0] rfl (WL.nil ⟨hs2.d1, WH.o1 11 rfl (WL.r 1 hs2 [0] rfl (WL.nil ⟨hs2.d1, WH.rn [16, 17] hs2.d1 [] rfl rfl (WH.o1 18 rfl (WL.st tbk hs2 0 rfl rfl (fun _ hs21 => ?_)))⟩))⟩)
  refine WL.nil ⟨hs21.d1, WH.rn [19, 20] hs21.d1 [] rfl rfl (WH.o1 21 rfl (WL.st tbk hs21 0 rfl rfl (fun _ hs22 => WL.nil ⟨hs22.d1, WH.rn [22, 23] hs22.d1 [] rfl rfl (WH.o1 24 rfl (WL.st tbk hs22 0 rfl rfl (fun _ hs23 => ?_)))⟩)))⟩
  refine WL.nil ⟨hs23.d1, WH.rn [25, 26] hs23.d1 [] rfl rfl (WH.o1 27 rfl (WL.st tbk hs23 0 rfl rfl (fun _ hs24 => WL.nil ⟨hs24.d1, WH.dn (retK0 rfl ?_)⟩)))⟩
  obtain ⟨L25, L26, L27, L28, hs33, ho29, ho30, ho31, ho32⟩ := ownScrR.op hs24 o_s
  have hs34 := (hs33.fb b_s)
  obtain ⟨L36, hs35, ho37⟩ := ownScrR.fl hs34 ho29 ho30 ho31 ho32
  have hs38 := (hs35.fb b_s)
  refine ownScrR.retp4 rfl ((hs38.fr L36).fb b_s) ho37 ?_
  · rfl
 ·refine WL.r 1 hs2 [0] rfl (WL.nil ⟨hs2.d1, WH.all [7, 15] (by kernel_rfl) rfl (WHs.cons (i := 7) rfl ?_ (WHs.cons (i := 15) rfl ?_ WHs.nil))⟩)
  ·refine WL.r 1 hs2 [0] rfl (WL.nil ⟨hs2.d1, WH.o1 15 rfl (WL.r 1 hs2 [0] rfl (WL.nil ⟨hs2.d1, WH.rn [16, 17] hs2.d1 [] rfl rfl (WH.o1 18 rfl (WL.st tbk hs2 0 rfl rfl (fun _ hs39 => ?_)))⟩))⟩)
   refine WL.nil ⟨hs39.d1, WH.rn [19, 20] hs39.d1 [] rfl rfl (WH.o1 21 rfl (WL.st tbk hs39 0 rfl rfl (fun _ hs40 => WL.nil ⟨hs40.d1, WH.rn [22, 23] hs40.d1 [] rfl rfl (WH.o1 24 rfl (WL.st tbk hs40 0 rfl rfl (fun _ hs41 => ?_)))⟩)))⟩
   refine WL.nil ⟨hs41.d1, WH.rn [25, 26] hs41.d1 [] rfl rfl (WH.o1 27 rfl (WL.st tbk hs41 0 rfl rfl (fun _ hs42 => WL.nil ⟨hs42.d1, WH.dn (retK0 rfl ?_)⟩)))⟩
   obtain ⟨L43, L44, L45, L46, hs51, ho47, ho48, ho49, ho50⟩ := ownScrR.op hs42 o_s
   have hs52 := (hs51.fb b_s)
   obtain ⟨L54, hs53, ho55⟩ := ownScrR.fl hs52 ho47 ho48 ho49 ho50
   have hs56 := (hs53.fb b_s)
   refine ownScrR.retp4 rfl ((hs56.fr L54).fb b_s) ho55 ?_
   · rfl
  refine WL.r 1 hs2 [0] rfl (WL.nil ⟨hs2.d1, WH.o1 7 rfl (WL.r 1 hs2 [0] rfl (WL.nil ⟨hs2.d1, WH.rn [16, 17] hs2.d1 [] rfl rfl (WH.o1 18 rfl (WL.st tbk hs2 0 rfl rfl (fun _ hs57 => ?_)))⟩))⟩)
  refine WL.nil ⟨hs57.d1, WH.rn [19, 20] hs57.d1 [] rfl rfl (WH.o1 21 rfl (WL.st tbk hs57 0 rfl rfl (fun _ hs58 => WL.nil ⟨hs58.d1, WH.rn [22, 23] hs58.d1 [] rfl rfl (WH.o1 24 rfl (WL.st tbk hs58 0 rfl rfl (fun _ hs59 => ?_)))⟩)))⟩
  refine WL.nil ⟨hs59.d1, WH.rn [25, 26] hs59.d1 [] rfl rfl (WH.o1 27 rfl (WL.st tbk hs59 0 rfl rfl (fun _ hs60 => WL.nil ⟨hs60.d1, WH.dn (retK0 rfl ?_)⟩)))⟩
  obtain ⟨L61, L62, L63, L64, hs69, ho65, ho66, ho67, ho68⟩ := ownScrR.op hs60 o_s
  have hs70 := (hs69.fb b_s)
  obtain ⟨L72, hs71, ho73⟩ := ownScrR.fl hs70 ho65 ho66 ho67 ho68
  have hs74 := (hs71.fb b_s)
  refine ownScrR.retp4 rfl ((hs74.fr L72).fb b_s) ho73 ?_
  · rfl
 refine WL.r 1 hs2 [0] rfl (WL.nil ⟨hs2.d1, WH.all [7, 11] (by kernel_rfl) rfl (WHs.cons (i := 7) rfl ?_ (WHs.cons (i := 11) rfl ?_ WHs.nil))⟩)
 ·refine WL.r 1 hs2 [0] rfl (WL.nil ⟨hs2.d1, WH.o1 11 rfl (WL.r 1 hs2 [0] rfl (WL.nil ⟨hs2.d1, WH.rn [16, 17] hs2.d1 [] rfl rfl (WH.o1 18 rfl (WL.st tbk hs2 0 rfl rfl (fun _ hs75 => ?_)))⟩))⟩)
  refine WL.nil ⟨hs75.d1, WH.rn [19, 20] hs75.d1 [] rfl rfl (WH.o1 21 rfl (WL.st tbk hs75 0 rfl rfl (fun _ hs76 => WL.nil ⟨hs76.d1, WH.rn [22, 23] hs76.d1 [] rfl rfl (WH.o1 24 rfl (WL.st tbk hs76 0 rfl rfl (fun _ hs77 => ?_)))⟩)))⟩
  refine WL.nil ⟨hs77.d1, WH.rn [25, 26] hs77.d1 [] rfl rfl (WH.o1 27 rfl (WL.st tbk hs77 0 rfl rfl (fun _ hs78 => WL.nil ⟨hs78.d1, WH.dn (retK0 rfl ?_)⟩)))⟩
  obtain ⟨L79, L80, L81, L82, hs87, ho83, ho84, ho85, ho86⟩ := ownScrR.op hs78 o_s
  have hs88 := (hs87.fb b_s)
  obtain ⟨L90, hs89, ho91⟩ := ownScrR.fl hs88 ho83 ho84 ho85 ho86
  have hs92 := (hs89.fb b_s)
  refine ownScrR.retp4 rfl ((hs92.fr L90).fb b_s) ho91 ?_
  · rfl
 refine WL.r 1 hs2 [0] rfl (WL.nil ⟨hs2.d1, WH.o1 7 rfl (WL.r 1 hs2 [0] rfl (WL.nil ⟨hs2.d1, WH.rn [16, 17] hs2.d1 [] rfl rfl (WH.o1 18 rfl (WL.st tbk hs2 0 rfl rfl (fun _ hs93 => ?_)))⟩))⟩)
 refine WL.nil ⟨hs93.d1, WH.rn [19, 20] hs93.d1 [] rfl rfl (WH.o1 21 rfl (WL.st tbk hs93 0 rfl rfl (fun _ hs94 => WL.nil ⟨hs94.d1, WH.rn [22, 23] hs94.d1 [] rfl rfl (WH.o1 24 rfl (WL.st tbk hs94 0 rfl rfl (fun _ hs95 => ?_)))⟩)))⟩
 refine WL.nil ⟨hs95.d1, WH.rn [25, 26] hs95.d1 [] rfl rfl (WH.o1 27 rfl (WL.st tbk hs95 0 rfl rfl (fun _ hs96 => WL.nil ⟨hs96.d1, WH.dn (retK0 rfl ?_)⟩)))⟩
 obtain ⟨L97, L98, L99, L100, hs105, ho101, ho102, ho103, ho104⟩ := ownScrR.op hs96 o_s
 have hs106 := (hs105.fb b_s)
 obtain ⟨L108, hs107, ho109⟩ := ownScrR.fl hs106 ho101 ho102 ho103 ho104
 have hs110 := (hs107.fb b_s)
 refine ownScrR.retp4 rfl ((hs110.fr L108).fb b_s) ho109 ?_
 · rfl
theorem k99_ (s : ScrR) (w : World) (f_s : okScrR 549755813888 w s) :
    Calls Tryz.prog 145 #[.agg (cScr s).toArray] w fun e w' => e = .returned (.agg #[i64 (shownR s).W, i64 (shownR s).H, .slice (shownR s).Cells.A (shownR s).Cells.n (shownR s).Cells.c]) ∧ St w [] [] w' := by
 have nb_s_Main_Cells := f_s.Main.Cells_n
 have nl_s_Main_Cells := f_s.Main.Cells.len
 have nb_s_Alt_Cells := f_s.Alt.Cells_n
 have nl_s_Alt_Cells := f_s.Alt.Cells.len
 have nb_s_Tabs := f_s.Tabs_n
 have nl_s_Tabs := f_s.Tabs.len
 have nb_s_Back := f_s.Back_n
 have nl_s_Back := f_s.Back.sl.len
 refine enter 9 Tryz.func145 rfl Tryz.ntmps145 rfl rfl ?_
 have hs1 := St.init w
 refine WC.sr (WL.bx hs1 rfl (fun b2 _ hs3 => WL.al hs3 Tryz.zeroValue28 rfl rfl (fun b4 _ hs5 => WL.nil (WC.seq (fun K6 hK6 => WC.r1 hs5 [1] rfl ?_)))))
 refine WC.cq rfl (fun h7 qh7 => ?_) (fun h7 qh7 => ?_)
 ·refine WC.sr (WL.r 2 hs5 [1] rfl (WL.st tbk hs5 0 rfl rfl (fun _ hs8 => WL.nil (WC.ret (tkR ?_)))))
  clear hK6
  refine retV1 rfl (resV.cellA tbk hs8 0 rfl rfl rfl rfl) (⟨congrArg Ending.returned ?_, hs8.nil⟩)
  rw [shownR_alt (by have h9 := h7; simpa using h9)]
 refine WC.skip (hK6 _ _ (WC.sr (WL.r 2 hs5 [1] rfl (WL.st tbk hs5 0 rfl rfl (fun _ hs9 => WL.nil (WC.ret (retV1 rfl (resV.cellA tbk hs9 0 rfl rfl rfl rfl) ?_)))))))
 refine ⟨congrArg Ending.returned ?_, hs9.nil⟩
 rw [shownR_main (by have h9 := h7; simpa using h9)]
theorem k100_ (s : ScrR) (L_s : Hp) (g : GridR) (L_g : Hp) (w : World) (o_s : ownScrR s L_s) (h_s : Hh w L_s) (o_g : ownGridR g L_g) (h_g : Hh w L_g) (hd_ : ((L_s ++ L_g).map (·.1)).Nodup) :
    Calls Tryz.prog 143 #[.agg (cScr s).toArray, .agg #[i64 g.W, i64 g.H, .slice g.Cells.A g.Cells.n g.Cells.c]] w fun e w' => ∃ r L1, e = .returned (.agg (cScr r).toArray) ∧ St w ((L_s ++ L_g).map (·.1)) L1 w' ∧ ownScrR r L1 ∧ r.dat = putD s.dat g.dat := by
 refine enter 12 Tryz.func143 rfl Tryz.ntmps143 rfl rfl ?_
 have hs1 := St.takes2 w L_s L_g h_s h_g hd_
 refine WC.sr (WL.bx hs1 rfl (fun b2 _ hs3 => WL.bx hs3 rfl (fun b4 _ hs5 => WL.al hs5 Tryz.zeroValue33 rfl rfl (fun b6 _ hs7 => WL.nil (WC.seq (fun K8 hK8 => WC.r1 hs7 [2] rfl ?_))))))
 refine WC.cq rfl (fun h9 qh9 => ?_) (fun h9 qh9 => ?_)
 ·refine WC.region (WL.r 2 hs7 [1] rfl (WL.st tbk hs7 2 rfl rfl (fun _ hs10 => WL.nil (hK8 _ _ (WC.sr (WL.r 1 hs10 [2] rfl (WL.st tbk hs10 0 rfl rfl (fun _ hs11 => ?_))))))))
  refine WL.nil (WC.ret (retV1 rfl (resV.cellA tbk hs11 0 rfl rfl rfl rfl) ?_))
  obtain ⟨L12, L13, L14, L15, hs20, ho16, ho17, ho18, ho19⟩ := ownScrR.op hs11 o_s
  have hs21 := (((hs20.fb b2).fb b4).fb b6)
  obtain ⟨L23, hs22, ho24⟩ := ownScrR.fl hs21 ho16 o_g ho18 ho19
  have hs25 := (((hs22.fb b2).fb b4).fb b6)
  refine ownScrR.ret rfl (St.keep1 (hs25.fr L23)) ho24 ?_
  · rw [putD, if_pos (show s.dat.OnAlt = true from by show s.OnAlt = true; have h9 := h9; simpa using h9)]; rfl
 refine WC.region (WL.r 2 hs7 [1] rfl (WL.st tbk hs7 2 rfl rfl (fun _ hs26 => WL.nil (hK8 _ _ (WC.sr (WL.r 1 hs26 [2] rfl (WL.st tbk hs26 0 rfl rfl (fun _ hs27 => ?_))))))))
 refine WL.nil (WC.ret (retV1 rfl (resV.cellA tbk hs27 0 rfl rfl rfl rfl) ?_))
 obtain ⟨L28, L29, L30, L31, hs36, ho32, ho33, ho34, ho35⟩ := ownScrR.op hs27 o_s
 have hs37 := (((hs36.fb b2).fb b4).fb b6)
 obtain ⟨L39, hs38, ho40⟩ := ownScrR.fl hs37 o_g ho33 ho34 ho35
 have hs41 := (((hs38.fb b2).fb b4).fb b6)
 refine ownScrR.ret rfl (St.keep1 (hs41.fr L39)) ho40 ?_
 · rw [putD, if_neg (show ¬ s.dat.OnAlt = true from by show ¬ s.OnAlt = true; have h9 := h9; simpa using h9)]; rfl
open Go Go.RowKit Go.Shelf
theorem frozen_of_heap {w : World} {b k : Nat} {cl : List Value} {e : TypeId} {lo hi : Nat} (h : w.heap[b]? = some (.cells cl.toArray e (lo, hi))) (hf : hi ≤ lo ∨ hi ≤ k ∨ k < lo) : w.frozen? ⟨b, k, none⟩ = false := by
 simp only [World.frozen?, h, Bool.and_eq_false_iff, decide_eq_false_iff_not]
 omega
theorem some_of_heap {w : World} {b k : Nat} {cl : List Value} {e : TypeId} {fz : Nat × Nat} (h : w.heap[b]? = some (.cells cl.toArray e fz)) (hk : k < cl.length) : (w.cell? ⟨b, k, none⟩).isSome = true := by
 rw [cell_of_heap (v := cl[k]) h (by simp [hk])]; rfl
theorem St.setCells (P : Program) {w0 w : World} {T : List Nat} {L : Hp} (hst : St w0 T L w) (i : Nat) {b off : Nat} {cl vs : List Value} {e : TypeId} {lo hi : Nat} (hi' : nthL L i = some (b, .cells cl.toArray e (lo, hi))) (h1 : ∀ v, v ∈ vs → v.oneCell' = true) (hlt : off + vs.length ≤ cl.length) (hfz : hi ≤ lo ∨ hi ≤ off ∨ off + vs.length ≤ lo) :
  St w0 T (setL L i (.cells (cl.take off ++ vs ++ cl.drop (off + vs.length)).toArray e (lo, hi))) (w.setCells b off vs) := by
 obtain ⟨w', hr, hs⟩ := hst.stored (P := P) i (off := off) hi' h1 hlt hfz
 have hh := (hst.own _ (nthL_mem hi')).1
 have h2 := run_storeCells_cells (P := P) b off vs 0 w (fun j hj => by rw [Nat.add_zero]; exact some_of_heap hh (by omega)) (fun j hj => by rw [Nat.add_zero]; exact frozen_of_heap hh (by omega)) h1
 rw [hr] at h2
 injection h2 with _ h3
 rw [Nat.add_zero] at h3
 exact h3 ▸ hs
section
variable {α : Type} {P Q R : List α} {x : α}
theorem ins_shift (hR : 1 ≤ R.length) :
  ((P ++ Q ++ R).take (P.length + 1) ++ Q ++ (P ++ Q ++ R).drop (P.length + 1 + Q.length)).take P.length ++ [x] ++ ((P ++ Q ++ R).take (P.length + 1) ++ Q ++ (P ++ Q ++ R).drop (P.length + 1 + Q.length)).drop (P.length + 1) = P ++ [x] ++ Q ++ R.drop 1 := by
 have hQR : ((Q ++ R).take 1).length = 1 := by rw [List.length_take, List.length_append]; omega
 have e1 : (P ++ Q ++ R).take (P.length + 1) = P ++ (Q ++ R).take 1 := by rw [List.append_assoc, List.take_length_add_append]
 have e2 : (P ++ Q ++ R).drop (P.length + 1 + Q.length) = R.drop 1 := by rw [show P.length + 1 + Q.length = (P ++ Q).length + 1 by rw [List.length_append]; omega, List.drop_length_add_append]
 rw [e1, e2]
 have e3 : (P ++ (Q ++ R).take 1 ++ Q ++ R.drop 1).take P.length = P := by rw [List.append_assoc, List.append_assoc]; exact List.take_left
 have e4 : (P ++ (Q ++ R).take 1 ++ Q ++ R.drop 1).drop (P.length + 1) = Q ++ R.drop 1 := by
  rw [List.append_assoc (P ++ _), List.drop_left' (by rw [List.length_append]; omega)]
 rw [e3, e4]
 simp only [List.append_assoc]
theorem ins_new (Z : List α) (hZ : Q.length + 1 ≤ Z.length) :
  (((P ++ Z).take P.length ++ [x] ++ (P ++ Z).drop (P.length + 1)).take (P.length + 1) ++ Q ++ ((P ++ Z).take P.length ++ [x] ++ (P ++ Z).drop (P.length + 1)).drop (P.length + 1 + Q.length)) = P ++ [x] ++ Q ++ Z.drop (Q.length + 1) := by
 have e0 : (P ++ Z).take P.length ++ [x] ++ (P ++ Z).drop (P.length + 1) = (P ++ [x]) ++ Z.drop 1 := by
  rw [List.take_left, List.drop_length_add_append]
 have hp : (P ++ [x]).length = P.length + 1 := by simp
 rw [e0, ← hp, List.take_left, List.drop_length_add_append, List.drop_drop, Nat.add_comm 1]
end
theorem rowsI : ∀ l : List Int, rows encI l = l.map (Value.int .i64)
 | [] => rfl
 | x :: l => by rw [rows_cons, rowsI l]; rfl
section
variable {P : Program} {ρ : Ren} {w : World}
theorem search_rd (L : Lays2.n25 P ρ) {A : Option Addr} {n c : Nat} {s : List Int} {x : Int} (f_s : SlF encI w A n s) (hasc : s.Pairwise (· ≤ ·)) (hn : n ≤ 1048576) :
  Calls P (ρ.f 25) #[.slice A n c, .int .i64 x] w fun e w' => e = .returned (.tuple #[.int .i64 (s.countP (· < x) : Nat), .bool (s.contains x)]) ∧ St w [] [] w' := by
 have hl := f_s.len
 by_cases h0 : n = 0
 ·subst h0
  obtain rfl : s = [] := List.eq_nil_of_length_eq_zero hl
  refine (Any.slices_BinarySearch_int_empty L A c x w).mono ?_
  rintro e w' ⟨rfl, rfl⟩
  exact ⟨rfl, St.init _⟩
 ·have hr := f_s.rd
  have hat : ∀ j, (hj : j < s.length) → (rows encI s)[j]? = some (.int .i64 (s.getD j 0)) := fun j hj => by
   rw [rowsI, List.getElem?_map, List.getElem?_eq_getElem hj, List.getD_eq_getElem?_getD, List.getElem?_eq_getElem hj]
   rfl
  cases A with
  | none => have := hr.some_ (by omega); cases this
  | some a =>
   obtain ⟨b, off, sp⟩ := a
   cases sp with
   | some q =>
    have h1 := hr.cell 0 _ (hat 0 (by omega))
    have e1 : (adr (some ⟨b, off, some q⟩)).add 0 = ⟨b, off, some q⟩ := by unfold adr Addr.add; split <;> simp_all
    rw [e1] at h1
    unfold World.cell? at h1
    split at h1 <;> simp at h1
   | none =>
    refine (Any.slices_BinarySearch_int L b off n c s x w (by omega) (by omega) (fun j hj => ?_) (by rw [List.take_of_length_le (by omega)]; exact hasc)).mono ?_
    ·have h1 := hr.cell j _ (hat j hj)
     rwa [show (adr (some ⟨b, off, none⟩)).add j = ⟨b, off + j, none⟩ from addr_at b off j] at h1
    ·rintro e w' ⟨rfl, q, rfl⟩
     rw [List.take_of_length_le (by omega)]
     exact ⟨rfl, ⟨rfl, rfl, rfl, Nat.le_refl _, fun _ _ _ => rfl, fun _ h => (by cases h), List.nodup_nil⟩⟩
theorem insert_own (L : Lays2.n21 P ρ) {v : Value} {s : List Int} {Ls : Hp} {i b c0 : Nat} {x : Int} (o_s : OwnF encI (ρ.t 3) v s Ls) (h_s : ∀ p, p ∈ Ls → w.heap[p.1]? = some p.2) (hi : i ≤ s.length) (hn : s.length ≤ 1048576) (hb : w.heap[b]? = some (.cells [Value.int .i64 x].toArray (ρ.t 3) (0, 0))) (hne : b ∉ Ls.map (·.1)) :
  Calls P (ρ.f 21) #[v, .int .i64 i, .slice (some ⟨b, 0, none⟩) 1 c0] w fun e w' => ∃ A c L1, e = .returned (.slice A (s.length + 1) c) ∧ St w (Ls.map (·.1)) L1 w' ∧ OwnF encI (ρ.t 3) (.slice A (s.length + 1) c) (s.take i ++ [x] ++ s.drop i) L1 := by
 have hst : St w (Ls.map (·.1)) Ls w := St.take w Ls h_s o_s.keys
 have hl : (s.take i ++ [x] ++ s.drop i).length = s.length + 1 := by simp; omega
 have hvs : ∀ j u, [Value.int .i64 x][j]? = some u → w.cell? ⟨b, 0 + j, none⟩ = some u := fun j u hj => by rw [Nat.zero_add]; exact cell_of_heap hb hj
 have h1v : ∀ u ∈ [Value.int .i64 x], u.oneCell' = true := by intro u hu; rw [List.mem_singleton] at hu; subst hu; rfl
 have hsa : w.shape? b = some (ρ.t 3, 1) := by simp [World.shape?, hb]
 have hfa : w.frozen? ⟨b, 0, none⟩ = false := frozen_of_heap hb (by omega)
 have hfe : w.frozen? ⟨b, 1, none⟩ = false := frozen_of_heap hb (by omega)
 have hml : maxLen = 9223372036854775807 := rfl
 -- the parts
 generalize hP : s.take i = p at hl ⊢
 generalize hQ : s.drop i = q at hl ⊢
 have hpq : s = p ++ q := by rw [← hP, ← hQ, List.take_append_drop]
 have hpl : p.length = i := by rw [← hP, List.length_take]; omega
 have hql : q.length = s.length - i := by rw [← hQ, List.length_drop]
 have rl : ∀ l : List Int, (rows encI l).length = l.length := fun l => by rw [rows_len]; exact Nat.mul_one _
 have hrow : rows encI (p ++ [x] ++ q) = rows encI p ++ [Value.int .i64 x] ++ rows encI q := by rw [rows_append, rows_append]; rfl
 have hrl := rl (p ++ [x] ++ q)
 have hrs : rows encI s = rows encI p ++ rows encI q := by rw [hpq, rows_append]
 have htp : (rows encI p ++ rows encI q).take i = rows encI p := List.take_left' (by rw [rl]; exact hpl)
 have hdp : (rows encI p ++ rows encI q).drop i = rows encI q := List.drop_left' (by rw [rl]; exact hpl)
 have rp := rl p
 have rq := rl q
 have hz : ∀ n, (Builtin.zeroCells (Value.int .i64 0).cells n).toList.length = n := fun n => by rw [Array.length_toList, size_zeroCells]; exact Nat.mul_one _
 -- a block that is ours
 have fin : ∀ (w' : World) (g cap lo hi' : Nat) (pre cl : List Value), St w (Ls.map (·.1)) ([(g, .cells (pre ++ cl).toArray (ρ.t 3) (lo, hi'))]) w' → cl.length = cap → s.length + 1 ≤ cap → cap ≤ maxLen → cl.take (s.length + 1) = rows encI (p ++ [x] ++ q) → (hi' ≤ lo ∨ (pre ++ cl).length ≤ lo) →
   ∃ A c L1, (Ending.returned (.slice (some ⟨g, pre.length, none⟩) (s.length + 1) cap)) = .returned (.slice A (s.length + 1) c) ∧ St w (Ls.map (·.1)) L1 w' ∧ OwnF encI (ρ.t 3) (.slice A (s.length + 1) c) (p ++ [x] ++ q) L1 := by
  intro w' g cap lo hi' pre cl hs h1 h2 h3 h4 h5
  refine ⟨_, _, _, rfl, hs, by rw [rows_len], .inr ⟨g, cap, pre.length, pre, cl, (lo, hi'), by rw [hl], rfl, by rw [hl]; exact h2, h3, by rw [h1]; exact (Nat.mul_one _).symm, ?_, h5, rfl⟩⟩
  rw [hl, ← h4]; exact congrArg (fun k => cl.take k) (Nat.mul_one _)
 have growEnd : ∀ (A : Option Addr) (cap : Nat), i = s.length → s.length ≤ cap → cap < s.length + 1 → (A = none → s.length = 0) → (∀ a, A = some a → ∀ j u, (rows encI p ++ rows encI q)[j]? = some u → w.cell? (a.add j) = some u) →
   Calls P (ρ.f 21) #[.slice A s.length cap, .int .i64 i, .slice (some ⟨b, 0, none⟩) 1 c0] w fun e w' => ∃ A c L1, e = .returned (.slice A (s.length + 1) c) ∧ St w (Ls.map (·.1)) L1 w' ∧ OwnF encI (ρ.t 3) (.slice A (s.length + 1) c) (p ++ [x] ++ q) L1 := by
  intro A cap e1 h1 h2 h3 h4
  rw [show ((i : Nat) : Int) = ((s.length : Nat) : Int) by rw [e1]]
  refine (Any2.slices_Insert_int_end_grow L A s.length cap b 0 1 c0 (rows encI p ++ rows encI q) [.int .i64 x] w (by omega) h1 h2 (by omega) (by rw [List.length_append]; omega) rfl h3 h4 hvs h1v).mono ?_
  rintro e w' ⟨rfl, rfl⟩
  have hq0 : q = [] := List.eq_nil_of_length_eq_zero (by omega)
  have hge := grownCap_ge w (s.length + 1) cap (ρ.t 3)
  have hcm : grownCap w (s.length + 1) cap (ρ.t 3) ≤ maxLen := grownCap_le_maxLen w (s.length + 1) cap (ρ.t 3) (by omega)
  have ec : ((rows encI p ++ rows encI q ++ [Value.int .i64 x]).toArray ++ Builtin.zeroCells (Value.int .i64 0).cells (grownCap w (s.length + 1) cap (ρ.t 3) - (s.length + 1))) = ([] ++ (rows encI (p ++ [x] ++ q) ++ (Builtin.zeroCells (Value.int .i64 0).cells (grownCap w (s.length + 1) cap (ρ.t 3) - (s.length + 1))).toList)).toArray := by
   rw [hrow, hq0]; apply Array.toList_inj.1; simp [rows_nil]
  rw [ec]
  refine fin _ w.heap.size _ 0 0 [] (rows encI (p ++ [x] ++ q) ++ (Builtin.zeroCells (Value.int .i64 0).cells (grownCap w (s.length + 1) cap (ρ.t 3) - (s.length + 1))).toList) ?_ ?_ hge hcm (List.take_left' (by omega)) (.inl (Nat.le_refl _))
  ·exact (hst.drew.alloc _).drop (List.Sublist.cons_cons _ (List.nil_sublist _))
  ·rw [List.length_append, hrl, hl, hz]
   omega
 rcases o_s.2 with ⟨⟨A, rfl⟩, h0, rfl⟩ | ⟨g, cap, o, pre, cl, ⟨lo, hi'⟩, rfl, rfl, hnc, hcm, hcl, htk, hfz, rfl⟩
 ·have h2 := growEnd A 0 (by omega) (by omega) (by omega) (fun _ => h0) (fun a _ j u hj => by
   rw [List.getElem?_eq_none (by rw [List.length_append]; omega)] at hj; cases hj)
  rwa [h0] at h2 ⊢
 ·have hh := h_s _ List.mem_cons_self
  simp only at hh hfz
  have hcl' : cl.length = cap := by rw [hcl]; exact Nat.mul_one _
  have htk' : cl.take s.length = rows encI p ++ rows encI q := by rw [← hrs, ← htk]; exact congrArg (fun k => cl.take k) (Nat.mul_one _).symm
  have hpc : (pre ++ cl).length = pre.length + cl.length := List.length_append
  have hcs : ∀ j u, (rows encI p ++ rows encI q)[j]? = some u → w.cell? ⟨g, pre.length + j, none⟩ = some u := fun j u hj => by
   refine cell_of_heap hh ?_
   rw [List.getElem?_append_right (by omega), show pre.length + j - pre.length = j by omega, ← hj, ← htk', List.getElem?_take]
   have hj2 := (List.getElem?_eq_some_iff.1 hj).1
   rw [List.length_append] at hj2
   rw [if_pos (by omega)]
  have hgb : b ≠ g := fun h9 => hne (by rw [h9]; exact List.mem_cons_self)
  by_cases hroom : s.length + 1 ≤ cap
  ·obtain ⟨r, hr⟩ : ∃ r, cl = rows encI p ++ rows encI q ++ r := ⟨cl.drop s.length, by rw [← htk', List.take_append_drop]⟩
   have hrlen : r.length = cap - s.length := by
    have h9 := congrArg List.length hr
    rw [List.length_append, List.length_append] at h9
    omega
   by_cases he : i = s.length
   ·rw [show ((i : Nat) : Int) = ((s.length : Nat) : Int) by rw [he]]
    refine (Any2.slices_Insert_int_end_room L g pre.length s.length cap b 0 1 c0 [.int .i64 x] w (by omega) hroom (by omega) rfl (fun j hj => some_of_heap hh (by omega)) (fun j hj => frozen_of_heap hh (by omega)) hvs h1v).mono ?_
    rintro e w' ⟨rfl, rfl⟩
    have h2 := St.setCells P hst 0 (off := pre.length + s.length) (vs := [.int .i64 x]) rfl h1v (by simp only [List.length_singleton]; omega) (by simp only [List.length_singleton]; omega)
    rw [splice_pre] at h2
    have hq0 : q = [] := List.eq_nil_of_length_eq_zero (by omega)
    refine fin _ g cap lo hi' pre _ h2 ?_ hroom hcm ?_ ?_
    ·simp only [List.length_append, List.length_take, List.length_drop, List.length_singleton]; omega
    ·rw [htk', hrow, hq0, rows_nil, List.append_nil, List.append_nil]
     exact List.take_left' (by rw [List.length_append, rl, List.length_singleton, hpl, he])
    ·simp only [List.length_append, List.length_take, List.length_drop, List.length_singleton]; omega
   ·refine (Any2.slices_Insert_int_shift L g pre.length s.length cap i b 0 1 c0 (rows encI p ++ rows encI q) [.int .i64 x] w (by omega) (by omega) hroom (by omega) hgb (by rw [List.length_append]; omega) rfl hcs (fun j hj => some_of_heap hh (by omega)) (fun j hj => frozen_of_heap hh (by omega)) hvs (fun u hu => by rw [← rows_append] at hu; exact rows_one u hu) h1v (ρ.t 3) (ρ.t 3) 1 (pre ++ cl).length hsa (by simp [World.shape?, hh]) (by omega) hfa hfe).mono ?_
    rintro e w' ⟨rfl, rfl⟩
    rw [hdp]
    have h2 := St.setCells P hst.drew 0 (off := pre.length + (i + 1)) (vs := rows encI q) rfl rows_one (by omega) (by omega)
    rw [splice_pre] at h2
    have h3 := St.setCells P h2 0 (off := pre.length + i) (vs := [.int .i64 x]) rfl h1v (by simp only [List.length_append, List.length_take, List.length_drop, List.length_singleton]; omega) (by simp only [List.length_append, List.length_take, List.length_drop, List.length_singleton]; omega)
    rw [splice_pre] at h3
    have e9 := ins_shift (P := rows encI p) (Q := rows encI q) (R := r) (x := Value.int .i64 x) (by omega)
    rw [← hr, rp, hpl] at e9
    have e8 : cl.take i ++ [Value.int .i64 x] ++ cl.drop (i + 1) = cl.take i ++ [Value.int .i64 x] ++ cl.drop (i + 1) := rfl
    refine fin _ g cap lo hi' pre _ h3 ?_ hroom hcm ?_ ?_
    ·simp only [List.length_append, List.length_take, List.length_drop, List.length_singleton]; omega
    ·rw [show [Value.int .i64 x].length = 1 from rfl, e9, hrow]
     exact List.take_left' (by simp only [List.length_append, List.length_singleton]; omega)
    ·simp only [List.length_append, List.length_take, List.length_drop, List.length_singleton]; omega
  ·by_cases he : i = s.length
   ·exact growEnd _ cap he hnc (by omega) (fun h9 => by cases h9) (fun a ha j u hj => by cases ha; rw [addr_at]; exact hcs j u hj)
   ·refine (Any2.slices_Insert_int_grow L g pre.length s.length cap i b 0 1 c0 (rows encI p ++ rows encI q) [.int .i64 x] w (by omega) (by omega) hnc (by omega) (by omega) (by rw [List.length_append]; omega) rfl hcs hvs (fun u hu => by rw [← rows_append] at hu; exact rows_one u hu) h1v).mono ?_
    rintro e w' ⟨rfl, rfl⟩
    rw [hdp, htp]
    have hge := grownCap_ge w (s.length + 1) cap (ρ.t 3)
    have hcm : grownCap w (s.length + 1) cap (ρ.t 3) ≤ maxLen := grownCap_le_maxLen w (s.length + 1) cap (ρ.t 3) (by omega)
    obtain ⟨Z, hZ⟩ : ∃ Z : List Value, Z = (Builtin.zeroCells (Value.int .i64 0).cells (s.length + 1 - i)).toList ++ (Builtin.zeroCells (Value.int .i64 0).cells (grownCap w (s.length + 1) cap (ρ.t 3) - (s.length + 1))).toList := ⟨_, rfl⟩
    have hZl : Z.length = grownCap w (s.length + 1) cap (ρ.t 3) - i := by
     rw [hZ, List.length_append, hz, hz]
     omega
    have ec : ((rows encI p).toArray ++ Builtin.zeroCells (Value.int .i64 0).cells (s.length + 1 - i) ++ Builtin.zeroCells (Value.int .i64 0).cells (grownCap w (s.length + 1) cap (ρ.t 3) - (s.length + 1))) = (rows encI p ++ Z).toArray := by
     rw [hZ]; apply Array.toList_inj.1; simp
    rw [ec]
    have h1 := hst.alloc (.cells (rows encI p ++ Z).toArray (ρ.t 3) (0, 0))
    have h2 := St.setCells P h1.drew 0 (off := i) (vs := [.int .i64 x]) rfl h1v (by simp only [List.length_append, List.length_singleton]; omega) (.inl (Nat.le_refl _))
    have h3 := St.setCells P h2.drew 0 (off := i + 1) (vs := rows encI q) rfl rows_one (by simp only [List.length_append, List.length_take, List.length_drop, List.length_singleton]; omega) (.inl (Nat.le_refl _))
    have e9 := ins_new (P := rows encI p) (Q := rows encI q) (x := Value.int .i64 x) Z (by omega)
    rw [rp, hpl] at e9
    rw [show [Value.int .i64 x].length = 1 from rfl, e9] at h3
    refine fin _ w.heap.size _ 0 0 [] (rows encI p ++ [Value.int .i64 x] ++ rows encI q ++ Z.drop ((rows encI q).length + 1)) (h3.drop (List.Sublist.cons_cons _ (List.nil_sublist _))) ?_ hge hcm ?_ (.inl (Nat.le_refl _))
    ·simp only [List.length_append, List.length_singleton, List.length_drop]; omega
    ·rw [hrow]
     exact List.take_left' (by simp only [List.length_append, List.length_singleton]; omega)
end
def lays25_ren : Go.Shelf.Ren := ⟨fun | 25 => 155 | 31 => 211 | 32 => 212 | 37 => 250 | n => n, fun | 0 => 0 | 3 => 3 | 4 => 4 | 22 => 23 | 40 => 219 | n => n, fun n => n⟩
theorem lays25 : Go.Proofs.Lays2.n25 Tryz.prog lays25_ren := {
  mixed := by kernel_rfl
  f25 := Tryz.func155.trans (congrArg some (by kernel_rfl))
  f31 := Tryz.func211.trans (congrArg some (by kernel_rfl))
  f32 := Tryz.func212.trans (congrArg some (by kernel_rfl))
  f37 := Tryz.func250.trans (congrArg some (by kernel_rfl))
  t0 := Tryz.underlying0
  a0 := Tryz.isAgg0
  z0 := Tryz.sizeOf0
  v0 := Tryz.zeroValue0
  t3 := Tryz.underlying3
  a3 := Tryz.isAgg3
  z3 := Tryz.sizeOf3
  v3 := Tryz.zeroValue3
  t4 := Tryz.underlying4
  a4 := Tryz.isAgg4
  z4 := Tryz.sizeOf4
  v4 := Tryz.zeroValue4
  t22 := Tryz.underlying23
  a22 := Tryz.isAgg23
  z22 := Tryz.sizeOf23
  v22 := Tryz.zeroValue23
  t40 := Tryz.underlying219
  a40 := Tryz.isAgg219
  z40 := Tryz.sizeOf219
  v40 := Tryz.zeroValue219 }
def lays21_ren : Go.Shelf.Ren := ⟨fun | 21 => 156 | 27 => 213 | 28 => 214 | 35 => 251 | 39 => 261 | n => n, fun | 0 => 0 | 3 => 3 | 4 => 4 | 22 => 23 | n => n, fun n => n⟩
theorem lays21 : Go.Proofs.Lays2.n21 Tryz.prog lays21_ren := {
  mixed := by kernel_rfl
  f21 := Tryz.func156.trans (congrArg some (by kernel_rfl))
  f27 := Tryz.func213.trans (congrArg some (by kernel_rfl))
  f28 := Tryz.func214.trans (congrArg some (by kernel_rfl))
  f35 := Tryz.func251.trans (congrArg some (by kernel_rfl))
  f39 := Tryz.func261.trans (congrArg some (by kernel_rfl))
  t0 := Tryz.underlying0
  a0 := Tryz.isAgg0
  z0 := Tryz.sizeOf0
  v0 := Tryz.zeroValue0
  t3 := Tryz.underlying3
  a3 := Tryz.isAgg3
  z3 := Tryz.sizeOf3
  v3 := Tryz.zeroValue3
  t4 := Tryz.underlying4
  a4 := Tryz.isAgg4
  z4 := Tryz.sizeOf4
  v4 := Tryz.zeroValue4
  t22 := Tryz.underlying23
  a22 := Tryz.isAgg23
  z22 := Tryz.sizeOf23
  v22 := Tryz.zeroValue23
  i3 := by kernel_rfl }
theorem k101_ (A_s : Option Addr) (n_s c_s : Nat) (s : List Int) (x : Int) (w : World) (f_s : SlF encI w A_s n_s s) (hp : s.Pairwise (· ≤ ·)) (hn : n_s ≤ 1048576) :
    Calls Tryz.prog 155 #[.slice A_s n_s c_s, i64 x] w fun e w' => e = .returned (.tuple #[i64 (lowb s x), .bool (decide (x ∈ s))]) ∧ St w [] [] w' := by
 refine (search_rd lays25 f_s hp hn).mono ?_
 rintro e w' ⟨rfl, h1⟩
 refine ⟨?_, h1⟩
 rw [countP_lowb, List.contains_eq_mem]
theorem k102_ (v_s : Value) (s : List Int) (L_s : Hp) (i : Nat) (b_v : Nat) (x : Int) (w : World) (o_s : OwnF encI 3 v_s s L_s) (h_s : Hh w L_s) (hv : w.heap[b_v]? = some (.cells [Value.int .i64 x].toArray 3 (0, 0))) (hvn : b_v ∉ L_s.map (·.1)) (hi : i ≤ s.length) (hn : s.length ≤ 1048576) :
    Calls Tryz.prog 156 #[v_s, .int .i64 i, .slice (some ⟨b_v, 0, none⟩) 1 1] w fun e w' => ∃ A c L1, e = .returned (.slice A (s.length + 1) c) ∧ St w (L_s.map (·.1)) L1 w' ∧ OwnF encI 3 (.slice A (s.length + 1) c) (insL s i x) L1 := by
 exact (insert_own lays21 o_s h_s hi hn hv hvn).mono fun e w' h => h
theorem k103_ (A_l : Option Addr) (n_l c_l : Nat) (l : List Int) (x : Int) (w : World) (f_l : SlF encI w A_l n_l l) (hn : n_l ≤ 549755813888) :
    Calls Tryz.prog 69 #[.slice A_l n_l c_l, i64 x] w fun e w' => e = .returned (.bool (l.contains x)) ∧ St w [] [] w' := by
 have hl := f_l.len
 refine enter 17 Tryz.func69 rfl Tryz.ntmps69 rfl rfl ?_
 have hs1 := St.init w
 refine WC.r1 hs1 [] rfl (WC.seq (fun K2 hK2 => WC.r1 hs1 [] rfl (WC.block ?_)))
 refine WC.lS [1, 7, 8] rfl hs1 (fun k_ f w' => ∃ (i : Nat), k_ = n_l - i ∧ (i ≤ n_l) ∧ (∀ j, j < i → iat l j ≠ x) ∧ Sub [(9, .int .i64 i)] f) ((fun (i : Nat) => n_l - i) (0)) ?_ ?_
 ·refine ⟨0, rfl, ?_, ?_, ⟨rfl, trivial⟩⟩
  · exact Nat.zero_le _
  · exact fun j hj => absurd hj (by omega)
 clear hs1
 rintro _ f w ⟨i, rfl, p0, p1, hG⟩ hF hs3
 refine WC.sub _ (hG.app hF) ?_
 clear hG hF
 refine WC.r1 hs3 [] rfl (WC.seq (fun K4 hK4 => ?_))
 refine WC.cD rfl (fun qh5 => ?_) (fun qh5 => ?_)
 ·refine WC.skip (hK4 _ _ (WC.seq (fun K6 hK6 => WC.block (WC.sr ?_))))
  refine WL.val rfl rfl rfl (Run.idxN Tryz.runUnderlying23 Tryz.sizeOf3 rfl rfl rfl ?_ ?_ ?_) ?_
  · exact SlF.some_ (SlF.st0 f_l hs3)
  · omega
  · omega
  refine WL.val rfl rfl rfl (Run.load Tryz.isAgg3 rfl rfl (SlF.one1 (SlF.st0 f_l hs3) ?_ rfl)) ?_
  · omega
  refine WL.r 1 hs3 [] rfl (WL.nil (WC.r1 hs3 [] rfl (WC.cD rfl (fun qh7 => ?_) (fun qh7 => ?_))))
  ·refine WC.r1 hs3 [] rfl (WC.ret (ibR (tkR (tkR (ibR (tkR ?_))))))
   clear hK6 hK2
   refine rtv rfl rfl hs3 ?_
   congr 1; symm; rw [List.contains_iff_mem]; rw [← qh7]; exact gat_mem (F := encI) (by omega)
  refine WC.skip (hK6 _ _ (WC.region (WL.r 2 hs3 [] rfl (WL.nil (tkN ?_)))))
  refine ⟨sbF rfl, hs3, _, ?_, i + 1, rfl, ?_, ?_, ⟨rfl, trivial⟩⟩
  · omega
  · omega
  · intro j hj; rcases Nat.lt_or_ge j i with h_ | h_
    · exact p1 j h_
    · obtain rfl : j = i := by omega
      exact qh7
 refine WC.exit (hK2 _ _ (WC.r1 hs3 [] rfl (WC.ret (rtv rfl rfl hs3 ?_))))
 congr 1; symm; rw [← Bool.not_eq_true, List.contains_iff_mem]; exact int_not (fun j hj => p1 j (by omega))
theorem k104_ (u_0 u_1 u_2 u_3 : Value) (b_s : Nat) (s : ScrR) (L_s : Hp) (b : Int) (w : World) (hb_s : w.heap[b_s]? = some (oS u_0 u_1 u_2 u_3 s)) (o_s : ownScrR s L_s) (h_s : Hh w L_s) (hd_ : (b_s :: L_s.map (·.1)).Nodup) (hf : ScrFine s.dat) (hsm : smScr 1048576 s.dat) :
    Calls Tryz.prog 76 #[.pointer (some ⟨b_s, 4, none⟩), i64 b] w fun e w' => ∃ r L1, e = .returned (.tuple #[]) ∧ St w (b_s :: L_s.map (·.1)) ([(b_s, oS u_0 u_1 u_2 u_3 r)] ++ L1) w' ∧ ownScrR r L1 ∧ r.dat = escD s.dat b := by
 have hsmB : smScr 549755813888 s.dat := by first | assumption | exact smScr_mono hsm (by decide)
 have hok9 := hf.ok
 obtain ⟨hb1, hb2, hb3, hb4, hb5, hb6⟩ := scrOk_bnd hok9
 obtain ⟨hm, hma⟩ := scrOk_main hok9
 simp only [ScrR.dat, GridR.dat, List.length_map] at hb1 hb2 hb3 hb4 hb5 hb6
 obtain ⟨_, _, hTl, _⟩ := ownScrR.len o_s
 have hTs : s.Tabs.xs.length ≤ 1048576 := hsm.2.2.1
 refine enter 89 Tryz.func76 rfl Tryz.ntmps76 rfl rfl ?_
 have hs1 := St.takeP w b_s _ L_s hb_s h_s hd_
 refine WC.r1 hs1 [] rfl (WC.block (WC.r1 hs1 [] rfl (WC.cq rfl (fun h2 qh2 => ?_) (fun h2 qh2 => ?_))))
 ·have e68 : b = 68 := by have h9 := h2; simpa using h9
  refine WC.region (WL.r 1 hs1 [] rfl ?_)
  have hF3 := ((hs1.fr L_s).fb b_s)
  refine WL.cl Tryz.call151 rfl (k95_ _ _ _ _ _ s _ _ (St.headP hF3) o_s (St.ownP hF3) (St.nodupP hF3) ?_ ?_) ?_
  iterate 2 first | assumption | rfl | omega | exact lowb_le
  rintro _ whs4 ⟨r5, L6, rfl, hs4, ho7, hd8⟩
  replace hs4 := St.lendP hF3 hs4
  refine ⟨_, rfl, WL.nil (ibN (retK0 rfl (⟨r5, _, rfl, St.keepP (L1 := L6) ((hs4.fr L6).fb b_s), ho7, ?_⟩)))⟩
  · unfold escD; rw [if_pos e68]; exact hd8
 have e68 : ¬ b = 68 := by have h9 := h2; simpa using h9
 refine WC.r1 hs1 [] rfl (WC.cq rfl (fun h9 qh9 => ?_) (fun h9 qh9 => ?_))
 ·have e77 : b = 77 := by have h9 := h9; simpa using h9
  refine WC.region (WL.r 1 hs1 [] rfl ?_)
  have hF10 := ((hs1.fr L_s).fb b_s)
  refine WL.cl Tryz.call152 rfl (k96_ _ _ _ _ _ s _ _ (St.headP hF10) o_s (St.ownP hF10) (St.nodupP hF10) ?_ ?_) ?_
  iterate 2 first | assumption | rfl | omega | exact lowb_le
  rintro _ whs11 ⟨r12, L13, rfl, hs11, ho14, hd15⟩
  replace hs11 := St.lendP hF10 hs11
  refine ⟨_, rfl, WL.nil (ibN (retK0 rfl (⟨r12, _, rfl, St.keepP (L1 := L13) ((hs11.fr L13).fb b_s), ho14, ?_⟩)))⟩
  · unfold escD; rw [if_neg e68, if_pos e77]; exact hd15
 have e77 : ¬ b = 77 := by have h9 := h9; simpa using h9
 refine WC.r1 hs1 [] rfl (WC.cq rfl (fun h16 qh16 => ?_) (fun h16 qh16 => ?_))
 ·have e69 : b = 69 := by have h9 := h16; simpa using h9
  refine WC.sr (WL.r 1 hs1 [] rfl ?_)
  have hF17 := ((hs1.fr L_s).fb b_s)
  refine WL.cl Tryz.call151 rfl (k95_ _ _ _ _ _ s _ _ (St.headP hF17) o_s (St.ownP hF17) (St.nodupP hF17) ?_ ?_) ?_
  iterate 2 first | assumption | rfl | omega | exact lowb_le
  rintro _ whs18 ⟨r19, L20, rfl, hs18, ho21, hd22⟩
  replace hs18 := St.lendP hF17 hs18
  refine ⟨_, rfl, WL.nil (WC.region (WL.r 3 hs18 [] rfl (WL.st tbk hs18 0 rfl rfl (fun _ hs23 => WL.nil (ibN (retK0 rfl ?_))))))⟩
  obtain ⟨L24, L25, L26, L27, hs32, ho28, ho29, ho30, ho31⟩ := ownScrR.op hs23 ho21
  have hs33 := (hs32.fb b_s)
  obtain ⟨L35, hs34, ho36⟩ := ownScrR.fl hs33 ho28 ho29 ho30 ho31
  have hs37 := (hs34.fb b_s)
  refine ownScrR.retp4 rfl ((hs37.fr L35).fb b_s) ho36 ?_
  · unfold escD; rw [if_neg e68, if_neg e77, if_pos e69]; show _ = ({ downD s.dat with X := 0 } : ScrD); rw [← hd22]; rfl
 have e69 : ¬ b = 69 := by have h9 := h16; simpa using h9
 refine WC.r1 hs1 [] rfl (WC.cq rfl (fun h38 qh38 => ?_) (fun h38 qh38 => ?_))
 ·have e55 : b = 55 := by have h9 := h38; simpa using h9
  refine WC.region (WL.r 1 hs1 [] rfl ?_)
  have hF39 := ((hs1.fr L_s).fb b_s)
  refine WL.cl Tryz.call153 rfl (k97_ _ _ _ _ _ s _ _ (St.headP hF39) o_s (St.ownP hF39) (St.nodupP hF39) ?_) ?_
  · first | assumption | rfl | omega | exact lowb_le
  rintro _ whs40 ⟨r41, L42, rfl, hs40, ho43, hd44⟩
  replace hs40 := St.lendP hF39 hs40
  refine ⟨_, rfl, WL.nil (ibN (retK0 rfl (⟨r41, _, rfl, St.keepP (L1 := L42) ((hs40.fr L42).fb b_s), ho43, ?_⟩)))⟩
  · unfold escD; rw [if_neg e68, if_neg e77, if_neg e69, if_pos e55]; exact hd44
 have e55 : ¬ b = 55 := by have h9 := h38; simpa using h9
 refine WC.r1 hs1 [] rfl (WC.cq rfl (fun h45 qh45 => ?_) (fun h45 qh45 => ?_))
 ·have e56 : b = 56 := by have h9 := h45; simpa using h9
  refine WC.region (WL.r 1 hs1 [] rfl ?_)
  have hF46 := ((hs1.fr L_s).fb b_s)
  refine WL.cl Tryz.call154 rfl (k98_ _ _ _ _ _ s _ _ (St.headP hF46) o_s (St.ownP hF46) (St.nodupP hF46) ?_) ?_
  · first | assumption | rfl | omega | exact lowb_le
  rintro _ whs47 ⟨r48, L49, rfl, hs47, ho50, hd51⟩
  replace hs47 := St.lendP hF46 hs47
  refine ⟨_, rfl, WL.nil (ibN (retK0 rfl (⟨r48, _, rfl, St.keepP (L1 := L49) ((hs47.fr L49).fb b_s), ho50, ?_⟩)))⟩
  · unfold escD; rw [if_neg e68, if_neg e77, if_neg e69, if_neg e55, if_pos e56]; exact hd51
 have e56 : ¬ b = 56 := by have h9 := h45; simpa using h9
 refine WC.r1 hs1 [] rfl (WC.cq rfl (fun h52 qh52 => ?_) (fun h52 qh52 => ?_))
 ·have e72 : b = 72 := by have h9 := h52; simpa using h9
  have hasc : s.Tabs.xs.Pairwise (· ≤ ·) := asc_le hf.tab
  refine WC.sq1 hs1 (WQ.r 8 [0, 0] rfl ?_)
  refine WQ.call rfl rfl rfl (fun w_ hs_ => (Run.call Tryz.call155 rfl rfl rfl)) (fun w_ hs_ => (k101_ _ _ _ _ _ _ (ownScrR.ok (B := 549755813888) o_s ((hs_ : St _ _ _ _).ow L_s) (by assumption)).Tabs ?_ ?_).mono fun e_ w_ h_ => ⟨h_.1, (hs_ : St _ _ _ _).call0 h_.2⟩) ?_
  · first | assumption | rfl | omega
  · first | assumption | rfl | omega
  refine WQ.r 5 [] rfl (WQ.nil (fun _ (hs53 : St _ _ _ _) => WC.r1 hs53 [] rfl ?_))
  refine WC.cq rfl (fun h54 qh54 => ?_) (fun h54 qh54 => ?_)
  ·have hni : s.dat.X ∉ s.dat.Tabs := by show ¬ s.X ∈ s.Tabs.xs; have h9 := h54; simpa using h9
   refine WC.rG 14 (hs53.d1.rm L_s) (hs53.rm L_s) hs53 (fun _ hs55 => ?_)
   refine WG.rn [0, 1, 2, 3, 4, 5, 6, 7, 8, 9] (hs55.rm L_s) [0, 0] rfl rfl (WG.o1 10 rfl rfl (WL.buildSlice hs55 Tryz.runUnderlying23 Tryz.sizeOf3 Tryz.zeroValue3 rfl rfl rfl rfl rfl rfl rfl rfl rfl rfl (fun b56 whs57 hs57 => WL.nil ⟨(hs57.d1.rm L_s), WG.o1 11 rfl rfl ?_⟩)))
   obtain ⟨L59, L60, L61, L62, hs67, ho63, ho64, ho65, ho66⟩ := ownScrR.op hs57 o_s
   have hs68 := ((hs67.fb b_s).fb b56)
   refine WL.cl Tryz.call156 rfl (k102_ _ _ _ _ _ _ _ ho65 (hs68.ow L61) (hs68.own _ (nthL_mem (i := 0) rfl)).1 (St.sepOwn (hs68.fr L61) (nthL_mem (i := 0) rfl)) ?_ ?_) ?_
   iterate 2 first | assumption | rfl | omega | exact lowb_le
   rintro _ whs58 ⟨A69, c70, L1_71, rfl, hs58, ho72⟩
   replace hs58 := St.lend (hs68.fr L61) hs58
   refine ⟨_, rfl, ?_⟩
   replace hs58 := St.back [_, _] hs58
   refine WL.nil ⟨((((hs58.d1.rm L1_71).rm L59).rm L60).rm L62), WG.rn [12, 13] ((((hs58.d1.rm L1_71).rm L59).rm L60).rm L62) [] rfl rfl (WG.oK rfl (WL.st tbk hs58 1 rfl rfl (fun _ hs73 => WL.nil ⟨((((hs73.d1.d1.rm L1_71).rm L59).rm L60).rm L62), WH.dn (ibN (retK0 rfl ?_))⟩)))⟩
   obtain ⟨L75, hs74, ho76⟩ := ownScrR.fl hs73 ho63 ho64 ho72 ho66
   have hs77 := ((hs74.fb b_s).fb b56)
   refine ownScrR.retp4 rfl ((hs77.fr L75).fb b_s) ho76 ?_
   · unfold escD; rw [if_neg e68, if_neg e77, if_neg e69, if_neg e55, if_neg e56, if_pos e72]; refine Eq.trans ?_ (show ({ s.dat with Tabs := insL s.dat.Tabs (lowb s.dat.Tabs s.dat.X) s.dat.X } : ScrD) = tabD s.dat from by rw [tabL_ins hf hni]; rfl); rfl
  have hin : s.dat.X ∈ s.dat.Tabs := by show s.X ∈ s.Tabs.xs; have h9 := h54; simpa using h9
  refine WC.skip (ibN (retK0 rfl (⟨s, _, rfl, St.keepP (L1 := L_s) ((hs53.fr L_s).fb b_s), o_s, ?_⟩)))
  · unfold escD; rw [if_neg e68, if_neg e77, if_neg e69, if_neg e55, if_neg e56, if_pos e72]; refine Eq.trans ?_ (show ({ s.dat with Tabs := s.dat.Tabs } : ScrD) = tabD s.dat from by unfold tabD; rw [← tabL_has hf hin]); rfl
 have e72 : ¬ b = 72 := by have h9 := h52; simpa using h9
 refine WC.r1 hs1 [] rfl (WC.cq rfl (fun h78 qh78 => ?_) (fun h78 qh78 => ?_))
 ·have e99 : b = 99 := by have h9 := h78; simpa using h9
  refine WC.r1 hs1 [0] rfl (WC.seq (fun K79 hK79 => WC.rG 18 hs1.d1 hs1 hs1 (fun _ hs80 => ?_)))
  refine WG.rn [0, 1, 2, 3, 4, 5, 6, 7, 8, 9, 10, 11, 12] hs80 [0, 0, 0] rfl rfl (WG.o1 13 rfl rfl (WL.cl Tryz.call157 rfl (k63_ _ _ _ _) ?_))
  rintro _ whs81 ⟨r0_82, L0_83, rfl, hs81, ho84, hd0_85⟩
  replace hs81 := hs80.callF hs81
  refine ⟨_, rfl, ?_⟩
  replace hs81 := St.back [_] hs81
  refine WL.nil ⟨(hs81.rm L0_83), WG.rn [14, 15, 16, 17] (hs81.rm L0_83) [] rfl rfl (WG.oK rfl (WL.st tbk hs81 0 rfl rfl (fun _ hs86 => WL.nil ⟨(hs86.d1.rm L0_83), WH.dn (hK79 _ _ (WC.region ?_))⟩)))⟩
  refine WL.r 4 hs86 [] rfl (WL.st tbk hs86 0 rfl rfl (fun _ hs87 => WL.nil (ibN (retK0 rfl ?_))))
  obtain ⟨L88, L89, L90, L91, hs96, ho92, ho93, ho94, ho95⟩ := ownScrR.op hs87 ho84
  have hs97 := (hs96.fb b_s)
  obtain ⟨L98, L99, L100, L101, hs106, ho102, ho103, ho104, ho105⟩ := ownScrR.op hs97 o_s
  have hs107 := (hs106.fb b_s)
  obtain ⟨L109, hs108, ho110⟩ := ownScrR.fl hs107 ho92 ho93 ho94 ho105
  have hs111 := (hs108.fb b_s)
  refine ownScrR.retp4 rfl ((hs111.fr L109).fb b_s) ho110 ?_
  · unfold escD; rw [if_neg e68, if_neg e77, if_neg e69, if_neg e55, if_neg e56, if_neg e72, if_pos e99]; have hm9 : scrRes s.W s.H s.Limit = scrNew s.W s.H s.Limit := by { unfold scrRes scrMay; rw [if_pos]; rw [Bool.and_eq_true, within_iff]; exact ⟨hf.size, hf.lim.1⟩ }; refine Eq.trans ?_ (show ({ scrRes s.W s.H s.Limit with Back := s.dat.Back } : ScrD) = resetD s.dat from by rw [hm9]; rfl); rw [← hd0_85]; rfl
 have e99 : ¬ b = 99 := by have h9 := h78; simpa using h9
 refine WC.skip (ibN (retK0 rfl (⟨s, _, rfl, St.keepP (L1 := L_s) ((hs1.fr L_s).fb b_s), o_s, ?_⟩)))
 · unfold escD; rw [if_neg e68, if_neg e77, if_neg e69, if_neg e55, if_neg e56, if_neg e72, if_neg e99]
theorem nthL_eq : ∀ (L : Hp) (i : Nat), nthL L i = L[i]?
 | [], _ => rfl
 | _ :: _, 0 => rfl
 | _ :: L, i + 1 => (nthL_eq L i).trans (by simp)
section
variable {P : Program} {w0 w : World} {T : List Nat} {L : Hp} {n : Nat} {ol : List Oper} {o : Oper} {rest : List Oper} {f : Fr} {d : Nat} {K : Fr → World → Prop}
theorem St.setObj (h : St w0 T L w) {i b : Nat} {o1 : Obj} (hi : nthL L i = some (b, o1)) (o2 : Obj) : St w0 T (setL L i o2) { w with heap := w.heap.setIfInBounds b o2 } := by
 have hb := (h.own _ (nthL_mem hi))
 have hlt := lt_of_heap hb.1
 have hother : ∀ k, k ≠ b → (w.heap.setIfInBounds b o2)[k]? = w.heap[k]? := fun k hk => by
  rw [Array.getElem?_setIfInBounds]; rw [if_neg (fun h => hk h.symm)]
 refine ⟨h.os, h.tape, h.output, by simpa using h.size, fun k hk hT => ?_, fun p hp => ?_, by rw [setL_keys]; exact h.nodup⟩
 ·refine (hother k ?_).trans (h.keep k hk hT)
  rintro rfl
  rcases hb.2 with h1 | h1
  ·simp at h1; omega
  ·exact hT h1
 ·rcases setL_mem hi h.nodup hp with rfl | ⟨hm, hne⟩
  ·refine ⟨?_, hb.2⟩
   show (w.heap.setIfInBounds b o2)[b]? = some o2
   rw [Array.getElem?_setIfInBounds, if_pos rfl]
   simp only at hlt
   rw [if_pos hlt]
  ·exact ⟨(hother p.1 hne).trans (h.own p hm).1, (h.own p hm).2⟩
theorem WL.makeMap {t : TypeId} (hst : St w0 T L w) (ho : o.op = .makeMap t none) (hw : want ol o f = some true) (hd : o.dst = some d) (hn : Nat.blt d n = true)
  (k : ∀ b w', St w0 T ((b, .map #[] 0) :: L) w' → WL P n ol rest K ((d, .map (some b)) :: f) w') : WL P n ol (o :: rest) K f w := by
 refine WL.val (w' := w.alloc (.map #[] 0)) hw hd hn (fun ρ hρ => ?_) (k _ _ (hst.alloc _))
 simp [execOp, ho, Instr.makeMap]
theorem WL.mapPut {L' : Hp} {t kt et : TypeId} {kd : TypeDesc} {x y z : Operand} {b clock : Nat} {es : Array MapEntry} {key v : Value} (hst : St w0 T L w) (i : Nat) (hi : nthL L i = some (b, .map es clock)) (hm : P.underlying t = some (.map kt et)) (hkd : P.underlying kt = some kd)
  (ho : o.op = .insert t x y z) (hw : want ol o f = some true) (hd : o.dst = none) (hx : ev f x = some (.map (some b))) (hy : ev f y = some key) (hz : ev f z = some v) (hL : setLK L i (.map (es.push { key := key, val := v, born := clock }) (clock + 1)) some = some L') (hk : MapKept.IsKey kd key) (hf : Instr.findNow kd key es.toList 0 = some none)
  (k : ∀ w', St w0 T L' w' → WL P n ol rest K f w') : WL P n ol (o :: rest) K f w := by
 have hb := (hst.own _ (nthL_mem hi)).1
 refine WL.unit (w' := { w with heap := w.heap.setIfInBounds b (.map (es.push { key := key, val := v, born := clock }) (clock + 1)) }) hw hd (fun ρ hρ => ?_) (k _ (Option.some.inj (setLK_some hL) ▸ hst.setObj hi _))
 simp [execOp, ho, hρ _ _ hx, hρ _ _ hy, hρ _ _ hz, Instr.mapUpdate, run_underlying hm, MapKept.run_getObj_map hb, MapKept.run_checkKey hkd hk, MapKept.run_findKey hkd hf, MapKept.run_setObj_map _ hb, Result.andThen]
theorem Run.mapGet {t kt et : TypeId} {kd : TypeDesc} {x y : Operand} {b clock : Nat} {es : Array MapEntry} {key v : Value} (hm : P.underlying t = some (.map kt et)) (hkd : P.underlying kt = some kd) (ho : o.op = .lookup t x y false) (hx : ev f x = some (.map (some b))) (hy : ev f y = some key)
  (hb : w.heap[b]? = some (.map es clock)) (hk : MapKept.IsKey kd key) (hf : ∃ j, Instr.findNow kd key es.toList 0 = some (some (j, v))) : Run P o f w (.value v) w := fun ρ hρ => by
 obtain ⟨j, hf⟩ := hf
 simp [execOp, ho, hρ _ _ hx, hρ _ _ hy, Instr.lookup, run_underlying hm, MapKept.run_getObj_map hb, MapKept.run_checkKey hkd hk, MapKept.run_findKey hkd hf, Result.andThen]
theorem St.neq (h : St w0 T L w) {i j : Nat} {p q : Nat × Obj} (hi : nthL L i = some p) (hj : nthL L j = some q) (hij : i ≠ j) : p.1 ≠ q.1 := by
 intro he
 rw [nthL_eq] at hi hj
 have h1 : (L.map (·.1))[i]? = some p.1 := by rw [List.getElem?_map, hi]; rfl
 have h2 : (L.map (·.1))[j]? = some q.1 := by rw [List.getElem?_map, hj]; rfl
 exact hij ((List.getElem?_inj (List.getElem?_eq_some_iff.1 h1).1 h.nodup).1 (h1.trans (he ▸ h2.symm)))
theorem St.untouch {w' : World} (h : St w T L w') (hT : ∀ k, k ∈ T → ∃ q, (k, q) ∈ L) (hL : ∀ p, p ∈ L → w.heap[p.1]? = some p.2) : St w [] [] w' := by
 refine ⟨h.os, h.tape, h.output, h.size, fun k hk _ => ?_, fun _ hp => (by cases hp), List.nodup_nil⟩
 by_cases hm : k ∈ T
 ·obtain ⟨q, hq⟩ := hT k hm
  exact (h.own _ hq).1.trans (hL _ hq).symm
 ·exact h.keep k hk hm
end
theorem k105_ (A_s : Option Addr) (n_s c_s : Nat) (s : List Int) (p : Int → Bool) (cv : Value) (w : World) (f_s : SlF encI w A_s n_s s) (hcl : ∀ w1 : World, St w [] [] w1 → ∀ m : Int, Calls Tryz.prog 241 #[i64 m, cv] w1 fun e w2 => e = .returned (.bool (p m)) ∧ St w1 [] [] w2) (hn : n_s ≤ 1048576) :
    Calls Tryz.prog 226 #[.slice A_s n_s c_s, .func (.func 241) #[] #[cv]] w fun e w' => e = .returned (i64 (findI p s)) ∧ St w [] [] w' := by
 refine enter 19 Tryz.func226 rfl Tryz.ntmps226 rfl rfl ?_
 have hs1 := St.init w
 refine WC.r1 hs1 [] rfl (WC.seq (fun K2 hK2 => WC.r1 hs1 [] rfl (WC.block ?_)))
 refine WC.lS [0, 1, 7] rfl hs1 (fun k_ f w' => ∃ (i : Nat), k_ = n_s - i ∧ (i ≤ n_s) ∧ (∀ j, j < i → p (iat s j) = false) ∧ Sub [(8, .int .i64 i)] f) ((fun (i : Nat) => n_s - i) (0)) ?_ ?_
 ·refine ⟨0, rfl, ?_, ?_, ⟨rfl, trivial⟩⟩
  · exact Nat.zero_le _
  · exact fun j hj => absurd hj (by omega)
 clear hs1
 rintro _ f w ⟨i, rfl, p0, p1, hG⟩ hF hs3
 refine WC.sub _ (hG.app hF) ?_
 clear hG hF
 refine WC.r1 hs3 [] rfl (WC.seq (fun K4 hK4 => ?_))
 refine WC.cond rfl (fun h5 => ?_) (fun h5 => ?_)
 ·have qh5 := h5
  try simp only [decide_eq_true_eq, decide_eq_false_iff_not] at qh5
  refine WC.skip (hK4 _ _ (WC.seq (fun K6 hK6 => WC.block (WC.r1 hs3 [] rfl (WC.sr (WL.r 3 hs3 [] rfl ?_))))))
  refine WL.val rfl rfl rfl (Run.idxN Tryz.runUnderlying23 Tryz.sizeOf3 rfl rfl rfl ?_ ?_ ?_) ?_
  · exact SlF.some_ (SlF.st0 f_s hs3)
  · omega
  · omega
  refine WL.val rfl rfl rfl (Run.load Tryz.isAgg3 rfl rfl (SlF.one1 (SlF.st0 f_s hs3) ?_ rfl)) ?_
  · omega
  refine WL.call rfl rfl rfl (Run.callC Tryz.call241 rfl rfl rfl) (hcl _ hs3 _) ?_
  rintro _ whs7 ⟨rfl, hs7⟩
  replace hs7 := hs3.call0 hs7
  refine ⟨_, rfl, WL.nil (WC.cond rfl (fun h8 => ?_) (fun h8 => ?_))⟩
  ·have qh8 := h8
   try simp only [decide_eq_true_eq, decide_eq_false_iff_not] at qh8
   refine WC.r1 hs7 [] rfl (WC.ret (ibR (tkR (tkR (ibR (tkR ?_))))))
   clear hK6 hK2
   refine rtv rfl rfl hs7 ?_
   rw [findI_some (F := encI) (by rw [f_s.len]; omega) p1 h8]
  have qh8 := h8
  try simp only [decide_eq_true_eq, decide_eq_false_iff_not] at qh8
  refine WC.skip (hK6 _ _ (WC.region (WL.r 2 hs7 [] rfl (WL.nil (tkN ?_)))))
  refine ⟨sbF rfl, hs7, _, ?_, i + 1, rfl, ?_, ?_, ⟨rfl, trivial⟩⟩
  · omega
  · omega
  · intro j hj; rcases Nat.lt_or_ge j i with h_ | h_
    · exact p1 j h_
    · obtain rfl : j = i := by omega
      exact h8
 have qh5 := h5
 try simp only [decide_eq_true_eq, decide_eq_false_iff_not] at qh5
 refine WC.exit (hK2 _ _ (WC.r1 hs3 [] rfl (WC.ret (rtv rfl rfl hs3 ?_))))
 rw [findI_none (F := encI) (fun j hj => p1 j (by rw [f_s.len] at hj; omega))]
theorem k106_ (v_s : Value) (s : List Int) (L_s : Hp) (p : Int → Bool) (cv : Value) (w : World) (o_s : OwnF encI 3 v_s s L_s) (h_s : Hh w L_s) (hcl : ∀ (w1 : World) (Lx : Hp), St w (L_s.map (·.1)) Lx w1 → ∀ m : Int, Calls Tryz.prog 241 #[i64 m, cv] w1 fun e w2 => e = .returned (.bool (p m)) ∧ St w1 [] [] w2) (hn : s.length ≤ 1048576) :
    Calls Tryz.prog 240 #[v_s, .func (.func 241) #[] #[cv]] w fun e w' => ∃ A c n xs L1, e = .returned (.slice A n c) ∧ St w (L_s.map (·.1)) L1 w' ∧ OwnF encI 3 (.slice A n c) xs L1 ∧ xs = s.filter (fun x => !p x) := by
 obtain ⟨A_s, c_s, rfl⟩ := o_s.shape
 refine enter 42 Tryz.func240 rfl Tryz.ntmps240 rfl rfl ?_
 have hs1 := St.lent1 w L_s o_s h_s
 refine WC.r1 hs1 [] rfl (WC.sr (WL.r 2 hs1 [] rfl ?_))
 refine WL.cl Tryz.call226 rfl (k105_ _ _ _ _ _ _ _ (SlF.ofOwn o_s (hs1.ow L_s)) (fun w_ hx_ => hcl _ _ (St.call0 hs1 hx_)) ?_) ?_
 · first | assumption | rfl | omega
 rintro _ whs2 ⟨rfl, hs2⟩
 replace hs2 := hs1.call0 hs2
 refine ⟨_, rfl, WL.r 1 hs2 [] rfl (WL.nil (WC.seq (fun K3 hK3 => WC.r1 hs2 [] rfl ?_)))⟩
 refine WC.cq rfl (fun h4 qh4 => ?_) (fun h4 qh4 => ?_)
 ·have hfi : findI p s = -1 := by have h9 := h4; simpa using h9
  refine WC.r1 hs2 [] rfl (WC.ret (tkR ?_))
  clear hK3
  refine retV1 rfl (resV.tmp rfl) (⟨_, _, _, _, _, rfl, (St.keep1 hs2), o_s, (del_none hfi).symm⟩)
 have hfi : ¬ findI p s = -1 := by have h9 := h4; simpa using h9
 obtain ⟨hf0, hf1⟩ := findI_bnd hfi
 refine WC.skip (hK3 _ _ (WC.seq (fun K5 hK5 => WC.r1 hs2 [] rfl (WC.block ?_))))
 refine WC.lO [1, 4, 12] rfl hs2 (fun k_ f L_ => ∃ (j m : Nat) (zs : List Int), k_ = s.length - j ∧ (j ≤ s.length) ∧ (m < j) ∧ (DelTo p s j m zs) ∧ OwnF encI 3 (.slice A_s (s.length) c_s) (zs) L_ ∧ Sub [(0, .slice A_s (s.length) c_s), (6, .int .i64 j), (5, .int .i64 m)] f) (((fun (j m : Nat) (zs : List Int) => s.length - j) ((findI p s).toNat + 1) ((findI p s).toNat) (s))) ?_ ?_
 ·refine ⟨(findI p s).toNat + 1, (findI p s).toNat, s, rfl, ?_, ?_, ?_, o_s, ⟨rfl, ?_, ?_, trivial⟩⟩
  · omega
  · omega
  · exact delTo_start hfi
  · (refine congrArg some (congrArg (Value.int _) ?_); omega)
  · (refine congrArg some (congrArg (Value.int _) ?_); omega)
 clear hs2
 rintro _ f w L8 ⟨j, m, zs, rfl, p0, p1, p2, ho9, hG⟩ hF hs10
 refine WC.sub _ (hG.app hF) ?_
 clear hG hF
 have hzl := p2.len
 refine WC.seq (fun K11 hK11 => WC.r1 hs10 [] rfl ?_)
 refine WC.cq rfl (fun h12 qh12 => ?_) (fun h12 qh12 => ?_)
 ·refine WC.skip (hK11 _ _ (WC.seq (fun K13 hK13 => WC.block (WC.sr (WL.r 2 hs10 [] rfl ?_)))))
  refine WL.val rfl rfl rfl (Run.idxN Tryz.runUnderlying23 Tryz.sizeOf3 rfl rfl rfl ?_ ?_ ?_) ?_
  · exact SlF.some_ (SlF.ofOwn ho9 (hs10.ow L8))
  · first | omega | (simp only [List.length_set]; omega)
  · first | omega | (simp only [List.length_set]; omega)
  refine WL.val rfl rfl rfl (Run.load Tryz.isAgg3 rfl rfl (SlF.one1 (SlF.ofOwn ho9 (hs10.ow L8)) ?_ rfl)) ?_
  · first | omega | (simp only [List.length_set]; omega)
  refine WL.r 1 hs10 [] rfl (WL.nil (WC.sr (WL.r 2 hs10 [] rfl (WL.call rfl rfl rfl (Run.callC Tryz.call241 rfl rfl rfl) (hcl _ _ hs10 _) ?_))))
  rintro _ whs14 ⟨rfl, hs14⟩
  replace hs14 := hs10.call0 hs14
  refine ⟨_, rfl, WL.r 1 hs14 [] rfl (WL.nil (WC.cq rfl (fun h15 qh15 => ?_) (fun h15 qh15 => ?_)))⟩
  ·refine WC.sr (WL.r 3 hs14 [] rfl (WL.val rfl rfl rfl (Run.idxN Tryz.runUnderlying23 Tryz.sizeOf3 rfl rfl rfl ?_ ?_ ?_) ?_))
   · exact SlF.some_ (SlF.ofOwn ho9 (hs14.ow L8))
   · first | omega | (simp only [List.length_set]; omega)
   · first | omega | (simp only [List.length_set]; omega)
   refine WL.storeF1 (x' := _) hs14 ho9 Tryz.sizeOf3 rfl rfl rfl rfl rfl rfl rfl rfl rfl ?_ rfl (fun L16 whs17 hs17 ho18 _ => ?_)
   · first | omega | (simp only [List.length_set]; omega)
   refine WL.nil (WC.region (WL.r 3 hs17 [] rfl (WL.nil (hK13 _ _ (WC.region (WL.r 3 hs17 [] rfl (WL.nil ?_)))))))
   refine tkN (⟨sbF rfl, _, hs17, _, ?_, j + 1, (m + 1), _, rfl, ?_, ?_, ?_, ho18, ⟨rfl, ?_, ?_, trivial⟩⟩)
   · omega
   · omega
   · omega
   · first | exact p2.keep (by omega) (by omega) (by have h9 := h15; simpa using h9) | exact p2.skip (by omega) (by have h9 := h15; simpa using h9)
   · (refine congrArg some (congrArg (Value.int _) ?_); omega)
   · (refine congrArg some (congrArg (Value.int _) ?_); omega)
  refine WC.skip (hK13 _ _ (WC.region (WL.r 3 hs14 [] rfl (WL.nil (tkN ?_)))))
  refine ⟨sbF rfl, _, hs14, _, ?_, j + 1, m, _, rfl, ?_, ?_, ?_, ho9, ⟨rfl, ?_, ?_, trivial⟩⟩
  · omega
  · omega
  · omega
  · first | exact p2.keep (by omega) (by omega) (by have h9 := h15; simpa using h9) | exact p2.skip (by omega) (by have h9 := h15; simpa using h9)
  · (refine congrArg some (congrArg (Value.int _) ?_); omega)
  · (refine congrArg some (congrArg (Value.int _) ?_); omega)
 refine WC.exit (hK5 _ _ (WC.sr (WL.r 2 hs10 [] rfl ?_)))
 have hc_ := OwnF.cap ho9
 refine WL.val rfl rfl rfl (Run.sliceL (m) Tryz.runUnderlying23 Tryz.sizeOf3 rfl rfl rfl ?_ ?_) ?_
 · first | rfl | (omega)
 · refine ⟨?_, ?_, ?_⟩ <;> (omega)
 have hmt : (zs.take m).length = m := by rw [List.length_take]; omega
 have hcz := OwnF.cap ho9
 refine WL.clearT (m := m) (q := s.length - m) hs10 (OwnF.take (k := m) ho9 (by omega)) Tryz.underlying23 Tryz.zeroValue3 rfl rfl rfl rfl rfl ?_ (fun L19 whs20 hs20 ho21 => ?_)
 · omega
 refine WL.nil (WC.sr (WL.r 2 hs20 [] rfl (WL.val rfl rfl rfl (Run.sliceH0 m Tryz.runUnderlying23 Tryz.sizeOf3 rfl rfl rfl ?_ ?_) ?_)))
 · omega
 · omega
 refine WL.r 1 hs20 [] rfl (WL.nil (WC.ret (retV1 rfl (resV.tmp rfl) (⟨_, _, _, _, _, rfl, (St.keep1 hs20), ho21, p2.all (by omega)⟩))))
theorem k107_ (A_b : Option Addr) (n_b c_b : Nat) (b : List UInt8) (w : World) (f_b : SlF encB w A_b n_b b) (hc : n_b ≤ c_b) (hn : n_b ≤ 549755813888) :
    Calls Tryz.prog 254 #[.slice A_b n_b c_b, i64 0] w fun e w' => e = .returned (.tuple #[.int .i64 (rvN (runeL b)), .int .i64 (rvS (runeL b) : Nat)]) ∧ St w [] [] w' := by
 have hbl := f_b.len
 have hb0 := (gat encB b 0).toNat_lt
 have hb0' : (gat encB b (Int.toNat 0)).toNat < 2 ^ 8 := hb0
 refine enter 76 Tryz.func254 rfl Tryz.ntmps254 rfl rfl ?_
 have hs1 := St.init w
 refine WC.r1 hs1 [] rfl (WC.seq (fun K2 hK2 => WC.sr (WL.r 3 hs1 [] rfl (WL.pO tbk 4 Acts.nil hs1 [] rfl rfl rfl rfl (fun g_ => trivial) (WL.nil ?_)))))
 refine WC.cq rfl (fun h3 qh3 => ?_) (fun h3 qh3 => ?_)
 ·refine WC.r1 hs1 [] rfl (WC.ret (tkR ?_))
  clear hK2
  refine retV2 rfl (resV.tmp rfl) (resV.tmp rfl) (⟨congrArg Ending.returned ?_, hs1.nil⟩)
  have h0 : b = [] := List.eq_nil_of_length_eq_zero (by simp at qh3; omega)
  subst h0
  rw [runeL_nil]; rfl
 refine WC.skip (hK2 _ _ (WC.seq (fun K4 hK4 => WC.r1 hs1 [] rfl (WC.block ?_))))
 refine WC.lS [0, 1, 17] rfl hs1 (fun k_ f w' => ∃ (s : Nat), k_ = 4 - s ∧ (1 ≤ s) ∧ (s ≤ 4) ∧ (∀ t, 1 ≤ t → t < s → rtry b t = false) ∧ Sub [(6, .int .i64 s)] f) ((fun (s : Nat) => 4 - s) (1)) ?_ ?_
 ·refine ⟨1, rfl, ?_, ?_, ?_, ⟨rfl, trivial⟩⟩
  · omega
  · omega
  · intro t h1 h2; omega
 clear hs1
 rintro _ f w ⟨s, rfl, p0, p1, p2, hG⟩ hF hs5
 refine WC.sub _ (hG.app hF) ?_
 clear hG hF
 have ht4 := t4_bnd s
 refine WC.seq (fun K6 hK6 => WC.sr (WL.r 3 hs5 [] rfl ?_))
 refine WL.pA tbk 6 Acts.nil hs5 [] rfl rfl rfl rfl (fun g_ => by (try simp only [bf, within_iff, within_not] at g_); exact ⟨by omega, trivial⟩) (WL.nil (WC.cq rfl (fun h7 qh7 => ?_) (fun h7 qh7 => ?_)))
 ·refine WC.skip (hK6 _ _ (WC.seq (fun K8 hK8 => WC.block (WC.seq (fun K9 hK9 => WC.rH hs5 hs5 (fun _ hs10 => ?_))))))
  refine WH.rn [0, 1] hs10 [] rfl rfl ?_
  refine WH.take 2 rfl (by kernel_rfl) rfl rfl rfl hs10 (fun w_ hs_ => (Run.idx Tryz.runUnderlying22 Tryz.sizeOf5 rfl rfl rfl ?_ ?_ ?_)) ?_
  · exact SlF.some_ (SlF.st0 f_b (hs_ : St _ _ _ _))
  · first | omega | (simp; omega)
  · first | omega | (simp; omega)
  refine WH.take 3 rfl (by kernel_rfl) rfl rfl rfl hs10 (fun w_ hs_ => (Run.load Tryz.isAgg5 rfl rfl (SlF.one1 (SlF.st0 f_b (hs_ : St _ _ _ _)) ?_ rfl))) ?_
  · first | omega | (simp; omega)
  refine WH.rn [4, 6] hs10 [] rfl rfl (WH.o1 5 rfl (WL.buildF (F := encI) hs10 ([0, 0, 192, 224]) Tryz.runUnderlying23 Tryz.sizeOf3 Tryz.zeroValue3 rfl rfl rfl rfl rfl rfl rfl rfl rfl rfl rfl rfl (fun A14 c15 L11 whs12 hs12 ho13 => WL.nil ⟨(hs12.rm L11), ?_⟩)))
  refine WH.strS hs12 (fun w_ h_ => (h_.rm L11)) ?_
  refine WH.take 7 rfl (by kernel_rfl) rfl rfl rfl hs12 (fun w_ hs_ => (Run.idxN Tryz.runUnderlying23 Tryz.sizeOf3 rfl rfl rfl ?_ ?_ ?_)) ?_
  · exact SlF.some_ (SlF.ofOwn ho13 ((hs_ : St _ _ _ _).ow L11))
  · first | omega | (simp; omega)
  · first | omega | (simp; omega)
  refine WH.take 8 rfl (by kernel_rfl) rfl rfl rfl hs12 (fun w_ hs_ => (Run.load Tryz.isAgg3 rfl rfl (SlF.one1 (SlF.ofOwn ho13 ((hs_ : St _ _ _ _).ow L11)) ?_ rfl))) ?_
  · first | omega | (simp; omega)
  refine WH.rn [9, 10] hs12 [] rfl rfl (WH.dn (hK9 _ _ (WC.seq (fun K16 hK16 => WC.r1 hs12 [] rfl (WC.block ?_)))))
  refine WC.lS [0, 1, 6, 17, 18, 19, 20, 27, 30, 31, 32, 33, 34, 35, 36, 37, 38, 39] rfl hs12 (fun k_ f w' => ∃ (i : Nat), k_ = s - i ∧ (1 ≤ i) ∧ (i ≤ s) ∧ Sub [(8, .int .i64 i), (7, .int .i64 (candI b s (i - 1)))] f) ((fun (i : Nat) => s - i) (1)) ?_ ?_
  ·refine ⟨1, rfl, ?_, ?_, ⟨rfl, ?_, trivial⟩⟩
   · omega
   · omega
   · rfl
  clear hs12
  rintro _ f w ⟨i, rfl, p0, p1, hG⟩ hF hs17
  refine WC.sub _ (hG.app hF) ?_
  clear hG hF
  have hcb := candI_bnd (l := b) (s := s) (i := i - 1) (by omega)
  have hbi := (gat encB b i).toNat_lt
  have hbz : (gat encB b ((0 : Int) + (i : Int)).toNat).toNat < 2 ^ 8 := (gat encB b _).toNat_lt
  refine WC.seq (fun K18 hK18 => WC.r1 hs17 [] rfl ?_)
  refine WC.cD rfl (fun qh19 => ?_) (fun qh19 => ?_)
  ·refine WC.skip (hK18 _ _ (WC.seq (fun K20 hK20 => WC.block (WC.region (WL.r 6 hs17 [] rfl ?_)))))
   refine WL.val rfl rfl rfl (Run.idx Tryz.runUnderlying22 Tryz.sizeOf5 rfl rfl rfl ?_ ?_ ?_) ?_
   · exact SlF.some_ (SlF.st0 f_b hs17)
   · first | omega | (simp; omega)
   · first | omega | (simp; omega)
   refine WL.val rfl rfl rfl (Run.load Tryz.isAgg5 rfl rfl (SlF.one1 (SlF.st0 f_b hs17) ?_ rfl)) ?_
   · first | omega | (simp; omega)
   refine WL.r 4 hs17 [] rfl (WL.nil (hK20 _ _ (WC.region (WL.r 3 hs17 [] rfl (WL.nil (tkN ?_))))))
   refine ⟨sbF rfl, hs17, _, ?_, i + 1, rfl, ?_, ?_, ⟨rfl, ?_, trivial⟩⟩
   · omega
   · omega
   · omega
   · refine congrArg some (congrArg (Value.int _) ?_); have h9 := candI_next (l := b) (s := s) (i := i) (by omega); rw [h9]; simp
  refine WC.exit (hK16 _ _ (WC.sr (WL.r 1 hs17 [] rfl (WL.cl Tryz.call168 rfl (k50_ _ _) ?_))))
  rintro _ whs21 ⟨A22, c23, L1_24, rfl, hs21, ho25⟩
  replace hs21 := hs17.callF hs21
  refine ⟨_, rfl, WL.r 1 hs21 [] rfl (WL.nil (WC.sq1 hs21 (WQ.r 5 [] rfl ?_)))⟩
  apply WQ.gA 10 Acts.nil rfl
  ·intro g26 J27
   have qg26 := g26
   try simp only [bf, within_iff, within_not] at qg26
   refine WQ.runA tbk 1 (Acts.nil.cons (j := 4) rfl g26) [] rfl trivial ?_
   refine WQ.val (wantT rfl g26) rfl rfl (fun w_ hs_ => (Run.strOf (SlF.ofOwn ho25 ((hs_ : St _ _ _ _).ow L1_24)) Tryz.underlying22 Tryz.underlying5 Tryz.underlying9 rfl rfl)) ?_
   refine WQ.runA tbk 5 (Acts.nil.cons (j := 4) rfl g26) [] rfl ⟨by omega, trivial⟩ ?_
   refine WQ.val (wantT rfl g26) rfl rfl (fun w_ hs_ => (Run.sliceLH (0) (s) Tryz.runUnderlying22 Tryz.sizeOf5 rfl rfl rfl rfl ?_ ?_ ?_)) ?_
   · first | rfl | (omega)
   · first | rfl | (omega)
   · refine ⟨?_, ?_, ?_⟩ <;> (omega)
   refine WQ.val (wantT rfl g26) rfl rfl (fun w_ hs_ => (Run.strOf (SlF.cutC (lo := 0) (hi := s) (SlF.st0 f_b (hs_ : St _ _ _ _)) (by refine ⟨?_, ?_, ?_⟩ <;> (omega))) Tryz.underlying22 Tryz.underlying5 Tryz.underlying9 rfl rfl)) ?_
   refine WQ.runA tbk 1 (Acts.nil.cons (j := 4) rfl g26) [] rfl trivial (WQ.eA 10 Acts.nil J27 g26 rfl rfl)
  refine WQ.nil (fun _ (hs28 : St _ _ _ _) => ?_)
  refine WC.cq rfl (fun h29 qh29 => ?_) (fun h29 qh29 => ?_)
  ·refine WC.r1 hs28 [] rfl (WC.ret (ibR (tkR (tkR (ibR (tkR ?_))))))
   clear hK8 hK4
   refine retV2 rfl (resV.tmp rfl) (resV.tmp rfl) (⟨congrArg Ending.returned ?_, hs28.nil⟩)
   obtain rfl : i = s := by omega
   have hok : rtry b i = true := by rw [← rtry_iff (by omega), ← candI_cand (by omega) (by omega) (by omega)]; simpa [Int.ofNat_inj] using qh29
   rw [runeL_at hok p0 (by omega) p2, ← candI_cand (by omega) (by omega) (by omega)]; rfl
  refine WC.skip (hK8 _ _ (WC.region (WL.r 3 hs28 [] rfl (WL.nil (tkN ?_)))))
  refine ⟨sbF rfl, (hs28.drop (by repeat (first | exact List.Sublist.refl _ | exact List.sublist_append_left _ _ | exact List.Sublist.trans (List.sublist_append_left _ _) (List.sublist_append_left _ _) | apply List.Sublist.cons | refine List.Sublist.trans ?_ (sR _)))), _, ?_, s + 1, rfl, ?_, ?_, ?_, ⟨rfl, trivial⟩⟩
  · omega
  · omega
  · omega
  · intro t h1 h2; rcases Nat.lt_or_ge t s with h3 | h3
    · exact p2 t h1 h3
    obtain rfl : t = s := by omega
    obtain rfl : i = t := by omega
    rw [← rtry_iff (by omega), ← candI_cand (by omega) (by omega) (by omega)]; simpa [Int.ofNat_inj] using qh29
 refine WC.exit (hK4 _ _ (WC.r1 hs5 [] rfl (WC.ret (retV2 rfl (resV.tmp rfl) (resV.tmp rfl) (⟨congrArg Ending.returned ?_, hs5.nil⟩)))))
 have hno : runeL b = none := runeL_none (fun t h1 h3 => by
     rcases Nat.lt_or_ge t s with h4 | h4
     · exact p2 t h1 h4
     · exact rtry_len (by simp at qh7; omega))
 rw [hno]; rfl
theorem k108_ (A_b : Option Addr) (n_b c_b : Nat) (b : List UInt8) (w : World) (f_b : SlF encB w A_b n_b b) (hc : n_b ≤ c_b) (hn : n_b ≤ 549755813888) :
    Calls Tryz.prog 242 #[.slice A_b n_b c_b] w fun e w' => e = .returned (.bool (runeBeg b)) ∧ St w [] [] w' := by
 have hbl := f_b.len
 have hb0 : (gat encB b (Int.toNat 0)).toNat < 2 ^ 8 := (gat encB b 0).toNat_lt
 refine enter 47 Tryz.func242 rfl Tryz.ntmps242 rfl rfl ?_
 have hs1 := St.init w
 refine WC.r1 hs1 [] rfl (WC.seq (fun K2 hK2 => WC.r1 hs1 [] rfl (WC.block (WC.r1 hs1 [] rfl ?_))))
 refine WC.cD rfl (fun qh3 => ?_) (fun qh3 => ?_)
 ·refine WC.sr (WL.r 1 hs1 [] rfl (WL.val rfl rfl rfl (Run.idx Tryz.runUnderlying22 Tryz.sizeOf5 rfl rfl rfl ?_ ?_ ?_) ?_))
  · exact SlF.some_ (SlF.st0 f_b hs1)
  · omega
  · omega
  refine WL.val rfl rfl rfl (Run.load Tryz.isAgg5 rfl rfl (SlF.one1 (SlF.st0 f_b hs1) ?_ rfl)) ?_
  · omega
  refine WL.r 1 hs1 [] rfl (WL.cl Tryz.call97 rfl (k0_ _ _ _ _) ?_)
  rintro _ whs4 ⟨rfl, hs4⟩
  replace hs4 := hs1.call0 hs4
  refine ⟨_, rfl, WL.r 1 hs4 [] rfl (WL.nil (WC.ret (ibR (tkR ?_))))⟩
  clear hK2
  refine rtv rfl rfl hs4 ?_
  obtain ⟨x, rfl⟩ : ∃ x, b = [x] := List.length_eq_one_iff.1 (by omega)
  rfl
 refine WC.r1 hs1 [] rfl (WC.cD rfl (fun qh5 => ?_) (fun qh5 => ?_))
 ·have htl := tlV_bnd (l := b.drop 1) (by rw [List.length_drop]; omega)
  refine WC.sr (WL.r 1 hs1 [] rfl (WL.val rfl rfl rfl (Run.sliceL (1) Tryz.runUnderlying22 Tryz.sizeOf5 rfl rfl rfl ?_ ?_) ?_))
  · first | rfl | (omega)
  · refine ⟨?_, ?_, ?_⟩ <;> (omega)
  refine WL.cl Tryz.call256 rfl (k48_ _ _ _ _ _ (SlF.cutL (1) (SlF.st0 f_b hs1) (by refine ⟨?_, ?_, ?_⟩ <;> (omega))) ?_) ?_
  · first | assumption | rfl | omega
  rintro _ whs6 ⟨rfl, hs6⟩
  replace hs6 := hs1.call0 hs6
  refine ⟨_, rfl, WL.r 5 hs6 [] rfl (WL.nil (WC.sr (WL.r 1 hs6 [] rfl (WL.val rfl rfl rfl (Run.idx Tryz.runUnderlying22 Tryz.sizeOf5 rfl rfl rfl ?_ ?_ ?_) ?_))))⟩
  · exact SlF.some_ (SlF.st0 f_b hs6)
  · omega
  · omega
  refine WL.val rfl rfl rfl (Run.load Tryz.isAgg5 rfl rfl (SlF.one1 (SlF.st0 f_b hs6) ?_ rfl)) ?_
  · omega
  refine WL.r 7 hs6 [] rfl (WL.nil (WC.sr (WL.r 2 hs6 [] rfl ?_)))
  apply WL.gA 4 Acts.nil hs6 rfl
  ·intro g7 J8
   have qg7 := g7
   try simp only [bf, within_iff, within_not] at qg7
   refine WL.runA tbk 1 (Acts.nil.cons (j := 1) rfl g7) hs6 [] rfl trivial (WL.val (wantT rfl g7) rfl rfl (Run.idx Tryz.runUnderlying22 Tryz.sizeOf5 rfl rfl rfl ?_ ?_ ?_) ?_)
   · exact SlF.some_ (SlF.st0 f_b hs6)
   · omega
   · omega
   refine WL.val (wantT rfl g7) rfl rfl (Run.load Tryz.isAgg5 rfl rfl (SlF.one1 (SlF.st0 f_b hs6) ?_ rfl)) ?_
   · omega
   refine WL.runA tbk 1 (Acts.nil.cons (j := 1) rfl g7) hs6 [] rfl trivial (WL.eA 4 Acts.nil J8 hs6 g7 rfl rfl)
  intro _ hs9
  refine WL.r 1 hs9 [] rfl (WL.pA tbk 2 Acts.nil hs9 [] rfl rfl rfl rfl (fun g_ => trivial) (WL.r 1 hs9 [] rfl ?_))
  apply WL.gA 2 Acts.nil hs9 rfl
  ·intro g10 J11
   have qg10 := g10
   try simp only [bf, within_iff, within_not] at qg10
   refine WL.runA tbk 1 (Acts.nil.cons (j := 11) rfl g10) hs9 [] rfl trivial (WL.call (wantT rfl g10) rfl rfl (Run.call Tryz.call171 rfl rfl rfl) (k1_ _ _) ?_)
   rintro _ whs12 ⟨rfl, hs12⟩
   replace hs12 := hs9.call0 hs12
   refine ⟨_, rfl, WL.eA 2 Acts.nil J11 hs12 g10 rfl rfl⟩
  intro _ hs13
  refine WL.r 1 hs13 [] rfl (WL.nil (WC.ret (ibR (tkR ?_))))
  clear hK2
  refine retV1 rfl (resV.tmp rfl) (⟨congrArg Ending.returned (congrArg Value.bool (beg_two (by omega))), hs13.nil⟩)
 refine WC.skip (hK2 _ _ (WC.r1 hs1 [] rfl (WC.ret (rtv rfl rfl hs1 ?_))))
 have h9 : ¬ (b.length = 1 ∨ b.length = 2) := by omega
 rw [beg_len h9]
theorem k109_ (A_b : Option Addr) (n_b c_b : Nat) (b : List UInt8) (w : World) (f_b : SlF encB w A_b n_b b) (hc : n_b ≤ c_b) (hn : n_b ≤ 549755813888) :
    Calls Tryz.prog 220 #[.slice A_b n_b c_b] w fun e w' => e = .returned (.bool (runeBeg b)) ∧ St w [] [] w' := by
 have hbl := f_b.len
 refine enter 53 Tryz.func220 rfl Tryz.ntmps220 rfl rfl ?_
 have hs1 := St.init w
 refine WC.r1 hs1 [] rfl (WC.seq (fun K2 hK2 => WC.sr (WL.r 4 hs1 [] rfl (WL.pO tbk 3 Acts.nil hs1 [] rfl rfl rfl rfl (fun g_ => trivial) (WL.nil ?_)))))
 refine WC.cq rfl (fun h3 qh3 => ?_) (fun h3 qh3 => ?_)
 ·refine WC.r1 hs1 [] rfl (WC.ret (tkR ?_))
  clear hK2
  refine rtv rfl rfl hs1 ?_
  have h9 : ¬ (b.length = 1 ∨ b.length = 2) := by simp at qh3; omega
  rw [beg_len h9]
 have hl : b.length = 1 ∨ b.length = 2 := by simp at qh3; omega
 refine WC.skip (hK2 _ _ (WC.seq (fun K4 hK4 => WC.r1 hs1 [] rfl (WC.block ?_))))
 refine WC.lS [0, 17] rfl hs1 (fun k_ f w' => ∃ (x : Nat), k_ = 192 - x ∧ (128 ≤ x) ∧ (x ≤ 192) ∧ (∀ y : Nat, 128 ≤ y → y < x → begHit b (ub y) = false) ∧ Sub [(3, .int .i64 x)] f) ((fun (x : Nat) => 192 - x) (128)) ?_ ?_
 ·refine ⟨128, rfl, ?_, ?_, ?_, ⟨rfl, trivial⟩⟩
  · omega
  · omega
  · intro y h1 h2; omega
 clear hs1
 rintro _ f w ⟨x, rfl, p0, p1, p2, hG⟩ hF hs5
 refine WC.sub _ (hG.app hF) ?_
 clear hG hF
 refine WC.seq (fun K6 hK6 => WC.r1 hs5 [] rfl ?_)
 refine WC.cD rfl (fun qh7 => ?_) (fun qh7 => ?_)
 ·refine WC.skip (hK6 _ _ (WC.seq (fun K8 hK8 => WC.block (WC.sr (WL.buildF (F := encB) hs5 ([]) Tryz.runUnderlying22 Tryz.sizeOf5 Tryz.zeroValue5 rfl rfl rfl rfl rfl rfl rfl rfl rfl rfl rfl rfl (fun A12 c13 L9 whs10 hs10 ho11 => WL.r 1 hs10 [] rfl ?_))))))
  refine WL.appendG hs10 ho11 (SlF.src (SlF.st0 f_b hs10) Tryz.underlying22) Tryz.underlying22 inf5 rfl rfl rfl rfl rfl rfl rfl rfl rfl rfl ?_ (fun A17 c18 L14 whs15 hs15 ho16 => ?_)
  · simp; omega
  refine WL.r 2 hs15 [] rfl (WL.buildSlice hs15 Tryz.runUnderlying22 Tryz.sizeOf5 Tryz.zeroValue5 rfl rfl rfl rfl rfl rfl rfl rfl rfl rfl (fun b19 whs20 hs20 => ?_))
  refine WL.appendG (hs20.fr L14) ho16 (srcB1 Tryz.underlying22 (hs20.own _ (nthL_mem (i := 0) rfl)).1) Tryz.underlying22 inf5 rfl rfl rfl rfl rfl rfl rfl rfl rfl rfl ?_ (fun A24 c25 L21 whs22 hs22 ho23 => ?_)
  · simp; omega
  replace hs22 := St.back [_] hs22
  refine WL.r 1 hs22 [] rfl (WL.nil (WC.sr (WL.r 1 hs22 [] rfl (WL.cl Tryz.call254 rfl (k107_ _ _ _ _ _ (SlF.ofOwn ho23 (hs22.ow L21)) (OwnF.cap ho23) ?_) ?_))))
  · first | assumption | rfl | omega | (simp; omega)
  rintro _ whs26 ⟨rfl, hs26⟩
  replace hs26 := hs22.call0 hs26
  refine ⟨_, rfl, WL.r 5 hs26 [] rfl (WL.nil (WC.seq (fun K27 hK27 => WC.r1 hs26 [] rfl ?_)))⟩
  refine WC.cD rfl (fun qh28 => ?_) (fun qh28 => ?_)
  ·refine WC.r1 hs26 [] rfl (WC.ret (tkR (ibR (tkR (tkR (ibR (tkR ?_)))))))
   clear hK27 hK8 hK4
   refine rtv rfl rfl hs26 ?_
   rw [beg_yes hl p0 (by omega) (by unfold begHit; rw [decide_eq_true (by simpa [← Int.ofNat_inj] using qh28)]; rfl)]
  have e1 : ¬ rvS (runeL (b ++ [ub x])) = b.length + 1 := by simpa [← Int.ofNat_inj] using qh28
  refine WC.skip (hK27 _ _ (WC.r1 hs26 [] rfl ?_))
  refine WC.cD rfl (fun qh29 => ?_) (fun qh29 => ?_)
  ·refine WC.sr (WL.buildF (F := encB) hs26 ([]) Tryz.runUnderlying22 Tryz.sizeOf5 Tryz.zeroValue5 rfl rfl rfl rfl rfl rfl rfl rfl rfl rfl rfl rfl (fun A33 c34 L30 whs31 hs31 ho32 => ?_))
   replace hs31 := St.back [_] hs31
   refine WL.r 1 hs31 [] rfl (WL.appendG (hs31.fr L30) ho32 (SlF.src (SlF.ofOwn ho23 (hs31.ow L21)) Tryz.underlying22) Tryz.underlying22 inf5 rfl rfl rfl rfl rfl rfl rfl rfl rfl rfl ?_ (fun A38 c39 L35 whs36 hs36 ho37 => ?_))
   · simp; omega
   replace hs36 := St.back [_] hs36
   refine WL.buildSlice hs36 Tryz.runUnderlying22 Tryz.sizeOf5 Tryz.zeroValue5 rfl rfl rfl rfl rfl rfl rfl rfl rfl rfl (fun b40 whs41 hs41 => ?_)
   refine WL.appendG (hs41.fr L35) ho37 (srcF (F := encB) (ys := [129]) Tryz.underlying22 rfl rfl (hs41.own _ (nthL_mem (i := 0) rfl)).1) Tryz.underlying22 inf5 rfl rfl rfl rfl rfl rfl rfl rfl rfl rfl ?_ (fun A45 c46 L42 whs43 hs43 ho44 => ?_)
   · simp; omega
   replace hs43 := St.back [_, _] hs43
   refine WL.r 1 hs43 [] rfl (WL.nil (WC.sr (WL.r 1 hs43 [] rfl (WL.cl Tryz.call254 rfl (k107_ _ _ _ _ _ (SlF.ofOwn ho44 (hs43.ow L42)) (OwnF.cap ho44) ?_) ?_))))
   · first | assumption | rfl | omega | (simp; omega)
   rintro _ whs47 ⟨rfl, hs47⟩
   replace hs47 := hs43.call0 hs47
   refine ⟨_, rfl, WL.r 5 hs47 [] rfl (WL.nil (WC.r1 hs47 [] rfl (WC.cD rfl (fun qh48 => ?_) (fun qh48 => ?_))))⟩
   ·refine WC.r1 hs47 [] rfl (WC.ret (ibR (tkR (tkR (ibR (tkR ?_))))))
    clear hK8 hK4
    refine rtv rfl rfl hs47 ?_
    rw [beg_yes hl p0 (by omega) (by unfold begHit; rw [decide_eq_true (show b.length = 1 by omega), decide_eq_true (show rvS (runeL (b ++ [ub x, 129])) = 3 by simp at qh48; omega)]; simp)]
   have e2 : b.length = 1 → ¬ rvS (runeL (b ++ [ub x, 129])) = 3 := fun _ => by simp at qh48; omega
   refine WC.skip (hK8 _ _ (WC.region (WL.r 3 hs47 [] rfl (WL.nil (tkN ?_)))))
   refine ⟨sbF rfl, (hs47.drop (by repeat (first | exact List.Sublist.refl _ | exact List.sublist_append_left _ _ | exact List.Sublist.trans (List.sublist_append_left _ _) (List.sublist_append_left _ _) | apply List.Sublist.cons | refine List.Sublist.trans ?_ (sR _)))), _, ?_, x + 1, rfl, ?_, ?_, ?_, ⟨rfl, trivial⟩⟩
   · omega
   · omega
   · omega
   · intro y h1 h2; rcases Nat.lt_or_ge y x with h3 | h3
     · exact p2 y h1 h3
     obtain rfl : y = x := by omega
     unfold begHit; rw [decide_eq_false e1]; simp only [Bool.false_or, Bool.and_eq_false_iff, decide_eq_false_iff_not]; by_cases h9 : b.length = 1
     · exact .inr (e2 h9)
     · exact .inl h9
  have e2 : b.length = 1 → ¬ rvS (runeL (b ++ [ub x, 129])) = 3 := fun h_ => absurd h_ (by omega)
  refine WC.skip (hK8 _ _ (WC.region (WL.r 3 hs26 [] rfl (WL.nil (tkN ?_)))))
  refine ⟨sbF rfl, (hs26.drop (by repeat (first | exact List.Sublist.refl _ | exact List.sublist_append_left _ _ | exact List.Sublist.trans (List.sublist_append_left _ _) (List.sublist_append_left _ _) | apply List.Sublist.cons | refine List.Sublist.trans ?_ (sR _)))), _, ?_, x + 1, rfl, ?_, ?_, ?_, ⟨rfl, trivial⟩⟩
  · omega
  · omega
  · omega
  · intro y h1 h2; rcases Nat.lt_or_ge y x with h3 | h3
    · exact p2 y h1 h3
    obtain rfl : y = x := by omega
    unfold begHit; rw [decide_eq_false e1]; simp only [Bool.false_or, Bool.and_eq_false_iff, decide_eq_false_iff_not]; by_cases h9 : b.length = 1
    · exact .inr (e2 h9)
    · exact .inl h9
 refine WC.exit (hK4 _ _ (WC.r1 hs5 [] rfl (WC.ret (rtv rfl rfl hs5 ?_))))
 rw [beg_no hl (fun y h1 h2 => p2 y h1 (by omega))]
theorem k110_ (n : Int) (w : World) :
    Calls Tryz.prog 188 #[i64 n] w fun e w' => e = .returned (.bool (!within n 0 9999)) ∧ St w [] [] w' := by
 refine enter 6 Tryz.func188 rfl Tryz.ntmps188 rfl rfl ?_
 have hs1 := St.init w
 refine WC.r1 hs1 [] rfl (WC.sr (WL.r 1 hs1 [] rfl (WL.cl Tryz.call97 rfl (k0_ _ _ _ _) ?_)))
 rintro _ whs2 ⟨rfl, hs2⟩
 replace hs2 := hs1.call0 hs2
 refine ⟨_, rfl, WL.r 2 hs2 [] rfl (WL.nil (WC.ret (rtv rfl rfl hs2 ?_)))⟩
 rfl
theorem k111_ (A_s : Option Addr) (n_s c_s : Nat) (s : List Int) (w : World) (f_s : SlF encI w A_s n_s s) (hn : n_s ≤ 1099511627776) :
    Calls Tryz.prog 226 #[.slice A_s n_s c_s, .func (.func 188) #[] #[]] w fun e w' => e = .returned (.int .i64 (findI (fun n => !within n 0 9999) s)) ∧ St w [] [] w' := by
 refine enter 19 Tryz.func226 rfl Tryz.ntmps226 rfl rfl ?_
 have hs1 := St.init w
 refine WC.r1 hs1 [] rfl (WC.seq (fun K2 hK2 => WC.r1 hs1 [] rfl (WC.block ?_)))
 refine WC.lS [0, 1, 7] rfl hs1 (fun k_ f w' => ∃ (i : Nat), k_ = n_s - i ∧ (i ≤ n_s) ∧ (∀ j, j < i → (fun n => !within n 0 9999) (gat encI s j) = false) ∧ Sub [(8, .int .i64 i)] f) ((fun (i : Nat) => n_s - i) (0)) ?_ ?_
 ·refine ⟨0, rfl, ?_, ?_, ⟨rfl, trivial⟩⟩
  · exact Nat.zero_le _
  · exact fun j hj => absurd hj (by omega)
 clear hs1
 rintro _ f w ⟨i, rfl, p0, p1, hG⟩ hF hs3
 refine WC.sub _ (hG.app hF) ?_
 clear hG hF
 refine WC.r1 hs3 [] rfl (WC.seq (fun K4 hK4 => ?_))
 refine WC.cond rfl (fun h5 => ?_) (fun h5 => ?_)
 ·have qh5 := h5
  try simp only [decide_eq_true_eq, decide_eq_false_iff_not] at qh5
  refine WC.skip (hK4 _ _ (WC.seq (fun K6 hK6 => WC.block (WC.r1 hs3 [] rfl (WC.sr (WL.r 3 hs3 [] rfl ?_))))))
  refine WL.val rfl rfl rfl (Run.idxN Tryz.runUnderlying23 Tryz.sizeOf3 rfl rfl rfl ?_ ?_ ?_) ?_
  · exact SlF.some_ (SlF.st0 f_s hs3)
  · omega
  · omega
  refine WL.val rfl rfl rfl (Run.load Tryz.isAgg3 rfl rfl (SlF.one1 (SlF.st0 f_s hs3) ?_ rfl)) ?_
  · omega
  refine WL.cl Tryz.call188 rfl (k110_ _ _) ?_
  rintro _ whs7 ⟨rfl, hs7⟩
  replace hs7 := hs3.call0 hs7
  refine ⟨_, rfl, WL.nil (WC.cond rfl (fun h8 => ?_) (fun h8 => ?_))⟩
  ·have qh8 := h8
   try simp only [decide_eq_true_eq, decide_eq_false_iff_not] at qh8
   refine WC.r1 hs7 [] rfl (WC.ret (ibR (tkR (tkR (ibR (tkR ?_))))))
   clear hK6 hK2
   refine rtv rfl rfl hs7 ?_
   rw [findI_some (F := encI) (by rw [f_s.len]; omega) p1 h8]
  have qh8 := h8
  try simp only [decide_eq_true_eq, decide_eq_false_iff_not] at qh8
  refine WC.skip (hK6 _ _ (WC.region (WL.r 2 hs7 [] rfl (WL.nil (tkN ?_)))))
  refine ⟨sbF rfl, hs7, _, ?_, i + 1, rfl, ?_, ?_, ⟨rfl, trivial⟩⟩
  · omega
  · omega
  · intro j hj; rcases Nat.lt_or_ge j i with h_ | h_
    · exact p1 j h_
    · obtain rfl : j = i := by omega
      exact h8
 have qh5 := h5
 try simp only [decide_eq_true_eq, decide_eq_false_iff_not] at qh5
 refine WC.exit (hK2 _ _ (WC.r1 hs3 [] rfl (WC.ret (rtv rfl rfl hs3 ?_))))
 rw [findI_none (F := encI) (fun j hj => p1 j (by rw [f_s.len] at hj; omega))]
theorem k112_ (A_s : Option Addr) (n_s c_s : Nat) (s : List Int) (w : World) (f_s : SlF encI w A_s n_s s) (hn : n_s ≤ 549755813888) :
    Calls Tryz.prog 187 #[.slice A_s n_s c_s, .func (.func 188) #[] #[]] w fun e w' => e = .returned (.bool (decide (0 ≤ findI (fun n => !within n 0 9999) s))) ∧ St w [] [] w' := by
 refine enter 9 Tryz.func187 rfl Tryz.ntmps187 rfl rfl ?_
 have hs1 := St.init w
 refine WC.r1 hs1 [] rfl (WC.sr (WL.r 2 hs1 [] rfl (WL.cl Tryz.call226 rfl (k111_ _ _ _ _ _ (SlF.st0 f_s hs1) ?_) ?_)))
 · first | assumption | rfl | omega
 rintro _ whs2 ⟨rfl, hs2⟩
 replace hs2 := hs1.call0 hs2
 refine ⟨_, rfl, WL.r 2 hs2 [] rfl (WL.nil (WC.ret (rtv rfl rfl hs2 ?_)))⟩
 rfl
theorem k113_ (A_l : Option Addr) (n_l c_l : Nat) (l : List Int) (w : World) (f_l : SlF encI w A_l n_l l) (hn : n_l ≤ 549755813888) :
    Calls Tryz.prog 101 #[.slice A_l n_l c_l] w fun e w' => e = .returned (.bool (areArgs l)) ∧ St w [] [] w' := by
 refine enter 11 Tryz.func101 rfl Tryz.ntmps101 rfl rfl ?_
 have hs1 := St.init w
 refine WC.r1 hs1 [] rfl (WC.sr (WL.r 4 hs1 [] rfl ?_))
 apply WL.gA 3 Acts.nil hs1 rfl
 ·intro g2 J3
  have qg2 := g2
  try simp only [bf, within_iff, within_not] at qg2
  refine WL.runA tbk 1 (Acts.nil.cons (j := 3) rfl g2) hs1 [] rfl trivial (WL.call (wantT rfl g2) rfl rfl (Run.call Tryz.call187 rfl rfl rfl) (k112_ _ _ _ _ _ (SlF.st0 f_l hs1) ?_) ?_)
  · first | assumption | rfl | omega
  rintro _ whs4 ⟨rfl, hs4⟩
  replace hs4 := hs1.call0 hs4
  refine ⟨_, rfl, WL.runA tbk 1 (Acts.nil.cons (j := 3) rfl g2) hs4 [] rfl trivial (WL.eA 3 Acts.nil J3 hs4 g2 rfl rfl)⟩
 intro _ hs5
 refine WL.r 1 hs5 [] rfl (WL.nil (WC.ret (rtv rfl rfl hs5 ?_)))
 rw [all_find, ← f_l.len]; unfold areArgs; rw [show decide ((l.length : Int) ≤ 8) = decide (l.length ≤ 8) from by rw [decide_eq_decide]; omega]
theorem k114_ (n : Int) (w : World) :
    Calls Tryz.prog 219 #[i64 n] w fun e w' => e = .returned (.bool (decide (n = 2) || decide (n = 3))) ∧ St w [] [] w' := by
 refine enter 9 Tryz.func219 rfl Tryz.ntmps219 rfl rfl ?_
 have hs1 := St.init w
 refine WC.r1 hs1 [] rfl (WC.sr (WL.r 3 hs1 [] rfl (WL.pO tbk 2 Acts.nil hs1 [] rfl rfl rfl rfl (fun g_ => trivial) (WL.r 1 hs1 [] rfl (WL.nil (WC.ret (retV1 rfl (resV.tmp rfl) ?_)))))))
 refine ⟨congrArg Ending.returned ?_, hs1.nil⟩
 rfl
theorem k115_ (p : VpR) (w : World) (f_p : okVpR 549755813888 w p) :
    Calls Tryz.prog 191 #[.agg #[i64 p.State, .bool p.Mark, .slice p.Args.A p.Args.n p.Args.c, .slice p.Part.A p.Part.n p.Part.c]] w fun e w' => e = .returned (.bool (vpOk p.dat)) ∧ St w [] [] w' := by
 have nb_p_Args := f_p.Args_n
 have nl_p_Args := f_p.Args.len
 have nb_p_Part := f_p.Part_n
 have nl_p_Part := f_p.Part.len
 have hal := f_p.Args.len
 have hpl := f_p.Part.len
 have e1 : decide ((p.Args.n : Int) = 0) = decide (p.dat.Args.length = 0) := by rw [decide_eq_decide]; show _ ↔ p.Args.xs.length = 0; omega
 have e2 : decide ((p.Part.n : Int) = 0) = decide (p.dat.Part.length = 0) := by rw [decide_eq_decide]; show _ ↔ p.Part.xs.length = 0; omega
 refine enter 56 Tryz.func191 rfl Tryz.ntmps191 rfl rfl ?_
 have hs1 := St.init w
 refine WC.sr (WL.bx hs1 rfl (fun b2 _ hs3 => WL.r 1 hs3 [] rfl (WL.nil (WC.seq (fun K4 hK4 => WC.r1 hs3 [0] rfl (WC.block (WC.r1 hs3 [] rfl ?_)))))))
 refine WC.cD rfl (fun qh5 => ?_) (fun qh5 => ?_)
 ·refine WC.sr (WL.r 4 hs3 [0] rfl (WL.pA tbk 4 Acts.nil hs3 [0] rfl rfl rfl rfl (fun g_ => ⟨rfl, trivial⟩) (WL.r 1 hs3 [] rfl ?_)))
  apply WL.gA 9 Acts.nil hs3 rfl
  ·intro g6 J7
   have qg6 := g6
   try simp only [bf, within_iff, within_not] at qg6
   refine WL.runA tbk 5 (Acts.nil.cons (j := 9) rfl g6) hs3 [0] rfl ⟨rfl, trivial⟩ ?_
   apply WL.gO 3 (Acts.nil.cons (j := 9) rfl g6) hs3 rfl
   ·intro g8 J9
    have qg8 := g8
    try simp only [bf, within_iff, within_not] at qg8
    refine WL.runA tbk 2 (Acts.nil.cons (j := 14) rfl g8) hs3 [0] rfl ⟨rfl, trivial⟩ (WL.call (wantF rfl g8) rfl rfl (Run.call Tryz.call242 rfl rfl rfl) (k108_ _ _ _ _ _ (SlF.st0 f_p.Part hs3) f_p.Part_c ?_) ?_)
    · first | assumption | rfl | omega
    rintro _ whs10 ⟨rfl, hs10⟩
    replace hs10 := hs3.call0 hs10
    refine ⟨_, rfl, WL.eO 3 (Acts.nil.cons (j := 9) rfl g6) J9 hs10 g8 rfl rfl⟩
   intro _ hs11
   exact WL.eA 6 Acts.nil J7 hs11 g6 rfl rfl
  intro _ hs12
  refine WL.r 1 hs12 [] rfl (WL.nil (WC.ret (ibR (tkR ?_))))
  clear hK4
  refine rtv rfl rfl hs12 ?_
  rw [e1, e2]; unfold vpOk; rw [if_pos (by show p.State = 0; omega)]; rfl
 refine WC.r1 hs3 [] rfl (WC.cD rfl (fun qh13 => ?_) (fun qh13 => ?_))
 ·refine WC.sr (WL.r 4 hs3 [0] rfl (WL.pA tbk 4 Acts.nil hs3 [0] rfl rfl rfl rfl (fun g_ => ⟨rfl, trivial⟩) (WL.r 1 hs3 [] rfl (WL.pA tbk 4 Acts.nil hs3 [0] rfl rfl rfl rfl (fun g_ => ⟨rfl, trivial⟩) (WL.r 1 hs3 [] rfl (WL.nil (WC.ret ?_)))))))
  refine ibR (tkR ?_)
  clear hK4
  refine rtv rfl rfl hs3 ?_
  rw [e1, e2]; unfold vpOk; rw [if_neg (by show ¬ p.State = 0; omega), if_pos (by show p.State = 1; omega)]; rfl
 refine WC.seq (fun K14 hK14 => WC.r1 hs3 [] rfl ?_)
 refine WC.cD rfl (fun qh15 => ?_) (fun qh15 => ?_)
 ·refine WC.skip (hK14 _ _ (WC.condT rfl (decide_eq_true qh15) (WC.sr (WL.r 2 hs3 [0] rfl ?_))))
  refine WL.cl Tryz.call101 rfl (k113_ _ _ _ _ _ (SlF.st0 f_p.Args hs3) ?_) ?_
  · first | assumption | rfl | omega
  rintro _ whs17 ⟨rfl, hs17⟩
  replace hs17 := hs3.call0 hs17
  refine ⟨_, rfl, WL.r 1 hs17 [] rfl (WL.pA tbk 4 Acts.nil hs17 [0] rfl rfl rfl rfl (fun g_ => ⟨rfl, trivial⟩) (WL.r 1 hs17 [] rfl (WL.nil (WC.ret (ibR (tkR ?_))))))⟩
  clear hK4
  refine rtv rfl rfl hs17 ?_
  rw [vpOk_csi (.inl (by show p.State = 2; omega)), e2]; rfl
 refine WC.region (WL.r 2 hs3 [] rfl (WL.nil (hK14 _ _ ?_)))
 refine WC.cD rfl (fun qh18 => ?_) (fun qh18 => ?_)
 ·refine WC.sr (WL.r 2 hs3 [0] rfl (WL.cl Tryz.call101 rfl (k113_ _ _ _ _ _ (SlF.st0 f_p.Args hs3) ?_) ?_))
  · first | assumption | rfl | omega
  rintro _ whs19 ⟨rfl, hs19⟩
  replace hs19 := hs3.call0 hs19
  refine ⟨_, rfl, WL.r 1 hs19 [] rfl (WL.pA tbk 4 Acts.nil hs19 [0] rfl rfl rfl rfl (fun g_ => ⟨rfl, trivial⟩) (WL.r 1 hs19 [] rfl (WL.nil (WC.ret (ibR (tkR ?_))))))⟩
  clear hK4
  refine rtv rfl rfl hs19 ?_
  rw [vpOk_csi (.inr (by show p.State = 3; omega)), e2]; rfl
 refine WC.skip (hK4 _ _ (WC.r1 hs3 [] rfl (WC.ret (rtv rfl rfl hs3 ?_))))
 unfold vpOk; rw [if_neg (by show ¬ p.State = 0; omega), if_neg (by show ¬ p.State = 1; omega), if_neg (by show ¬ (p.State = 2 ∨ p.State = 3); omega)]
theorem k116_ (p : VpR) (w : World) (f_p : okVpR 549755813888 w p) :
    Calls Tryz.prog 165 #[.agg #[i64 p.State, .bool p.Mark, .slice p.Args.A p.Args.n p.Args.c, .slice p.Part.A p.Part.n p.Part.c]] w fun e w' => e = .returned (.bool (vpOk p.dat)) ∧ St w [] [] w' := by
 have nb_p_Args := f_p.Args_n
 have nl_p_Args := f_p.Args.len
 have nb_p_Part := f_p.Part_n
 have nl_p_Part := f_p.Part.len
 have hal := f_p.Args.len
 have hpl := f_p.Part.len
 have e1 : decide ((p.Args.n : Int) = 0) = decide (p.dat.Args.length = 0) := by rw [decide_eq_decide]; show _ ↔ p.Args.xs.length = 0; omega
 have e2 : decide ((p.Part.n : Int) = 0) = decide (p.dat.Part.length = 0) := by rw [decide_eq_decide]; show _ ↔ p.Part.xs.length = 0; omega
 refine enter 63 Tryz.func165 rfl Tryz.ntmps165 rfl rfl ?_
 have hs1 := St.init w
 refine WC.sr (WL.bx hs1 rfl (fun b2 _ hs3 => WL.r 1 hs3 [] rfl (WL.nil (WC.seq (fun K4 hK4 => WC.sr (WL.r 4 hs3 [0] rfl (WL.pO tbk 3 Acts.nil hs3 [0] rfl rfl rfl rfl (fun g_ => ⟨rfl, trivial⟩) ?_)))))))
 refine WL.r 1 hs3 [] rfl (WL.pO tbk 4 Acts.nil hs3 [0] rfl rfl rfl rfl (fun g_ => ⟨rfl, trivial⟩) (WL.r 1 hs3 [] rfl ?_))
 apply WL.gO 14 Acts.nil hs3 rfl
 ·intro g5 J6
  have qg5 := g5
  try simp only [bf, within_iff, within_not] at qg5
  refine WL.runA tbk 2 (Acts.nil.cons (j := 14) rfl g5) hs3 [0] rfl ⟨rfl, trivial⟩ (WL.call (wantF rfl g5) rfl rfl (Run.call Tryz.call219 rfl rfl rfl) (k114_ _ _) ?_)
  rintro _ whs7 ⟨rfl, hs7⟩
  replace hs7 := hs3.call0 hs7
  refine ⟨_, rfl, WL.runA tbk 2 (Acts.nil.cons (j := 14) rfl g5) hs7 [] rfl trivial ?_⟩
  apply WL.gA 8 (Acts.nil.cons (j := 14) rfl g5) hs7 rfl
  ·intro g8 J9
   have qg8 := g8
   try simp only [bf, within_iff, within_not] at qg8
   refine WL.runA tbk 3 (Acts.nil.cons (j := 19) rfl g8) hs7 [0] rfl ⟨rfl, trivial⟩ (WL.pO tbk 4 (Acts.nil.cons (j := 19) rfl g8) hs7 [0] rfl rfl rfl rfl (fun g_ => ⟨rfl, trivial⟩) (WL.eA 4 (Acts.nil.cons (j := 14) rfl g5) J9 hs7 g8 rfl rfl))
  intro _ hs10
  exact WL.eO 6 Acts.nil J6 hs10 g5 rfl rfl
 intro _ hs11
 refine WL.nil (WC.cq rfl (fun h12 qh12 => ?_) (fun h12 qh12 => ?_))
 ·have hbad : vpBad p.dat = true := by unfold vpBad; rw [show p.dat.Args.length = p.Args.n from hal]; exact h12
  refine WC.r1 hs11 [] rfl (WC.ret (tkR ?_))
  clear hK4
  refine rtv rfl rfl hs11 ?_
  rw [vpOk_bad hbad]
 have hbad : vpBad p.dat = false := by unfold vpBad; rw [show p.dat.Args.length = p.Args.n from hal]; exact h12
 refine WC.skip (hK4 _ _ (WC.seq (fun K13 hK13 => WC.r1 hs11 [0] rfl (WC.block ?_))))
 refine WC.lS [1, 34, 36, 37] rfl hs11 (fun k_ f w' => ∃ (i : Nat), k_ = p.Args.n - i ∧ (i ≤ p.Args.n) ∧ (∀ j, j < i → within (gat encI p.Args.xs j) 0 9999 = true) ∧ Sub [(38, .int .i64 i)] f) ((fun (i : Nat) => p.Args.n - i) (0)) ?_ ?_
 ·refine ⟨0, rfl, ?_, ?_, ⟨rfl, trivial⟩⟩
  · exact Nat.zero_le _
  · exact fun j hj => absurd hj (by omega)
 clear hs11
 rintro _ f w ⟨i, rfl, p0, p1, hG⟩ hF hs14
 refine WC.sub _ (hG.app hF) ?_
 clear hG hF
 refine WC.r1 hs14 [] rfl (WC.seq (fun K15 hK15 => ?_))
 refine WC.cD rfl (fun qh16 => ?_) (fun qh16 => ?_)
 ·refine WC.skip (hK15 _ _ (WC.seq (fun K17 hK17 => WC.block (WC.sr ?_))))
  refine WL.val rfl rfl rfl (Run.idxN Tryz.runUnderlying23 Tryz.sizeOf3 rfl rfl rfl ?_ ?_ ?_) ?_
  · exact SlF.some_ (SlF.st0 f_p.Args hs14)
  · omega
  · omega
  refine WL.val rfl rfl rfl (Run.load Tryz.isAgg3 rfl rfl (SlF.one1 (SlF.st0 f_p.Args hs14) ?_ rfl)) ?_
  · omega
  refine WL.r 1 hs14 [] rfl (WL.nil (WC.sr (WL.r 3 hs14 [] rfl (WL.pO tbk 2 Acts.nil hs14 [] rfl rfl rfl rfl (fun g_ => trivial) (WL.nil (WC.cq rfl (fun h18 qh18 => ?_) (fun h18 qh18 => ?_)))))))
  ·refine WC.r1 hs14 [] rfl (WC.ret (ibR (tkR (tkR (ibR (tkR ?_))))))
   clear hK17 hK13
   refine rtv rfl rfl hs14 ?_
   rw [vpOk_arg (v := p.dat) (j := i) (by show i < p.Args.xs.length; omega) (by rw [← Bool.not_eq_true, within_iff]; show ¬ (0 ≤ gat encI p.Args.xs i ∧ gat encI p.Args.xs i ≤ 9999); simp at qh18; omega)]
  refine WC.skip (hK17 _ _ (WC.region (WL.r 2 hs14 [] rfl (WL.nil (tkN ?_)))))
  refine ⟨sbF rfl, hs14, _, ?_, i + 1, rfl, ?_, ?_, ⟨rfl, trivial⟩⟩
  · omega
  · omega
  · intro j hj; rcases Nat.lt_or_ge j i with h_ | h_
    · exact p1 j h_
    · obtain rfl : j = i := by omega
      rw [within_iff]; simp at qh18; omega
 refine WC.exit (hK13 _ _ (WC.sr (WL.r 5 hs14 [0] rfl ?_)))
 apply WL.gO 8 Acts.nil hs14 rfl
 ·intro g19 J20
  have qg19 := g19
  try simp only [bf, within_iff, within_not] at qg19
  refine WL.runA tbk 4 (Acts.nil.cons (j := 4) rfl g19) hs14 [0] rfl ⟨rfl, trivial⟩ ?_
  apply WL.gA 3 (Acts.nil.cons (j := 4) rfl g19) hs14 rfl
  ·intro g21 J22
   have qg21 := g21
   try simp only [bf, within_iff, within_not] at qg21
   refine WL.runA tbk 2 (Acts.nil.cons (j := 8) rfl g21) hs14 [0] rfl ⟨rfl, trivial⟩ (WL.call (wantT rfl g21) rfl rfl (Run.call Tryz.call220 rfl rfl rfl) (k109_ _ _ _ _ _ (SlF.st0 f_p.Part hs14) f_p.Part_c ?_) ?_)
   · first | assumption | rfl | omega
   rintro _ whs23 ⟨rfl, hs23⟩
   replace hs23 := hs14.call0 hs23
   refine ⟨_, rfl, WL.eA 3 (Acts.nil.cons (j := 4) rfl g19) J22 hs23 g21 rfl rfl⟩
  intro _ hs24
  exact WL.eO 5 Acts.nil J20 hs24 g19 rfl rfl
 intro _ hs25
 refine WL.r 1 hs25 [] rfl (WL.nil (WC.ret (rtv rfl rfl hs25 ?_)))
 rw [vpOk_end hbad (fun j hj => p1 j (by have : j < p.Args.xs.length := hj; omega)), e2]; rfl
end Go.Proofs.YtjmegoiclgancaaGreat
