/-
  The statement: for every input the law returns true. No condition. (And what it stands on, the last part.)
-/
import Derived.Test.YthfhhldbglaieaaGreatKL6
namespace Go.Proofs.YthfhhldbglaieaaGreat
open Go Go.RowKit
set_option linter.unusedVariables false
set_option linter.unusedSimpArgs false
set_option maxHeartbeats 16000000 in
set_option maxRecDepth 20000 in
theorem k193_ (A_a : Option Addr) (n_a c_a : Nat) (a : List PaneR) (k : Int) (w : World) (f_a : SlN encPaneR (okPaneR 549755813888) w A_a n_a (mrks mkEPane cntEPane k a)) (h1 : 0 ≤ k) (h2 : k + cnts cntEPane a ≤ 549755813888) (h3 : n_a ≤ 549755813888) :
    Calls Tryz.prog 68 #[.slice A_a n_a c_a, i64 k] w fun e w' => e = .returned (.int .i64 (k + cnts cntEPane a)) ∧ St w [] [] w' := by
 have hl : a.length = n_a := by have h_ := f_a.sl.len; simpa [mrks_len] using h_
 have hcn : ∀ x, 0 ≤ cntEPane x := cntEPane_ge
 refine enter 492 Tryz.func68 rfl Tryz.ntmps68 rfl rfl ?_
 have hs1 := St.init w
 refine WC.r1 hs1 [] rfl (WC.seq (fun K2 hK2 => WC.r1 hs1 [] rfl (WC.block ?_)))
 refine WC.lS [0] rfl hs1 (fun k_ f w' => ∃ (i : Nat), k_ = n_a - i ∧ (i ≤ n_a) ∧ Sub [(5, .int .i64 i), (1, .int .i64 (k + cnts cntEPane (a.take i)))] f) ((fun (i : Nat) => n_a - i) (0)) ?_ ?_
 ·refine ⟨0, rfl, ?_, ⟨rfl, ?_, trivial⟩⟩
  · exact Nat.zero_le _
  · (refine congrArg some (congrArg (Value.int _) ?_); simp [cnts])
 clear hs1
 rintro _ f w ⟨i, rfl, p0, hG⟩ hF hs3
 refine WC.sub _ (hG.app hF) ?_
 clear hG hF
 have hq0 := cnts_nonneg (c := cntEPane) hcn (a.take i)
 have hq1 := cnts_take_le hcn a i
 refine WC.seq (fun K4 hK4 => WC.r1 hs3 [] rfl ?_)
 refine WC.cD rfl (fun qh5 => ?_) (fun qh5 => ?_)
 ·have hg := mrks_gat (mk := mkEPane) (c := cntEPane) (F := encPaneR) (k := k) (xs := a) (i := i) (by omega)
  have hq2 := cnts_take (c := cntEPane) (F := encPaneR) (xs := a) (i := i) (by omega)
  have hq3 := cnts_take_le hcn a (i + 1)
  simp only [cntEPane] at hq2
  have hng := (SlN.nth f_a (show i < n_a by omega))
  rw [hg] at hng
  have hnl_Term_P_Args := hng.Term.P.Args.len
  have hnl_Term_P_Part := hng.Term.P.Part.len
  have hnl_Term_S_Main_Cells := hng.Term.S.Main.Cells.len
  have hnl_Term_S_Alt_Cells := hng.Term.S.Alt.Cells.len
  have hnl_Term_S_Tabs := hng.Term.S.Tabs.len
  have hnl_Term_S_Back := hng.Term.S.Back.sl.len
  have hnn_Term_P_Args := hng.Term.P.Args_n
  have hnn_Term_P_Part := hng.Term.P.Part_n
  have hnn_Term_S_Main_Cells := hng.Term.S.Main.Cells_n
  have hnn_Term_S_Alt_Cells := hng.Term.S.Alt.Cells_n
  have hnn_Term_S_Tabs := hng.Term.S.Tabs_n
  have hnn_Term_S_Back := hng.Term.S.Back_n
  simp only [mkEPane, marks_len, mrks_len] at hnl_Term_P_Args hnn_Term_P_Args hnl_Term_P_Part hnn_Term_P_Part hnl_Term_S_Main_Cells hnn_Term_S_Main_Cells hnl_Term_S_Alt_Cells hnn_Term_S_Alt_Cells hnl_Term_S_Tabs hnn_Term_S_Tabs hnl_Term_S_Back hnn_Term_S_Back
  have hnn9_Term_S_Back := cnts_nonneg (c := cntERow) cntERow_ge (gat encPaneR a i).Term.S.Back.xs
  have hgn_Term_P_Args : (gat encPaneR (mrks mkEPane cntEPane k a) i).Term.P.Args.n = (gat encPaneR a i).Term.P.Args.n := by rw [hg]; rfl
  have hgn_Term_P_Part : (gat encPaneR (mrks mkEPane cntEPane k a) i).Term.P.Part.n = (gat encPaneR a i).Term.P.Part.n := by rw [hg]; rfl
  have hgn_Term_S_Main_Cells : (gat encPaneR (mrks mkEPane cntEPane k a) i).Term.S.Main.Cells.n = (gat encPaneR a i).Term.S.Main.Cells.n := by rw [hg]; rfl
  have hgn_Term_S_Alt_Cells : (gat encPaneR (mrks mkEPane cntEPane k a) i).Term.S.Alt.Cells.n = (gat encPaneR a i).Term.S.Alt.Cells.n := by rw [hg]; rfl
  have hgn_Term_S_Tabs : (gat encPaneR (mrks mkEPane cntEPane k a) i).Term.S.Tabs.n = (gat encPaneR a i).Term.S.Tabs.n := by rw [hg]; rfl
  have hgn_Term_S_Back : (gat encPaneR (mrks mkEPane cntEPane k a) i).Term.S.Back.n = (gat encPaneR a i).Term.S.Back.n := by rw [hg]; rfl
  have hm_Term_P_Args : (gat encPaneR (mrks mkEPane cntEPane k a) i).Term.P.Args.xs = marks (fun k => k) 1 (((((((((k + cnts cntEPane (a.take i)) + 1) + 1) + 1) + 1) + 1) + 1) + 1) + 1) (gat encPaneR a i).Term.P.Args.xs.length := by rw [hg]; rfl
  have hm_Term_P_Part : (gat encPaneR (mrks mkEPane cntEPane k a) i).Term.P.Part.xs = marks ub 1 ((((((((((k + cnts cntEPane (a.take i)) + 1) + 1) + 1) + 1) + 1) + 1) + 1) + 1) + 1 * ((gat encPaneR a i).Term.P.Args.xs.length : Int)) (gat encPaneR a i).Term.P.Part.xs.length := by rw [hg]; rfl
  have hm_Term_S_Main_Cells : (gat encPaneR (mrks mkEPane cntEPane k a) i).Term.S.Main.Cells.xs = marks mkCell 6 (((((((((((((((k + cnts cntEPane (a.take i)) + 1) + 1) + 1) + 1) + 1) + 1) + 1) + 1) + 1 * ((gat encPaneR a i).Term.P.Args.xs.length : Int)) + 1 * ((gat encPaneR a i).Term.P.Part.xs.length : Int)) + 1) + 1) + 1) + 1) (gat encPaneR a i).Term.S.Main.Cells.xs.length := by rw [hg]; rfl
  have hm_Term_S_Alt_Cells : (gat encPaneR (mrks mkEPane cntEPane k a) i).Term.S.Alt.Cells.xs = marks mkCell 6 ((((((((((((((((((k + cnts cntEPane (a.take i)) + 1) + 1) + 1) + 1) + 1) + 1) + 1) + 1) + 1 * ((gat encPaneR a i).Term.P.Args.xs.length : Int)) + 1 * ((gat encPaneR a i).Term.P.Part.xs.length : Int)) + 1) + 1) + 1) + 1) + 6 * ((gat encPaneR a i).Term.S.Main.Cells.xs.length : Int)) + 1) + 1) (gat encPaneR a i).Term.S.Alt.Cells.xs.length := by rw [hg]; rfl
  have hm_Term_S_Tabs : (gat encPaneR (mrks mkEPane cntEPane k a) i).Term.S.Tabs.xs = marks (fun k => k) 1 (((((((((((((((((((((((((((((((((((((((k + cnts cntEPane (a.take i)) + 1) + 1) + 1) + 1) + 1) + 1) + 1) + 1) + 1 * ((gat encPaneR a i).Term.P.Args.xs.length : Int)) + 1 * ((gat encPaneR a i).Term.P.Part.xs.length : Int)) + 1) + 1) + 1) + 1) + 6 * ((gat encPaneR a i).Term.S.Main.Cells.xs.length : Int)) + 1) + 1) + 6 * ((gat encPaneR a i).Term.S.Alt.Cells.xs.length : Int)) + 1) + 1) + 1) + 1) + 1) + 1) + 1) + 1) + 1) + 1) + 1) + 1) + 1) + 1) + 1) + 1) + 1) + 1) + 1) + 1) (gat encPaneR a i).Term.S.Tabs.xs.length := by rw [hg]; rfl
  have hm_Term_S_Back : (gat encPaneR (mrks mkEPane cntEPane k a) i).Term.S.Back.xs = mrks mkERow cntERow (((((((((((((((((((((((((((((((((((((((((k + cnts cntEPane (a.take i)) + 1) + 1) + 1) + 1) + 1) + 1) + 1) + 1) + 1 * ((gat encPaneR a i).Term.P.Args.xs.length : Int)) + 1 * ((gat encPaneR a i).Term.P.Part.xs.length : Int)) + 1) + 1) + 1) + 1) + 6 * ((gat encPaneR a i).Term.S.Main.Cells.xs.length : Int)) + 1) + 1) + 6 * ((gat encPaneR a i).Term.S.Alt.Cells.xs.length : Int)) + 1) + 1) + 1) + 1) + 1) + 1) + 1) + 1) + 1) + 1) + 1) + 1) + 1) + 1) + 1) + 1) + 1) + 1) + 1) + 1) + 1 * ((gat encPaneR a i).Term.S.Tabs.xs.length : Int)) + 1) (gat encPaneR a i).Term.S.Back.xs := by rw [hg]; rfl
  have hfx_Term_S_Back := (SlN.nth f_a (show i < n_a by omega)).Term.S.Back
  rw [hm_Term_S_Back] at hfx_Term_S_Back
  refine WC.skip (hK4 _ _ (WC.seq (fun K6 hK6 => WC.block (WC.seq (fun K7 hK7 => WC.sr (WL.r 2 hs3 [] rfl ?_))))))
  refine WL.val rfl rfl rfl (Run.idxN Tryz.runUnderlying29 Tryz.sizeOf93 rfl rfl rfl ?_ ?_ ?_) ?_
  · exact SlF.some_ (SlF.st0 f_a.sl hs3)
  · omega
  · omega
  refine WL.val rfl rfl rfl (Run.fieldO Tryz.runUnderlying93 rfl rfl rfl Tryz.sizeOf3 rfl) (WL.val rfl rfl rfl (Run.load Tryz.isAgg3 rfl rfl (SlF.fld (SlF.st0 f_a.sl hs3) ?_ rfl)) ?_)
  · omega
  refine WL.r 2 hs3 [] rfl (WL.nil (WC.condF rfl (by simp [hg, mkEPane]) (WC.skip (hK7 _ _ (WC.r1 hs3 [] rfl (WC.seq (fun K9 hK9 => WC.sq1 hs3 ?_)))))))
  refine WQ.r 2 [] rfl ?_
  refine WQ.val rfl rfl rfl (fun w_ hs_ => (Run.idxN Tryz.runUnderlying29 Tryz.sizeOf93 rfl rfl rfl ?_ ?_ ?_)) ?_
  · exact SlF.some_ (SlF.st0 f_a.sl (hs_ : St _ _ _ _))
  · omega
  · omega
  refine WQ.val rfl rfl rfl (fun w_ hs_ => (Run.fieldO Tryz.runUnderlying93 rfl rfl rfl Tryz.sizeOf9 rfl)) ?_
  refine WQ.val rfl rfl rfl (fun w_ hs_ => (Run.load Tryz.isAgg9 rfl rfl (SlF.fld (SlF.st0 f_a.sl (hs_ : St _ _ _ _)) ?_ rfl))) ?_
  · omega
  refine WQ.r 1 [] rfl ?_
  refine WQ.call rfl rfl rfl (fun w_ hs_ => (Run.call Tryz.call127 rfl rfl rfl)) (fun w_ hs_ => (k181_ _ _ ?_).mono fun e_ w_ h_ => ⟨h_.1, (hs_ : St _ _ _ _).call0 h_.2⟩) ?_
  · first | assumption | rfl | omega
  refine WQ.r 1 [] rfl (WQ.nil (fun _ (hs10 : St _ _ _ _) => WC.condF rfl (by simp [hg, mkEPane]) (WC.skip (hK9 _ _ (WC.r1 hs10 [] rfl (WC.seq (fun K12 hK12 => WC.sq1 hs10 ?_)))))))
  refine WQ.r 2 [] rfl ?_
  refine WQ.val rfl rfl rfl (fun w_ hs_ => (Run.idxN Tryz.runUnderlying29 Tryz.sizeOf93 rfl rfl rfl ?_ ?_ ?_)) ?_
  · exact SlF.some_ (SlF.st0 f_a.sl (hs_ : St _ _ _ _))
  · omega
  · omega
  refine WQ.val rfl rfl rfl (fun w_ hs_ => (Run.fieldO Tryz.runUnderlying93 rfl rfl rfl Tryz.sizeOf9 rfl)) ?_
  refine WQ.val rfl rfl rfl (fun w_ hs_ => (Run.load Tryz.isAgg9 rfl rfl (SlF.fld (SlF.st0 f_a.sl (hs_ : St _ _ _ _)) ?_ rfl))) ?_
  · omega
  refine WQ.r 1 [] rfl ?_
  refine WQ.call rfl rfl rfl (fun w_ hs_ => (Run.call Tryz.call127 rfl rfl rfl)) (fun w_ hs_ => (k181_ _ _ ?_).mono fun e_ w_ h_ => ⟨h_.1, (hs_ : St _ _ _ _).call0 h_.2⟩) ?_
  · first | assumption | rfl | omega
  refine WQ.r 1 [] rfl (WQ.nil (fun _ (hs13 : St _ _ _ _) => WC.condF rfl (by simp [hg, mkEPane]) (WC.skip (hK12 _ _ (WC.r1 hs13 [] rfl (WC.seq (fun K15 hK15 => WC.sr ?_)))))))
  refine WL.r 2 hs13 [] rfl (WL.val rfl rfl rfl (Run.idxN Tryz.runUnderlying29 Tryz.sizeOf93 rfl rfl rfl ?_ ?_ ?_) ?_)
  · exact SlF.some_ (SlF.st0 f_a.sl hs13)
  · omega
  · omega
  refine WL.val rfl rfl rfl (Run.fieldO Tryz.runUnderlying93 rfl rfl rfl Tryz.sizeOf3 rfl) (WL.val rfl rfl rfl (Run.load Tryz.isAgg3 rfl rfl (SlF.fld (SlF.st0 f_a.sl hs13) ?_ rfl)) ?_)
  · omega
  refine WL.r 2 hs13 [] rfl (WL.nil (WC.condF rfl (by simp [hg, mkEPane]) (WC.skip (hK15 _ _ (WC.r1 hs13 [] rfl (WC.seq (fun K17 hK17 => WC.sr ?_)))))))
  refine WL.r 2 hs13 [] rfl (WL.val rfl rfl rfl (Run.idxN Tryz.runUnderlying29 Tryz.sizeOf93 rfl rfl rfl ?_ ?_ ?_) ?_)
  · exact SlF.some_ (SlF.st0 f_a.sl hs13)
  · omega
  · omega
  refine WL.val rfl rfl rfl (Run.fieldO Tryz.runUnderlying93 rfl rfl rfl Tryz.sizeOf3 rfl) (WL.val rfl rfl rfl (Run.load Tryz.isAgg3 rfl rfl (SlF.fld (SlF.st0 f_a.sl hs13) ?_ rfl)) ?_)
  · omega
  refine WL.r 2 hs13 [] rfl (WL.nil (WC.condF rfl (by simp [hg, mkEPane]) (WC.skip (hK17 _ _ (WC.r1 hs13 [] rfl (WC.seq (fun K19 hK19 => WC.sr ?_)))))))
  refine WL.r 2 hs13 [] rfl (WL.val rfl rfl rfl (Run.idxN Tryz.runUnderlying29 Tryz.sizeOf93 rfl rfl rfl ?_ ?_ ?_) ?_)
  · exact SlF.some_ (SlF.st0 f_a.sl hs13)
  · omega
  · omega
  refine WL.val rfl rfl rfl (Run.fieldO Tryz.runUnderlying93 rfl rfl rfl Tryz.sizeOf3 rfl) (WL.val rfl rfl rfl (Run.load Tryz.isAgg3 rfl rfl (SlF.fld (SlF.st0 f_a.sl hs13) ?_ rfl)) ?_)
  · omega
  refine WL.r 2 hs13 [] rfl (WL.nil (WC.condF rfl (by simp [hg, mkEPane]) (WC.skip (hK19 _ _ (WC.r1 hs13 [] rfl (WC.seq (fun K21 hK21 => WC.sr ?_)))))))
  refine WL.r 2 hs13 [] rfl (WL.val rfl rfl rfl (Run.idxN Tryz.runUnderlying29 Tryz.sizeOf93 rfl rfl rfl ?_ ?_ ?_) ?_)
  · exact SlF.some_ (SlF.st0 f_a.sl hs13)
  · omega
  · omega
  refine WL.val rfl rfl rfl (Run.fieldO Tryz.runUnderlying93 rfl rfl rfl Tryz.sizeOf91 rfl) (WL.val rfl rfl rfl (Run.fieldE Tryz.runUnderlying91 rfl rfl rfl Tryz.sizeOf84 rfl) (WL.val rfl rfl rfl (Run.fieldE Tryz.runUnderlying84 rfl rfl rfl Tryz.sizeOf3 rfl) (WL.val rfl rfl rfl (Run.load Tryz.isAgg3 rfl rfl (SlF.fld (SlF.st0 f_a.sl hs13) ?_ rfl)) ?_)))
  · omega
  refine WL.r 2 hs13 [] rfl (WL.nil (WC.condF rfl (by simp [hg, mkEPane]) (WC.skip (hK21 _ _ (WC.r1 hs13 [] rfl (WC.seq (fun K23 hK23 => WC.sr ?_)))))))
  refine WL.r 2 hs13 [] rfl (WL.val rfl rfl rfl (Run.idxN Tryz.runUnderlying29 Tryz.sizeOf93 rfl rfl rfl ?_ ?_ ?_) ?_)
  · exact SlF.some_ (SlF.st0 f_a.sl hs13)
  · omega
  · omega
  refine WL.val rfl rfl rfl (Run.fieldO Tryz.runUnderlying93 rfl rfl rfl Tryz.sizeOf91 rfl) (WL.val rfl rfl rfl (Run.fieldE Tryz.runUnderlying91 rfl rfl rfl Tryz.sizeOf84 rfl) (WL.val rfl rfl rfl (Run.fieldE Tryz.runUnderlying84 rfl rfl rfl Tryz.sizeOf4 rfl) (WL.val rfl rfl rfl (Run.load Tryz.isAgg4 rfl rfl (SlF.fld (SlF.st0 f_a.sl hs13) ?_ rfl)) ?_)))
  · omega
  refine WL.r 1 hs13 [] rfl (WL.val rfl rfl rfl (Run.rem rfl rfl rfl ?_ ?_) ?_)
  · omega
  · omega
  refine WL.r 2 hs13 [] rfl (WL.nil (WC.condF rfl (by simp [hg, mkEPane]) (WC.skip (hK23 _ _ (WC.r1 hs13 [] rfl (WC.sr (WL.r 2 hs13 [] rfl ?_)))))))
  refine WL.val rfl rfl rfl (Run.idxN Tryz.runUnderlying29 Tryz.sizeOf93 rfl rfl rfl ?_ ?_ ?_) ?_
  · exact SlF.some_ (SlF.st0 f_a.sl hs13)
  · omega
  · omega
  refine WL.val rfl rfl rfl (Run.fieldO Tryz.runUnderlying93 rfl rfl rfl Tryz.sizeOf91 rfl) (WL.val rfl rfl rfl (Run.fieldE Tryz.runUnderlying91 rfl rfl rfl Tryz.sizeOf84 rfl) (WL.val rfl rfl rfl (Run.fieldE Tryz.runUnderlying84 rfl rfl rfl Tryz.sizeOf60 rfl) (WL.val rfl rfl rfl (Run.load Tryz.isAgg60 rfl rfl (SlF.fld (SlF.st0 f_a.sl hs13) ?_ rfl)) ?_)))
  · omega
  refine WL.r 1 hs13 [] rfl (WL.cl Tryz.call132 rfl (k187_ _ _ _ _ _ _ _ (SlF.st0 (SlN.nth f_a (by omega)).Term.P.Args hs13) hm_Term_P_Args ?_ ?_ ?_) ?_)
  iterate 3 first | assumption | rfl | omega
  rintro _ whs25 ⟨rfl, hs25⟩
  replace hs25 := hs13.call0 hs25
  refine ⟨_, rfl, WL.r 1 hs25 [] rfl (WL.nil (WC.seq (fun K26 hK26 => WC.r1 hs25 [] rfl ?_)))⟩
  refine WC.condF rfl (by first | (simp [hg, mkEPane]; done) | (simp [hg, mkEPane]; omega)) (WC.skip (hK26 _ _ (WC.sr (WL.r 2 hs25 [] rfl ?_))))
  refine WL.val rfl rfl rfl (Run.idxN Tryz.runUnderlying29 Tryz.sizeOf93 rfl rfl rfl ?_ ?_ ?_) ?_
  · exact SlF.some_ (SlF.st0 f_a.sl hs25)
  · omega
  · omega
  refine WL.val rfl rfl rfl (Run.fieldO Tryz.runUnderlying93 rfl rfl rfl Tryz.sizeOf91 rfl) (WL.val rfl rfl rfl (Run.fieldE Tryz.runUnderlying91 rfl rfl rfl Tryz.sizeOf84 rfl) (WL.val rfl rfl rfl (Run.fieldE Tryz.runUnderlying84 rfl rfl rfl Tryz.sizeOf44 rfl) (WL.val rfl rfl rfl (Run.load Tryz.isAgg44 rfl rfl (SlF.fld (SlF.st0 f_a.sl hs25) ?_ rfl)) ?_)))
  · omega
  refine WL.r 1 hs25 [] rfl (WL.cl Tryz.call28 rfl (k183_ _ _ _ _ _ _ _ (SlF.st0 (SlN.nth f_a (by omega)).Term.P.Part hs25) hm_Term_P_Part ?_ ?_ ?_) ?_)
  iterate 3 first | assumption | rfl | omega
  rintro _ whs28 ⟨rfl, hs28⟩
  replace hs28 := hs25.call0 hs28
  refine ⟨_, rfl, WL.r 1 hs28 [] rfl (WL.nil (WC.seq (fun K29 hK29 => WC.r1 hs28 [] rfl ?_)))⟩
  refine WC.condF rfl (by first | (simp [hg, mkEPane]; done) | (simp [hg, mkEPane]; omega)) (WC.skip (hK29 _ _ (WC.seq (fun K31 hK31 => WC.sr (WL.r 2 hs28 [] rfl ?_)))))
  refine WL.val rfl rfl rfl (Run.idxN Tryz.runUnderlying29 Tryz.sizeOf93 rfl rfl rfl ?_ ?_ ?_) ?_
  · exact SlF.some_ (SlF.st0 f_a.sl hs28)
  · omega
  · omega
  refine WL.val rfl rfl rfl (Run.fieldO Tryz.runUnderlying93 rfl rfl rfl Tryz.sizeOf91 rfl) (WL.val rfl rfl rfl (Run.fieldE Tryz.runUnderlying91 rfl rfl rfl Tryz.sizeOf89 rfl) (WL.val rfl rfl rfl (Run.fieldE Tryz.runUnderlying89 rfl rfl rfl Tryz.sizeOf3 rfl) (WL.val rfl rfl rfl (Run.load Tryz.isAgg3 rfl rfl (SlF.fld (SlF.st0 f_a.sl hs28) ?_ rfl)) ?_)))
  · omega
  refine WL.r 2 hs28 [] rfl (WL.nil (WC.condF rfl (by simp [hg, mkEPane]) (WC.skip (hK31 _ _ (WC.r1 hs28 [] rfl (WC.seq (fun K33 hK33 => WC.sr ?_)))))))
  refine WL.r 2 hs28 [] rfl (WL.val rfl rfl rfl (Run.idxN Tryz.runUnderlying29 Tryz.sizeOf93 rfl rfl rfl ?_ ?_ ?_) ?_)
  · exact SlF.some_ (SlF.st0 f_a.sl hs28)
  · omega
  · omega
  refine WL.val rfl rfl rfl (Run.fieldO Tryz.runUnderlying93 rfl rfl rfl Tryz.sizeOf91 rfl) (WL.val rfl rfl rfl (Run.fieldE Tryz.runUnderlying91 rfl rfl rfl Tryz.sizeOf89 rfl) (WL.val rfl rfl rfl (Run.fieldE Tryz.runUnderlying89 rfl rfl rfl Tryz.sizeOf3 rfl) (WL.val rfl rfl rfl (Run.load Tryz.isAgg3 rfl rfl (SlF.fld (SlF.st0 f_a.sl hs28) ?_ rfl)) ?_)))
  · omega
  refine WL.r 2 hs28 [] rfl (WL.nil (WC.condF rfl (by simp [hg, mkEPane]) (WC.skip (hK33 _ _ (WC.r1 hs28 [] rfl (WC.seq (fun K35 hK35 => WC.sr ?_)))))))
  refine WL.r 2 hs28 [] rfl (WL.val rfl rfl rfl (Run.idxN Tryz.runUnderlying29 Tryz.sizeOf93 rfl rfl rfl ?_ ?_ ?_) ?_)
  · exact SlF.some_ (SlF.st0 f_a.sl hs28)
  · omega
  · omega
  refine WL.val rfl rfl rfl (Run.fieldO Tryz.runUnderlying93 rfl rfl rfl Tryz.sizeOf91 rfl) (WL.val rfl rfl rfl (Run.fieldE Tryz.runUnderlying91 rfl rfl rfl Tryz.sizeOf89 rfl) (WL.val rfl rfl rfl (Run.fieldE Tryz.runUnderlying89 rfl rfl rfl Tryz.sizeOf76 rfl) (WL.val rfl rfl rfl (Run.fieldE Tryz.runUnderlying76 rfl rfl rfl Tryz.sizeOf3 rfl) (WL.val rfl rfl rfl (Run.load Tryz.isAgg3 rfl rfl (SlF.fld (SlF.st0 f_a.sl hs28) ?_ rfl)) ?_))))
  · omega
  refine WL.r 2 hs28 [] rfl (WL.nil (WC.condF rfl (by simp [hg, mkEPane]) (WC.skip (hK35 _ _ (WC.r1 hs28 [] rfl (WC.seq (fun K37 hK37 => WC.sr ?_)))))))
  refine WL.r 2 hs28 [] rfl (WL.val rfl rfl rfl (Run.idxN Tryz.runUnderlying29 Tryz.sizeOf93 rfl rfl rfl ?_ ?_ ?_) ?_)
  · exact SlF.some_ (SlF.st0 f_a.sl hs28)
  · omega
  · omega
  refine WL.val rfl rfl rfl (Run.fieldO Tryz.runUnderlying93 rfl rfl rfl Tryz.sizeOf91 rfl) (WL.val rfl rfl rfl (Run.fieldE Tryz.runUnderlying91 rfl rfl rfl Tryz.sizeOf89 rfl) (WL.val rfl rfl rfl (Run.fieldE Tryz.runUnderlying89 rfl rfl rfl Tryz.sizeOf76 rfl) (WL.val rfl rfl rfl (Run.fieldE Tryz.runUnderlying76 rfl rfl rfl Tryz.sizeOf3 rfl) (WL.val rfl rfl rfl (Run.load Tryz.isAgg3 rfl rfl (SlF.fld (SlF.st0 f_a.sl hs28) ?_ rfl)) ?_))))
  · omega
  refine WL.r 2 hs28 [] rfl (WL.nil (WC.condF rfl (by simp [hg, mkEPane]) (WC.skip (hK37 _ _ (WC.r1 hs28 [] rfl (WC.sr (WL.r 2 hs28 [] rfl ?_)))))))
  refine WL.val rfl rfl rfl (Run.idxN Tryz.runUnderlying29 Tryz.sizeOf93 rfl rfl rfl ?_ ?_ ?_) ?_
  · exact SlF.some_ (SlF.st0 f_a.sl hs28)
  · omega
  · omega
  refine WL.val rfl rfl rfl (Run.fieldO Tryz.runUnderlying93 rfl rfl rfl Tryz.sizeOf91 rfl) (WL.val rfl rfl rfl (Run.fieldE Tryz.runUnderlying91 rfl rfl rfl Tryz.sizeOf89 rfl) (WL.val rfl rfl rfl (Run.fieldE Tryz.runUnderlying89 rfl rfl rfl Tryz.sizeOf76 rfl) (WL.val rfl rfl rfl (Run.fieldE Tryz.runUnderlying76 rfl rfl rfl Tryz.sizeOf74 rfl) (WL.val rfl rfl rfl (Run.load Tryz.isAgg74 rfl rfl (SlF.fld (SlF.st0 f_a.sl hs28) ?_ rfl)) ?_))))
  · omega
  refine WL.r 1 hs28 [] rfl (WL.cl Tryz.call133 rfl (k185_ _ _ _ _ _ _ _ (SlF.st0 (SlN.nth f_a (by omega)).Term.S.Main.Cells hs28) hm_Term_S_Main_Cells ?_ ?_ ?_) ?_)
  iterate 3 first | assumption | rfl | omega
  rintro _ whs39 ⟨rfl, hs39⟩
  replace hs39 := hs28.call0 hs39
  refine ⟨_, rfl, WL.r 1 hs39 [] rfl (WL.nil (WC.seq (fun K40 hK40 => WC.r1 hs39 [] rfl ?_)))⟩
  refine WC.condF rfl (by first | (simp [hg, mkEPane]; done) | (simp [hg, mkEPane]; omega)) (WC.skip (hK40 _ _ (WC.seq (fun K42 hK42 => WC.sr (WL.r 2 hs39 [] rfl ?_)))))
  refine WL.val rfl rfl rfl (Run.idxN Tryz.runUnderlying29 Tryz.sizeOf93 rfl rfl rfl ?_ ?_ ?_) ?_
  · exact SlF.some_ (SlF.st0 f_a.sl hs39)
  · omega
  · omega
  refine WL.val rfl rfl rfl (Run.fieldO Tryz.runUnderlying93 rfl rfl rfl Tryz.sizeOf91 rfl) (WL.val rfl rfl rfl (Run.fieldE Tryz.runUnderlying91 rfl rfl rfl Tryz.sizeOf89 rfl) (WL.val rfl rfl rfl (Run.fieldE Tryz.runUnderlying89 rfl rfl rfl Tryz.sizeOf76 rfl) (WL.val rfl rfl rfl (Run.fieldE Tryz.runUnderlying76 rfl rfl rfl Tryz.sizeOf3 rfl) (WL.val rfl rfl rfl (Run.load Tryz.isAgg3 rfl rfl (SlF.fld (SlF.st0 f_a.sl hs39) ?_ rfl)) ?_))))
  · omega
  refine WL.r 2 hs39 [] rfl (WL.nil (WC.condF rfl (by simp [hg, mkEPane]) (WC.skip (hK42 _ _ (WC.r1 hs39 [] rfl (WC.seq (fun K44 hK44 => WC.sr ?_)))))))
  refine WL.r 2 hs39 [] rfl (WL.val rfl rfl rfl (Run.idxN Tryz.runUnderlying29 Tryz.sizeOf93 rfl rfl rfl ?_ ?_ ?_) ?_)
  · exact SlF.some_ (SlF.st0 f_a.sl hs39)
  · omega
  · omega
  refine WL.val rfl rfl rfl (Run.fieldO Tryz.runUnderlying93 rfl rfl rfl Tryz.sizeOf91 rfl) (WL.val rfl rfl rfl (Run.fieldE Tryz.runUnderlying91 rfl rfl rfl Tryz.sizeOf89 rfl) (WL.val rfl rfl rfl (Run.fieldE Tryz.runUnderlying89 rfl rfl rfl Tryz.sizeOf76 rfl) (WL.val rfl rfl rfl (Run.fieldE Tryz.runUnderlying76 rfl rfl rfl Tryz.sizeOf3 rfl) (WL.val rfl rfl rfl (Run.load Tryz.isAgg3 rfl rfl (SlF.fld (SlF.st0 f_a.sl hs39) ?_ rfl)) ?_))))
  · omega
  refine WL.r 2 hs39 [] rfl (WL.nil (WC.condF rfl (by simp [hg, mkEPane]) (WC.skip (hK44 _ _ (WC.r1 hs39 [] rfl (WC.sr (WL.r 2 hs39 [] rfl ?_)))))))
  refine WL.val rfl rfl rfl (Run.idxN Tryz.runUnderlying29 Tryz.sizeOf93 rfl rfl rfl ?_ ?_ ?_) ?_
  · exact SlF.some_ (SlF.st0 f_a.sl hs39)
  · omega
  · omega
  refine WL.val rfl rfl rfl (Run.fieldO Tryz.runUnderlying93 rfl rfl rfl Tryz.sizeOf91 rfl) (WL.val rfl rfl rfl (Run.fieldE Tryz.runUnderlying91 rfl rfl rfl Tryz.sizeOf89 rfl) (WL.val rfl rfl rfl (Run.fieldE Tryz.runUnderlying89 rfl rfl rfl Tryz.sizeOf76 rfl) (WL.val rfl rfl rfl (Run.fieldE Tryz.runUnderlying76 rfl rfl rfl Tryz.sizeOf74 rfl) (WL.val rfl rfl rfl (Run.load Tryz.isAgg74 rfl rfl (SlF.fld (SlF.st0 f_a.sl hs39) ?_ rfl)) ?_))))
  · omega
  refine WL.r 1 hs39 [] rfl (WL.cl Tryz.call133 rfl (k185_ _ _ _ _ _ _ _ (SlF.st0 (SlN.nth f_a (by omega)).Term.S.Alt.Cells hs39) hm_Term_S_Alt_Cells ?_ ?_ ?_) ?_)
  iterate 3 first | assumption | rfl | omega
  rintro _ whs46 ⟨rfl, hs46⟩
  replace hs46 := hs39.call0 hs46
  refine ⟨_, rfl, WL.r 1 hs46 [] rfl (WL.nil (WC.seq (fun K47 hK47 => WC.r1 hs46 [] rfl ?_)))⟩
  refine WC.condF rfl (by first | (simp [hg, mkEPane]; done) | (simp [hg, mkEPane]; omega)) (WC.skip (hK47 _ _ (WC.seq (fun K49 hK49 => WC.sr (WL.r 2 hs46 [] rfl ?_)))))
  refine WL.val rfl rfl rfl (Run.idxN Tryz.runUnderlying29 Tryz.sizeOf93 rfl rfl rfl ?_ ?_ ?_) ?_
  · exact SlF.some_ (SlF.st0 f_a.sl hs46)
  · omega
  · omega
  refine WL.val rfl rfl rfl (Run.fieldO Tryz.runUnderlying93 rfl rfl rfl Tryz.sizeOf91 rfl) (WL.val rfl rfl rfl (Run.fieldE Tryz.runUnderlying91 rfl rfl rfl Tryz.sizeOf89 rfl) (WL.val rfl rfl rfl (Run.fieldE Tryz.runUnderlying89 rfl rfl rfl Tryz.sizeOf4 rfl) (WL.val rfl rfl rfl (Run.load Tryz.isAgg4 rfl rfl (SlF.fld (SlF.st0 f_a.sl hs46) ?_ rfl)) ?_)))
  · omega
  refine WL.r 1 hs46 [] rfl (WL.val rfl rfl rfl (Run.rem rfl rfl rfl ?_ ?_) ?_)
  · omega
  · omega
  refine WL.r 2 hs46 [] rfl (WL.nil (WC.condF rfl (by simp [hg, mkEPane]) (WC.skip (hK49 _ _ (WC.r1 hs46 [] rfl (WC.seq (fun K51 hK51 => WC.sr ?_)))))))
  refine WL.r 2 hs46 [] rfl (WL.val rfl rfl rfl (Run.idxN Tryz.runUnderlying29 Tryz.sizeOf93 rfl rfl rfl ?_ ?_ ?_) ?_)
  · exact SlF.some_ (SlF.st0 f_a.sl hs46)
  · omega
  · omega
  refine WL.val rfl rfl rfl (Run.fieldO Tryz.runUnderlying93 rfl rfl rfl Tryz.sizeOf91 rfl) (WL.val rfl rfl rfl (Run.fieldE Tryz.runUnderlying91 rfl rfl rfl Tryz.sizeOf89 rfl) (WL.val rfl rfl rfl (Run.fieldE Tryz.runUnderlying89 rfl rfl rfl Tryz.sizeOf3 rfl) (WL.val rfl rfl rfl (Run.load Tryz.isAgg3 rfl rfl (SlF.fld (SlF.st0 f_a.sl hs46) ?_ rfl)) ?_)))
  · omega
  refine WL.r 2 hs46 [] rfl (WL.nil (WC.condF rfl (by simp [hg, mkEPane]) (WC.skip (hK51 _ _ (WC.r1 hs46 [] rfl (WC.seq (fun K53 hK53 => WC.sr ?_)))))))
  refine WL.r 2 hs46 [] rfl (WL.val rfl rfl rfl (Run.idxN Tryz.runUnderlying29 Tryz.sizeOf93 rfl rfl rfl ?_ ?_ ?_) ?_)
  · exact SlF.some_ (SlF.st0 f_a.sl hs46)
  · omega
  · omega
  refine WL.val rfl rfl rfl (Run.fieldO Tryz.runUnderlying93 rfl rfl rfl Tryz.sizeOf91 rfl) (WL.val rfl rfl rfl (Run.fieldE Tryz.runUnderlying91 rfl rfl rfl Tryz.sizeOf89 rfl) (WL.val rfl rfl rfl (Run.fieldE Tryz.runUnderlying89 rfl rfl rfl Tryz.sizeOf3 rfl) (WL.val rfl rfl rfl (Run.load Tryz.isAgg3 rfl rfl (SlF.fld (SlF.st0 f_a.sl hs46) ?_ rfl)) ?_)))
  · omega
  refine WL.r 2 hs46 [] rfl (WL.nil (WC.condF rfl (by simp [hg, mkEPane]) (WC.skip (hK53 _ _ (WC.r1 hs46 [] rfl (WC.seq (fun K55 hK55 => WC.sr ?_)))))))
  refine WL.r 2 hs46 [] rfl (WL.val rfl rfl rfl (Run.idxN Tryz.runUnderlying29 Tryz.sizeOf93 rfl rfl rfl ?_ ?_ ?_) ?_)
  · exact SlF.some_ (SlF.st0 f_a.sl hs46)
  · omega
  · omega
  refine WL.val rfl rfl rfl (Run.fieldO Tryz.runUnderlying93 rfl rfl rfl Tryz.sizeOf91 rfl) (WL.val rfl rfl rfl (Run.fieldE Tryz.runUnderlying91 rfl rfl rfl Tryz.sizeOf89 rfl) (WL.val rfl rfl rfl (Run.fieldE Tryz.runUnderlying89 rfl rfl rfl Tryz.sizeOf4 rfl) (WL.val rfl rfl rfl (Run.load Tryz.isAgg4 rfl rfl (SlF.fld (SlF.st0 f_a.sl hs46) ?_ rfl)) ?_)))
  · omega
  refine WL.r 1 hs46 [] rfl (WL.val rfl rfl rfl (Run.rem rfl rfl rfl ?_ ?_) ?_)
  · omega
  · omega
  refine WL.r 2 hs46 [] rfl (WL.nil (WC.condF rfl (by simp [hg, mkEPane]) (WC.skip (hK55 _ _ (WC.r1 hs46 [] rfl (WC.seq (fun K57 hK57 => WC.sr ?_)))))))
  refine WL.r 2 hs46 [] rfl (WL.val rfl rfl rfl (Run.idxN Tryz.runUnderlying29 Tryz.sizeOf93 rfl rfl rfl ?_ ?_ ?_) ?_)
  · exact SlF.some_ (SlF.st0 f_a.sl hs46)
  · omega
  · omega
  refine WL.val rfl rfl rfl (Run.fieldO Tryz.runUnderlying93 rfl rfl rfl Tryz.sizeOf91 rfl) (WL.val rfl rfl rfl (Run.fieldE Tryz.runUnderlying91 rfl rfl rfl Tryz.sizeOf89 rfl) (WL.val rfl rfl rfl (Run.fieldE Tryz.runUnderlying89 rfl rfl rfl Tryz.sizeOf86 rfl) (WL.val rfl rfl rfl (Run.fieldE Tryz.runUnderlying86 rfl rfl rfl Tryz.sizeOf3 rfl) (WL.val rfl rfl rfl (Run.load Tryz.isAgg3 rfl rfl (SlF.fld (SlF.st0 f_a.sl hs46) ?_ rfl)) ?_))))
  · omega
  refine WL.r 2 hs46 [] rfl (WL.nil (WC.condF rfl (by simp [hg, mkEPane]) (WC.skip (hK57 _ _ (WC.r1 hs46 [] rfl (WC.seq (fun K59 hK59 => WC.sr ?_)))))))
  refine WL.r 2 hs46 [] rfl (WL.val rfl rfl rfl (Run.idxN Tryz.runUnderlying29 Tryz.sizeOf93 rfl rfl rfl ?_ ?_ ?_) ?_)
  · exact SlF.some_ (SlF.st0 f_a.sl hs46)
  · omega
  · omega
  refine WL.val rfl rfl rfl (Run.fieldO Tryz.runUnderlying93 rfl rfl rfl Tryz.sizeOf91 rfl) (WL.val rfl rfl rfl (Run.fieldE Tryz.runUnderlying91 rfl rfl rfl Tryz.sizeOf89 rfl) (WL.val rfl rfl rfl (Run.fieldE Tryz.runUnderlying89 rfl rfl rfl Tryz.sizeOf86 rfl) (WL.val rfl rfl rfl (Run.fieldE Tryz.runUnderlying86 rfl rfl rfl Tryz.sizeOf3 rfl) (WL.val rfl rfl rfl (Run.load Tryz.isAgg3 rfl rfl (SlF.fld (SlF.st0 f_a.sl hs46) ?_ rfl)) ?_))))
  · omega
  refine WL.r 2 hs46 [] rfl (WL.nil (WC.condF rfl (by simp [hg, mkEPane]) (WC.skip (hK59 _ _ (WC.r1 hs46 [] rfl (WC.seq (fun K61 hK61 => WC.sr ?_)))))))
  refine WL.r 2 hs46 [] rfl (WL.val rfl rfl rfl (Run.idxN Tryz.runUnderlying29 Tryz.sizeOf93 rfl rfl rfl ?_ ?_ ?_) ?_)
  · exact SlF.some_ (SlF.st0 f_a.sl hs46)
  · omega
  · omega
  refine WL.val rfl rfl rfl (Run.fieldO Tryz.runUnderlying93 rfl rfl rfl Tryz.sizeOf91 rfl) (WL.val rfl rfl rfl (Run.fieldE Tryz.runUnderlying91 rfl rfl rfl Tryz.sizeOf89 rfl) (WL.val rfl rfl rfl (Run.fieldE Tryz.runUnderlying89 rfl rfl rfl Tryz.sizeOf86 rfl) (WL.val rfl rfl rfl (Run.fieldE Tryz.runUnderlying86 rfl rfl rfl Tryz.sizeOf4 rfl) (WL.val rfl rfl rfl (Run.load Tryz.isAgg4 rfl rfl (SlF.fld (SlF.st0 f_a.sl hs46) ?_ rfl)) ?_))))
  · omega
  refine WL.r 1 hs46 [] rfl (WL.val rfl rfl rfl (Run.rem rfl rfl rfl ?_ ?_) ?_)
  · omega
  · omega
  refine WL.r 2 hs46 [] rfl (WL.nil (WC.condF rfl (by simp [hg, mkEPane]) (WC.skip (hK61 _ _ (WC.r1 hs46 [] rfl (WC.seq (fun K63 hK63 => WC.sr ?_)))))))
  refine WL.r 2 hs46 [] rfl (WL.val rfl rfl rfl (Run.idxN Tryz.runUnderlying29 Tryz.sizeOf93 rfl rfl rfl ?_ ?_ ?_) ?_)
  · exact SlF.some_ (SlF.st0 f_a.sl hs46)
  · omega
  · omega
  refine WL.val rfl rfl rfl (Run.fieldO Tryz.runUnderlying93 rfl rfl rfl Tryz.sizeOf91 rfl) (WL.val rfl rfl rfl (Run.fieldE Tryz.runUnderlying91 rfl rfl rfl Tryz.sizeOf89 rfl) (WL.val rfl rfl rfl (Run.fieldE Tryz.runUnderlying89 rfl rfl rfl Tryz.sizeOf86 rfl) (WL.val rfl rfl rfl (Run.fieldE Tryz.runUnderlying86 rfl rfl rfl Tryz.sizeOf4 rfl) (WL.val rfl rfl rfl (Run.load Tryz.isAgg4 rfl rfl (SlF.fld (SlF.st0 f_a.sl hs46) ?_ rfl)) ?_))))
  · omega
  refine WL.r 1 hs46 [] rfl (WL.val rfl rfl rfl (Run.rem rfl rfl rfl ?_ ?_) ?_)
  · omega
  · omega
  refine WL.r 2 hs46 [] rfl (WL.nil (WC.condF rfl (by simp [hg, mkEPane]) (WC.skip (hK63 _ _ (WC.r1 hs46 [] rfl (WC.seq (fun K65 hK65 => WC.sr ?_)))))))
  refine WL.r 2 hs46 [] rfl (WL.val rfl rfl rfl (Run.idxN Tryz.runUnderlying29 Tryz.sizeOf93 rfl rfl rfl ?_ ?_ ?_) ?_)
  · exact SlF.some_ (SlF.st0 f_a.sl hs46)
  · omega
  · omega
  refine WL.val rfl rfl rfl (Run.fieldO Tryz.runUnderlying93 rfl rfl rfl Tryz.sizeOf91 rfl) (WL.val rfl rfl rfl (Run.fieldE Tryz.runUnderlying91 rfl rfl rfl Tryz.sizeOf89 rfl) (WL.val rfl rfl rfl (Run.fieldE Tryz.runUnderlying89 rfl rfl rfl Tryz.sizeOf86 rfl) (WL.val rfl rfl rfl (Run.fieldE Tryz.runUnderlying86 rfl rfl rfl Tryz.sizeOf4 rfl) (WL.val rfl rfl rfl (Run.load Tryz.isAgg4 rfl rfl (SlF.fld (SlF.st0 f_a.sl hs46) ?_ rfl)) ?_))))
  · omega
  refine WL.r 1 hs46 [] rfl (WL.val rfl rfl rfl (Run.rem rfl rfl rfl ?_ ?_) ?_)
  · omega
  · omega
  refine WL.r 2 hs46 [] rfl (WL.nil (WC.condF rfl (by simp [hg, mkEPane]) (WC.skip (hK65 _ _ (WC.r1 hs46 [] rfl (WC.seq (fun K67 hK67 => WC.sr ?_)))))))
  refine WL.r 2 hs46 [] rfl (WL.val rfl rfl rfl (Run.idxN Tryz.runUnderlying29 Tryz.sizeOf93 rfl rfl rfl ?_ ?_ ?_) ?_)
  · exact SlF.some_ (SlF.st0 f_a.sl hs46)
  · omega
  · omega
  refine WL.val rfl rfl rfl (Run.fieldO Tryz.runUnderlying93 rfl rfl rfl Tryz.sizeOf91 rfl) (WL.val rfl rfl rfl (Run.fieldE Tryz.runUnderlying91 rfl rfl rfl Tryz.sizeOf89 rfl) (WL.val rfl rfl rfl (Run.fieldE Tryz.runUnderlying89 rfl rfl rfl Tryz.sizeOf3 rfl) (WL.val rfl rfl rfl (Run.load Tryz.isAgg3 rfl rfl (SlF.fld (SlF.st0 f_a.sl hs46) ?_ rfl)) ?_)))
  · omega
  refine WL.r 2 hs46 [] rfl (WL.nil (WC.condF rfl (by simp [hg, mkEPane]) (WC.skip (hK67 _ _ (WC.r1 hs46 [] rfl (WC.seq (fun K69 hK69 => WC.sr ?_)))))))
  refine WL.r 2 hs46 [] rfl (WL.val rfl rfl rfl (Run.idxN Tryz.runUnderlying29 Tryz.sizeOf93 rfl rfl rfl ?_ ?_ ?_) ?_)
  · exact SlF.some_ (SlF.st0 f_a.sl hs46)
  · omega
  · omega
  refine WL.val rfl rfl rfl (Run.fieldO Tryz.runUnderlying93 rfl rfl rfl Tryz.sizeOf91 rfl) (WL.val rfl rfl rfl (Run.fieldE Tryz.runUnderlying91 rfl rfl rfl Tryz.sizeOf89 rfl) (WL.val rfl rfl rfl (Run.fieldE Tryz.runUnderlying89 rfl rfl rfl Tryz.sizeOf3 rfl) (WL.val rfl rfl rfl (Run.load Tryz.isAgg3 rfl rfl (SlF.fld (SlF.st0 f_a.sl hs46) ?_ rfl)) ?_)))
  · omega
  refine WL.r 2 hs46 [] rfl (WL.nil (WC.condF rfl (by simp [hg, mkEPane]) (WC.skip (hK69 _ _ (WC.r1 hs46 [] rfl (WC.seq (fun K71 hK71 => WC.sr ?_)))))))
  refine WL.r 2 hs46 [] rfl (WL.val rfl rfl rfl (Run.idxN Tryz.runUnderlying29 Tryz.sizeOf93 rfl rfl rfl ?_ ?_ ?_) ?_)
  · exact SlF.some_ (SlF.st0 f_a.sl hs46)
  · omega
  · omega
  refine WL.val rfl rfl rfl (Run.fieldO Tryz.runUnderlying93 rfl rfl rfl Tryz.sizeOf91 rfl) (WL.val rfl rfl rfl (Run.fieldE Tryz.runUnderlying91 rfl rfl rfl Tryz.sizeOf89 rfl) (WL.val rfl rfl rfl (Run.fieldE Tryz.runUnderlying89 rfl rfl rfl Tryz.sizeOf4 rfl) (WL.val rfl rfl rfl (Run.load Tryz.isAgg4 rfl rfl (SlF.fld (SlF.st0 f_a.sl hs46) ?_ rfl)) ?_)))
  · omega
  refine WL.r 1 hs46 [] rfl (WL.val rfl rfl rfl (Run.rem rfl rfl rfl ?_ ?_) ?_)
  · omega
  · omega
  refine WL.r 2 hs46 [] rfl (WL.nil (WC.condF rfl (by simp [hg, mkEPane]) (WC.skip (hK71 _ _ (WC.r1 hs46 [] rfl (WC.seq (fun K73 hK73 => WC.sr ?_)))))))
  refine WL.r 2 hs46 [] rfl (WL.val rfl rfl rfl (Run.idxN Tryz.runUnderlying29 Tryz.sizeOf93 rfl rfl rfl ?_ ?_ ?_) ?_)
  · exact SlF.some_ (SlF.st0 f_a.sl hs46)
  · omega
  · omega
  refine WL.val rfl rfl rfl (Run.fieldO Tryz.runUnderlying93 rfl rfl rfl Tryz.sizeOf91 rfl) (WL.val rfl rfl rfl (Run.fieldE Tryz.runUnderlying91 rfl rfl rfl Tryz.sizeOf89 rfl) (WL.val rfl rfl rfl (Run.fieldE Tryz.runUnderlying89 rfl rfl rfl Tryz.sizeOf4 rfl) (WL.val rfl rfl rfl (Run.load Tryz.isAgg4 rfl rfl (SlF.fld (SlF.st0 f_a.sl hs46) ?_ rfl)) ?_)))
  · omega
  refine WL.r 1 hs46 [] rfl (WL.val rfl rfl rfl (Run.rem rfl rfl rfl ?_ ?_) ?_)
  · omega
  · omega
  refine WL.r 2 hs46 [] rfl (WL.nil (WC.condF rfl (by simp [hg, mkEPane]) (WC.skip (hK73 _ _ (WC.r1 hs46 [] rfl (WC.seq (fun K75 hK75 => WC.sr ?_)))))))
  refine WL.r 2 hs46 [] rfl (WL.val rfl rfl rfl (Run.idxN Tryz.runUnderlying29 Tryz.sizeOf93 rfl rfl rfl ?_ ?_ ?_) ?_)
  · exact SlF.some_ (SlF.st0 f_a.sl hs46)
  · omega
  · omega
  refine WL.val rfl rfl rfl (Run.fieldO Tryz.runUnderlying93 rfl rfl rfl Tryz.sizeOf91 rfl) (WL.val rfl rfl rfl (Run.fieldE Tryz.runUnderlying91 rfl rfl rfl Tryz.sizeOf89 rfl) (WL.val rfl rfl rfl (Run.fieldE Tryz.runUnderlying89 rfl rfl rfl Tryz.sizeOf3 rfl) (WL.val rfl rfl rfl (Run.load Tryz.isAgg3 rfl rfl (SlF.fld (SlF.st0 f_a.sl hs46) ?_ rfl)) ?_)))
  · omega
  refine WL.r 2 hs46 [] rfl (WL.nil (WC.condF rfl (by simp [hg, mkEPane]) (WC.skip (hK75 _ _ (WC.r1 hs46 [] rfl (WC.seq (fun K77 hK77 => WC.sr ?_)))))))
  refine WL.r 2 hs46 [] rfl (WL.val rfl rfl rfl (Run.idxN Tryz.runUnderlying29 Tryz.sizeOf93 rfl rfl rfl ?_ ?_ ?_) ?_)
  · exact SlF.some_ (SlF.st0 f_a.sl hs46)
  · omega
  · omega
  refine WL.val rfl rfl rfl (Run.fieldO Tryz.runUnderlying93 rfl rfl rfl Tryz.sizeOf91 rfl) (WL.val rfl rfl rfl (Run.fieldE Tryz.runUnderlying91 rfl rfl rfl Tryz.sizeOf89 rfl) (WL.val rfl rfl rfl (Run.fieldE Tryz.runUnderlying89 rfl rfl rfl Tryz.sizeOf3 rfl) (WL.val rfl rfl rfl (Run.load Tryz.isAgg3 rfl rfl (SlF.fld (SlF.st0 f_a.sl hs46) ?_ rfl)) ?_)))
  · omega
  refine WL.r 2 hs46 [] rfl (WL.nil (WC.condF rfl (by simp [hg, mkEPane]) (WC.skip (hK77 _ _ (WC.r1 hs46 [] rfl (WC.seq (fun K79 hK79 => WC.sr ?_)))))))
  refine WL.r 2 hs46 [] rfl (WL.val rfl rfl rfl (Run.idxN Tryz.runUnderlying29 Tryz.sizeOf93 rfl rfl rfl ?_ ?_ ?_) ?_)
  · exact SlF.some_ (SlF.st0 f_a.sl hs46)
  · omega
  · omega
  refine WL.val rfl rfl rfl (Run.fieldO Tryz.runUnderlying93 rfl rfl rfl Tryz.sizeOf91 rfl) (WL.val rfl rfl rfl (Run.fieldE Tryz.runUnderlying91 rfl rfl rfl Tryz.sizeOf89 rfl) (WL.val rfl rfl rfl (Run.fieldE Tryz.runUnderlying89 rfl rfl rfl Tryz.sizeOf86 rfl) (WL.val rfl rfl rfl (Run.fieldE Tryz.runUnderlying86 rfl rfl rfl Tryz.sizeOf3 rfl) (WL.val rfl rfl rfl (Run.load Tryz.isAgg3 rfl rfl (SlF.fld (SlF.st0 f_a.sl hs46) ?_ rfl)) ?_))))
  · omega
  refine WL.r 2 hs46 [] rfl (WL.nil (WC.condF rfl (by simp [hg, mkEPane]) (WC.skip (hK79 _ _ (WC.r1 hs46 [] rfl (WC.seq (fun K81 hK81 => WC.sr ?_)))))))
  refine WL.r 2 hs46 [] rfl (WL.val rfl rfl rfl (Run.idxN Tryz.runUnderlying29 Tryz.sizeOf93 rfl rfl rfl ?_ ?_ ?_) ?_)
  · exact SlF.some_ (SlF.st0 f_a.sl hs46)
  · omega
  · omega
  refine WL.val rfl rfl rfl (Run.fieldO Tryz.runUnderlying93 rfl rfl rfl Tryz.sizeOf91 rfl) (WL.val rfl rfl rfl (Run.fieldE Tryz.runUnderlying91 rfl rfl rfl Tryz.sizeOf89 rfl) (WL.val rfl rfl rfl (Run.fieldE Tryz.runUnderlying89 rfl rfl rfl Tryz.sizeOf86 rfl) (WL.val rfl rfl rfl (Run.fieldE Tryz.runUnderlying86 rfl rfl rfl Tryz.sizeOf3 rfl) (WL.val rfl rfl rfl (Run.load Tryz.isAgg3 rfl rfl (SlF.fld (SlF.st0 f_a.sl hs46) ?_ rfl)) ?_))))
  · omega
  refine WL.r 2 hs46 [] rfl (WL.nil (WC.condF rfl (by simp [hg, mkEPane]) (WC.skip (hK81 _ _ (WC.r1 hs46 [] rfl (WC.seq (fun K83 hK83 => WC.sr ?_)))))))
  refine WL.r 2 hs46 [] rfl (WL.val rfl rfl rfl (Run.idxN Tryz.runUnderlying29 Tryz.sizeOf93 rfl rfl rfl ?_ ?_ ?_) ?_)
  · exact SlF.some_ (SlF.st0 f_a.sl hs46)
  · omega
  · omega
  refine WL.val rfl rfl rfl (Run.fieldO Tryz.runUnderlying93 rfl rfl rfl Tryz.sizeOf91 rfl) (WL.val rfl rfl rfl (Run.fieldE Tryz.runUnderlying91 rfl rfl rfl Tryz.sizeOf89 rfl) (WL.val rfl rfl rfl (Run.fieldE Tryz.runUnderlying89 rfl rfl rfl Tryz.sizeOf86 rfl) (WL.val rfl rfl rfl (Run.fieldE Tryz.runUnderlying86 rfl rfl rfl Tryz.sizeOf4 rfl) (WL.val rfl rfl rfl (Run.load Tryz.isAgg4 rfl rfl (SlF.fld (SlF.st0 f_a.sl hs46) ?_ rfl)) ?_))))
  · omega
  refine WL.r 1 hs46 [] rfl (WL.val rfl rfl rfl (Run.rem rfl rfl rfl ?_ ?_) ?_)
  · omega
  · omega
  refine WL.r 2 hs46 [] rfl (WL.nil (WC.condF rfl (by simp [hg, mkEPane]) (WC.skip (hK83 _ _ (WC.r1 hs46 [] rfl (WC.seq (fun K85 hK85 => WC.sr ?_)))))))
  refine WL.r 2 hs46 [] rfl (WL.val rfl rfl rfl (Run.idxN Tryz.runUnderlying29 Tryz.sizeOf93 rfl rfl rfl ?_ ?_ ?_) ?_)
  · exact SlF.some_ (SlF.st0 f_a.sl hs46)
  · omega
  · omega
  refine WL.val rfl rfl rfl (Run.fieldO Tryz.runUnderlying93 rfl rfl rfl Tryz.sizeOf91 rfl) (WL.val rfl rfl rfl (Run.fieldE Tryz.runUnderlying91 rfl rfl rfl Tryz.sizeOf89 rfl) (WL.val rfl rfl rfl (Run.fieldE Tryz.runUnderlying89 rfl rfl rfl Tryz.sizeOf86 rfl) (WL.val rfl rfl rfl (Run.fieldE Tryz.runUnderlying86 rfl rfl rfl Tryz.sizeOf4 rfl) (WL.val rfl rfl rfl (Run.load Tryz.isAgg4 rfl rfl (SlF.fld (SlF.st0 f_a.sl hs46) ?_ rfl)) ?_))))
  · omega
  refine WL.r 1 hs46 [] rfl (WL.val rfl rfl rfl (Run.rem rfl rfl rfl ?_ ?_) ?_)
  · omega
  · omega
  refine WL.r 2 hs46 [] rfl (WL.nil (WC.condF rfl (by simp [hg, mkEPane]) (WC.skip (hK85 _ _ (WC.r1 hs46 [] rfl (WC.seq (fun K87 hK87 => WC.sr ?_)))))))
  refine WL.r 2 hs46 [] rfl (WL.val rfl rfl rfl (Run.idxN Tryz.runUnderlying29 Tryz.sizeOf93 rfl rfl rfl ?_ ?_ ?_) ?_)
  · exact SlF.some_ (SlF.st0 f_a.sl hs46)
  · omega
  · omega
  refine WL.val rfl rfl rfl (Run.fieldO Tryz.runUnderlying93 rfl rfl rfl Tryz.sizeOf91 rfl) (WL.val rfl rfl rfl (Run.fieldE Tryz.runUnderlying91 rfl rfl rfl Tryz.sizeOf89 rfl) (WL.val rfl rfl rfl (Run.fieldE Tryz.runUnderlying89 rfl rfl rfl Tryz.sizeOf86 rfl) (WL.val rfl rfl rfl (Run.fieldE Tryz.runUnderlying86 rfl rfl rfl Tryz.sizeOf4 rfl) (WL.val rfl rfl rfl (Run.load Tryz.isAgg4 rfl rfl (SlF.fld (SlF.st0 f_a.sl hs46) ?_ rfl)) ?_))))
  · omega
  refine WL.r 1 hs46 [] rfl (WL.val rfl rfl rfl (Run.rem rfl rfl rfl ?_ ?_) ?_)
  · omega
  · omega
  refine WL.r 2 hs46 [] rfl (WL.nil (WC.condF rfl (by simp [hg, mkEPane]) (WC.skip (hK87 _ _ (WC.r1 hs46 [] rfl (WC.sr (WL.r 2 hs46 [] rfl ?_)))))))
  refine WL.val rfl rfl rfl (Run.idxN Tryz.runUnderlying29 Tryz.sizeOf93 rfl rfl rfl ?_ ?_ ?_) ?_
  · exact SlF.some_ (SlF.st0 f_a.sl hs46)
  · omega
  · omega
  refine WL.val rfl rfl rfl (Run.fieldO Tryz.runUnderlying93 rfl rfl rfl Tryz.sizeOf91 rfl) (WL.val rfl rfl rfl (Run.fieldE Tryz.runUnderlying91 rfl rfl rfl Tryz.sizeOf89 rfl) (WL.val rfl rfl rfl (Run.fieldE Tryz.runUnderlying89 rfl rfl rfl Tryz.sizeOf60 rfl) (WL.val rfl rfl rfl (Run.load Tryz.isAgg60 rfl rfl (SlF.fld (SlF.st0 f_a.sl hs46) ?_ rfl)) ?_)))
  · omega
  refine WL.r 1 hs46 [] rfl (WL.cl Tryz.call132 rfl (k187_ _ _ _ _ _ _ _ (SlF.st0 (SlN.nth f_a (by omega)).Term.S.Tabs hs46) hm_Term_S_Tabs ?_ ?_ ?_) ?_)
  iterate 3 first | assumption | rfl | omega
  rintro _ whs89 ⟨rfl, hs89⟩
  replace hs89 := hs46.call0 hs89
  refine ⟨_, rfl, WL.r 1 hs89 [] rfl (WL.nil (WC.seq (fun K90 hK90 => WC.r1 hs89 [] rfl ?_)))⟩
  refine WC.condF rfl (by first | (simp [hg, mkEPane]; done) | (simp [hg, mkEPane]; omega)) (WC.skip (hK90 _ _ (WC.seq (fun K92 hK92 => WC.sr (WL.r 2 hs89 [] rfl ?_)))))
  refine WL.val rfl rfl rfl (Run.idxN Tryz.runUnderlying29 Tryz.sizeOf93 rfl rfl rfl ?_ ?_ ?_) ?_
  · exact SlF.some_ (SlF.st0 f_a.sl hs89)
  · omega
  · omega
  refine WL.val rfl rfl rfl (Run.fieldO Tryz.runUnderlying93 rfl rfl rfl Tryz.sizeOf91 rfl) (WL.val rfl rfl rfl (Run.fieldE Tryz.runUnderlying91 rfl rfl rfl Tryz.sizeOf89 rfl) (WL.val rfl rfl rfl (Run.fieldE Tryz.runUnderlying89 rfl rfl rfl Tryz.sizeOf3 rfl) (WL.val rfl rfl rfl (Run.load Tryz.isAgg3 rfl rfl (SlF.fld (SlF.st0 f_a.sl hs89) ?_ rfl)) ?_)))
  · omega
  refine WL.r 2 hs89 [] rfl (WL.nil (WC.condF rfl (by simp [hg, mkEPane]) (WC.skip (hK92 _ _ (WC.r1 hs89 [] rfl (WC.sr (WL.r 2 hs89 [] rfl ?_)))))))
  refine WL.val rfl rfl rfl (Run.idxN Tryz.runUnderlying29 Tryz.sizeOf93 rfl rfl rfl ?_ ?_ ?_) ?_
  · exact SlF.some_ (SlF.st0 f_a.sl hs89)
  · omega
  · omega
  refine WL.val rfl rfl rfl (Run.fieldO Tryz.runUnderlying93 rfl rfl rfl Tryz.sizeOf91 rfl) (WL.val rfl rfl rfl (Run.fieldE Tryz.runUnderlying91 rfl rfl rfl Tryz.sizeOf89 rfl) (WL.val rfl rfl rfl (Run.fieldE Tryz.runUnderlying89 rfl rfl rfl Tryz.sizeOf87 rfl) (WL.val rfl rfl rfl (Run.load Tryz.isAgg87 rfl rfl (SlF.fld (SlF.st0 f_a.sl hs89) ?_ rfl)) ?_)))
  · omega
  refine WL.r 1 hs89 [] rfl (WL.cl Tryz.call134 rfl (k191_ _ _ _ _ _ _ (SlN.st0 okRowR.st0 hfx_Term_S_Back hs89) ?_ ?_ ?_) ?_)
  iterate 3 first | assumption | omega
  rintro _ whs94 ⟨rfl, hs94⟩
  replace hs94 := hs89.call0 hs94
  refine ⟨_, rfl, WL.r 1 hs94 [] rfl (WL.nil (WC.r1 hs94 [] rfl ?_))⟩
  refine WC.condF rfl (by first | (simp [hg, mkEPane]; done) | (simp [hg, mkEPane]; omega)) (WC.skip (hK6 _ _ (WC.region (WL.r 3 hs94 [] rfl (WL.nil (tkN ?_))))))
  refine ⟨sbF rfl, hs94, _, ?_, i + 1, rfl, ?_, ⟨rfl, ?_, trivial⟩⟩
  · omega
  · omega
  · (refine congrArg some (congrArg (Value.int _) ?_); rw [cnts_take (F := encPaneR) (by omega)]; simp only [cntEPane]; omega)
 refine WC.exit (hK2 _ _ (WC.r1 hs3 [] rfl (WC.ret (rtv rfl rfl hs3 ?_))))
 rw [show i = a.length from by omega, List.take_of_length_le (Nat.le_refl _)]
set_option maxHeartbeats 16000000 in
set_option maxRecDepth 20000 in
theorem k194_ (v_a : Value) (a : List SessR) (L_a : Hp) (k : Int) (w : World) (o_a : OwnN encSessR ownSessR 106 v_a a L_a) (h_a : Hh w L_a) (hd_ : ((L_a).map (·.1)).Nodup) (h1 : 0 ≤ k) (h2 : k + cnts cntESess a ≤ 549755813888) (h3 : a.length ≤ 549755813888) :
    Calls Tryz.prog 67 #[v_a, i64 k] w fun e w' => ∃ L1, e = .returned (.int .i64 (k + cnts cntESess a)) ∧ St w (L_a.map (·.1)) L1 w' ∧ OwnN encSessR ownSessR 106 v_a (mrks mkESess cntESess k a) L1 := by
 obtain ⟨A_a, c_a, rfl⟩ := o_a.shape
 have hcn : ∀ x, 0 ≤ cntESess x := cntESess_ge
 refine enter 35 Tryz.func67 rfl Tryz.ntmps67 rfl rfl ?_
 have hs1 := St.takes1 w L_a h_a hd_
 refine WC.r1 hs1 [] rfl (WC.seq (fun K2 hK2 => WC.r1 hs1 [] rfl (WC.block ?_)))
 refine WC.lO [4] rfl hs1 (fun k_ f L_ => ∃ (i : Nat), k_ = a.length - i ∧ (i ≤ a.length) ∧ OwnN encSessR ownSessR 106 (.slice A_a (a.length) c_a) (mrkTo mkESess cntESess k a i) L_ ∧ Sub [(0, .slice A_a (a.length) c_a), (5, .int .i64 i), (1, .int .i64 (k + cnts cntESess (a.take i)))] f) (((fun (i : Nat) => a.length - i) (0))) ?_ ?_
 ·refine ⟨0, rfl, ?_, (mrkTo_zero.symm ▸ o_a), ⟨rfl, rfl, ?_, trivial⟩⟩
  · exact Nat.zero_le _
  · (refine congrArg some (congrArg (Value.int _) ?_); simp [cnts])
 clear hs1
 rintro _ f w L5 ⟨i, rfl, p0, ho6, hG⟩ hF hs7
 refine WC.sub _ (hG.app hF) ?_
 clear hG hF
 have hfl : (mrkTo mkESess cntESess k a i).length = a.length := mrkTo_len p0
 have hq0 := cnts_nonneg (c := cntESess) hcn (a.take i)
 have hq1 := cnts_take_le hcn a i
 refine WC.seq (fun K8 hK8 => WC.r1 hs7 [] rfl ?_)
 refine WC.cq rfl (fun h9 qh9 => ?_) (fun h9 qh9 => ?_)
 ·have hg := mrkTo_gat (mk := mkESess) (c := cntESess) (F := encSessR) (k := k) (xs := a) (i := i) (by omega)
  have hq2 := cnts_take (c := cntESess) (F := encSessR) (xs := a) (i := i) (by omega)
  have hq3 := cnts_take_le hcn a (i + 1)
  have hq4 := hq2
  simp only [cntESess, ← hg] at hq4
  refine WC.skip (hK8 _ _ (WC.seq (fun K10 hK10 => WC.block (WC.sr (WL.r 3 hs7 [] rfl ?_)))))
  refine WL.cl Tryz.call127 rfl (k181_ _ _ ?_) ?_
  · first | assumption | rfl | omega
  rintro _ whs11 ⟨rfl, hs11⟩
  replace hs11 := hs7.call0 hs11
  refine ⟨_, rfl, WL.val rfl rfl rfl (Run.idxN Tryz.runUnderlying31 Tryz.sizeOf106 rfl rfl rfl ?_ ?_ ?_) ?_⟩
  · exact SlF.some_ (OwnN.sl ho6 (hs11.ow L5))
  · omega
  · omega
  refine WL.val rfl rfl rfl (Run.fieldO Tryz.runUnderlying106 rfl rfl rfl Tryz.sizeOf9 rfl) ?_
  obtain ⟨L12, L13, hs16, ho14, ho15⟩ := OwnN.open_ hs11 ho6
  obtain ⟨y_1, hy_1⟩ : ∃ z_, z_ = ({ (gat encSessR (mrkTo mkESess cntESess k a i) i) with Name := markText (k + cnts cntESess (a.take i)) } : SessR) := ⟨_, rfl⟩
  refine WL.storeF (x' := y_1) hs16 ho14 Tryz.sizeOf9 rfl rfl rfl rfl rfl rfl rfl rfl rfl ?_ (by rw [hy_1]; rfl) (fun L17 whs18 hs18 ho19 _ => ?_)
  · omega
  refine WL.nil (WC.r1 hs18 [] rfl (WC.sr (WL.r 2 hs18 [] rfl (WL.val rfl rfl rfl (Run.idxN Tryz.runUnderlying31 Tryz.sizeOf106 rfl rfl rfl ?_ ?_ ?_) ?_))))
  · exact SlF.some_ (SlF.ofOwn ho19 (hs18.ow L17))
  · omega
  · omega
  refine WL.val rfl rfl rfl (Run.fieldO Tryz.runUnderlying106 rfl rfl rfl Tryz.sizeOf60 rfl) (WL.val rfl rfl rfl (Run.load Tryz.isAgg60 rfl rfl (SlF.fld (v := .slice (gat encSessR (mrkTo mkESess cntESess k a i) i).Wins.A (gat encSessR (mrkTo mkESess cntESess k a i) i).Wins.n (gat encSessR (mrkTo mkESess cntESess k a i) i).Wins.c) (SlF.ofOwn ho19 (hs18.ow L17)) ?_ ?_)) ?_)
  · omega
  · first | (rw [gat_set (by (try simp only [List.length_set]); omega) rfl]; simp only [hy_1]; done) | (rw [gat_set (by (try simp only [List.length_set]); omega) rfl]; simp only [hy_1]; rfl) | rfl
  refine WL.r 1 hs18 [] rfl ?_
  obtain ⟨L21, L22, L23, hs24, ho25, hp26⟩ := Bag.out (F := encSessR) (i := i) (hs18.fr L13) ho15 (by rw [mrkTo_len (by omega)]; omega)
  refine WL.cl Tryz.call128 rfl (k186_ _ _ _ _ _ ho25 (hs24.ow L22) ?_ ?_ ?_) ?_
  iterate 3 first | assumption | rfl | omega
  rintro _ whs20 ⟨L1_27, rfl, hs20, ho28⟩
  replace hs20 := St.lend hs24 hs20
  refine ⟨_, rfl, WL.r 1 hs20 [] rfl (WL.nil (WC.sr (WL.r 3 hs20 [] rfl (WL.val rfl rfl rfl (Run.idxN Tryz.runUnderlying31 Tryz.sizeOf106 rfl rfl rfl ?_ ?_ ?_) ?_))))⟩
  · exact SlF.some_ (SlF.ofOwn ho19 (hs20.ow L17))
  · omega
  · omega
  refine WL.val rfl rfl rfl (Run.fieldO Tryz.runUnderlying106 rfl rfl rfl Tryz.sizeOf3 rfl) ?_
  obtain ⟨y_2, hy_2⟩ : ∃ z_, z_ = ({ y_1 with Active := (((k + cnts cntESess (a.take i)) + 1) + 1 * ((gat encSessR (mrkTo mkESess cntESess k a i) i).Wins.xs.length : Int)) } : SessR) := ⟨_, rfl⟩
  refine WL.storeF (x' := y_2) (hs20.fr L17) ho19 Tryz.sizeOf3 rfl rfl rfl rfl rfl rfl rfl rfl rfl ?_ (by first | (rw [hy_2, gat_set (by (try simp only [List.length_set]); omega) rfl]; rfl) | (rw [hy_2]; rfl)) (fun L29 whs30 hs30 ho31 _ => ?_)
  · omega
  refine WL.nil (WC.region (WL.r 3 hs30 [] rfl (WL.nil (hK10 _ _ (WC.region (WL.r 3 hs30 [] rfl (WL.nil ?_)))))))
  refine tkN ?_
  obtain ⟨L32, hs33, hb34⟩ := hp26 (mkESess (k + cnts cntESess (a.take i)) (gat encSessR a i)) _ ((hs30.fr (L21 ++ L23)).fr L1_27) (by have h_ := ho28; first | exact h_ | (simp only [hg] at h_; exact h_))
  rw [mrkTo_set (F := encSessR) (by omega) rfl] at hb34
  have ho35 := OwnF.recast (ys := mrkTo mkESess cntESess k a (i + 1)) ho31 (by rw [mrkTo_len (by omega)]; (try simp only [List.length_set]); exact hfl.symm) (by rw [← mrkTo_set (F := encSessR) (i := i) (by omega) rfl]; try simp only [List.set_set]; exact rows_set_enc (by simp only [hy_2, hy_1, hg]; rfl))
  obtain ⟨L37, hs36, ho38⟩ := OwnN.fold (hs33.fr L29) ho35 hb34
  refine ⟨sbF rfl, _, hs36, _, ?_, i + 1, rfl, ?_, ho38, ⟨rfl, rfl, ?_, trivial⟩⟩
  · omega
  · omega
  · (refine congrArg some (congrArg (Value.int _) ?_); rw [cnts_take (F := encSessR) (by omega)]; simp only [cntESess, hg]; omega)
 refine WC.exit (hK2 _ _ (WC.r1 hs7 [] rfl (WC.ret (retV1 rfl (resV.tmp rfl) ?_))))
 have hi_ : i = a.length := by omega
 have hx_ := ho6
 rw [mrkTo_full (by omega)] at hx_
 refine ⟨_, ?_, (St.keep1 hs7), hx_⟩
 rw [hi_, List.take_of_length_le (Nat.le_refl _)]
theorem k195_ (A_a : Option Addr) (n_a c_a : Nat) (a : List SessR) (k : Int) (w : World) (f_a : SlN encSessR (okSessR 549755813888) w A_a n_a (mrks mkESess cntESess k a)) (h1 : 0 ≤ k) (h2 : k + cnts cntESess a ≤ 549755813888) (h3 : n_a ≤ 549755813888) :
    Calls Tryz.prog 70 #[.slice A_a n_a c_a, i64 k] w fun e w' => e = .returned (.int .i64 (k + cnts cntESess a)) ∧ St w [] [] w' := by
 have hl : a.length = n_a := by have h_ := f_a.sl.len; simpa [mrks_len] using h_
 have hcn : ∀ x, 0 ≤ cntESess x := fun x => by simp only [cntESess]; omega
 refine enter 41 Tryz.func70 rfl Tryz.ntmps70 rfl rfl ?_
 have hs1 := St.init w
 refine WC.r1 hs1 [] rfl (WC.seq (fun K2 hK2 => WC.r1 hs1 [] rfl (WC.block ?_)))
 refine WC.lS [0] rfl hs1 (fun k_ f w' => ∃ (i : Nat), k_ = n_a - i ∧ (i ≤ n_a) ∧ Sub [(5, .int .i64 i), (1, .int .i64 (k + cnts cntESess (a.take i)))] f) ((fun (i : Nat) => n_a - i) (0)) ?_ ?_
 ·refine ⟨0, rfl, ?_, ⟨rfl, ?_, trivial⟩⟩
  · exact Nat.zero_le _
  · (refine congrArg some (congrArg (Value.int _) ?_); simp [cnts])
 clear hs1
 rintro _ f w ⟨i, rfl, p0, hG⟩ hF hs3
 refine WC.sub _ (hG.app hF) ?_
 clear hG hF
 have hq0 := cnts_nonneg (c := cntESess) hcn (a.take i)
 have hq1 := cnts_take_le hcn a i
 refine WC.seq (fun K4 hK4 => WC.r1 hs3 [] rfl ?_)
 refine WC.cD rfl (fun qh5 => ?_) (fun qh5 => ?_)
 ·have hg := mrks_gat (mk := mkESess) (c := cntESess) (F := encSessR) (k := k) (xs := a) (i := i) (by omega)
  have hq2 := cnts_take (c := cntESess) (F := encSessR) (xs := a) (i := i) (by omega)
  have hq3 := cnts_take_le hcn a (i + 1)
  simp only [cntESess] at hq2
  have hng := (SlN.nth f_a (show i < n_a by omega))
  rw [hg] at hng
  have hnl_Wins := hng.Wins.len
  have hnn_Wins := hng.Wins_n
  simp only [mkESess, marks_len, mrks_len] at hnl_Wins hnn_Wins
  have hgn_Wins : (gat encSessR (mrks mkESess cntESess k a) i).Wins.n = (gat encSessR a i).Wins.n := by rw [hg]; rfl
  have hm_Wins : (gat encSessR (mrks mkESess cntESess k a) i).Wins.xs = marks (fun k => k) 1 ((k + cnts cntESess (a.take i)) + 1) (gat encSessR a i).Wins.xs.length := by rw [hg]; rfl
  refine WC.skip (hK4 _ _ (WC.seq (fun K6 hK6 => WC.block (WC.seq (fun K7 hK7 => WC.sq1 hs3 (WQ.r 2 [] rfl ?_))))))
  refine WQ.val rfl rfl rfl (fun w_ hs_ => (Run.idxN Tryz.runUnderlying31 Tryz.sizeOf106 rfl rfl rfl ?_ ?_ ?_)) ?_
  · exact SlF.some_ (SlF.st0 f_a.sl (hs_ : St _ _ _ _))
  · omega
  · omega
  refine WQ.val rfl rfl rfl (fun w_ hs_ => (Run.fieldO Tryz.runUnderlying106 rfl rfl rfl Tryz.sizeOf9 rfl)) ?_
  refine WQ.val rfl rfl rfl (fun w_ hs_ => (Run.load Tryz.isAgg9 rfl rfl (SlF.fld (SlF.st0 f_a.sl (hs_ : St _ _ _ _)) ?_ rfl))) ?_
  · omega
  refine WQ.r 1 [] rfl ?_
  refine WQ.call rfl rfl rfl (fun w_ hs_ => (Run.call Tryz.call127 rfl rfl rfl)) (fun w_ hs_ => (k181_ _ _ ?_).mono fun e_ w_ h_ => ⟨h_.1, (hs_ : St _ _ _ _).call0 h_.2⟩) ?_
  · first | assumption | rfl | omega
  refine WQ.r 1 [] rfl (WQ.nil (fun _ (hs8 : St _ _ _ _) => WC.condF rfl (by simp [hg, mkESess]) (WC.skip (hK7 _ _ (WC.r1 hs8 [] rfl (WC.sr (WL.r 2 hs8 [] rfl ?_)))))))
  refine WL.val rfl rfl rfl (Run.idxN Tryz.runUnderlying31 Tryz.sizeOf106 rfl rfl rfl ?_ ?_ ?_) ?_
  · exact SlF.some_ (SlF.st0 f_a.sl hs8)
  · omega
  · omega
  refine WL.val rfl rfl rfl (Run.fieldO Tryz.runUnderlying106 rfl rfl rfl Tryz.sizeOf60 rfl) (WL.val rfl rfl rfl (Run.load Tryz.isAgg60 rfl rfl (SlF.fld (SlF.st0 f_a.sl hs8) ?_ rfl)) ?_)
  · omega
  refine WL.r 1 hs8 [] rfl (WL.cl Tryz.call132 rfl (k187_ _ _ _ _ _ _ _ (SlF.st0 (SlN.nth f_a (by omega)).Wins hs8) hm_Wins ?_ ?_ ?_) ?_)
  iterate 3 first | assumption | rfl | omega
  rintro _ whs10 ⟨rfl, hs10⟩
  replace hs10 := hs8.call0 hs10
  refine ⟨_, rfl, WL.r 1 hs10 [] rfl (WL.nil (WC.seq (fun K11 hK11 => WC.r1 hs10 [] rfl ?_)))⟩
  refine WC.condF rfl (by first | (simp [hg, mkESess]; done) | (simp [hg, mkESess]; omega)) (WC.skip (hK11 _ _ (WC.seq (fun K13 hK13 => WC.sr (WL.r 2 hs10 [] rfl ?_)))))
  refine WL.val rfl rfl rfl (Run.idxN Tryz.runUnderlying31 Tryz.sizeOf106 rfl rfl rfl ?_ ?_ ?_) ?_
  · exact SlF.some_ (SlF.st0 f_a.sl hs10)
  · omega
  · omega
  refine WL.val rfl rfl rfl (Run.fieldO Tryz.runUnderlying106 rfl rfl rfl Tryz.sizeOf3 rfl) (WL.val rfl rfl rfl (Run.load Tryz.isAgg3 rfl rfl (SlF.fld (SlF.st0 f_a.sl hs10) ?_ rfl)) ?_)
  · omega
  refine WL.r 2 hs10 [] rfl (WL.nil (WC.condF rfl (by simp [hg, mkESess]) (WC.skip (hK13 _ _ (WC.region (WL.r 3 hs10 [] rfl (WL.nil ?_)))))))
  refine hK6 _ _ (WC.region (WL.r 3 hs10 [] rfl (WL.nil (tkN ?_))))
  refine ⟨sbF rfl, hs10, _, ?_, i + 1, rfl, ?_, ⟨rfl, ?_, trivial⟩⟩
  · omega
  · omega
  · (refine congrArg some (congrArg (Value.int _) ?_); rw [cnts_take (F := encSessR) (by omega)]; simp only [cntESess]; omega)
 refine WC.exit (hK2 _ _ (WC.r1 hs3 [] rfl (WC.ret (rtv rfl rfl hs3 ?_))))
 rw [show i = a.length from by omega, List.take_of_length_le (Nat.le_refl _)]
set_option maxHeartbeats 16000000 in
set_option maxRecDepth 20000 in
theorem k196_ (v_a : Value) (a : List WinR) (L_a : Hp) (k : Int) (w : World) (o_a : OwnN encWinR ownWinR 58 v_a a L_a) (h_a : Hh w L_a) (hd_ : ((L_a).map (·.1)).Nodup) (h1 : 0 ≤ k) (h2 : k + cnts cntEWin a ≤ 549755813888) (h3 : a.length ≤ 549755813888) :
    Calls Tryz.prog 66 #[v_a, i64 k] w fun e w' => ∃ L1, e = .returned (.int .i64 (k + cnts cntEWin a)) ∧ St w (L_a.map (·.1)) L1 w' ∧ OwnN encWinR ownWinR 58 v_a (mrks mkEWin cntEWin k a) L1 := by
 obtain ⟨A_a, c_a, rfl⟩ := o_a.shape
 have hcn : ∀ x, 0 ≤ cntEWin x := cntEWin_ge
 refine enter 51 Tryz.func66 rfl Tryz.ntmps66 rfl rfl ?_
 have hs1 := St.takes1 w L_a h_a hd_
 refine WC.r1 hs1 [] rfl (WC.seq (fun K2 hK2 => WC.r1 hs1 [] rfl (WC.block ?_)))
 refine WC.lO [4] rfl hs1 (fun k_ f L_ => ∃ (i : Nat), k_ = a.length - i ∧ (i ≤ a.length) ∧ OwnN encWinR ownWinR 58 (.slice A_a (a.length) c_a) (mrkTo mkEWin cntEWin k a i) L_ ∧ Sub [(0, .slice A_a (a.length) c_a), (5, .int .i64 i), (1, .int .i64 (k + cnts cntEWin (a.take i)))] f) (((fun (i : Nat) => a.length - i) (0))) ?_ ?_
 ·refine ⟨0, rfl, ?_, (mrkTo_zero.symm ▸ o_a), ⟨rfl, rfl, ?_, trivial⟩⟩
  · exact Nat.zero_le _
  · (refine congrArg some (congrArg (Value.int _) ?_); simp [cnts])
 clear hs1
 rintro _ f w L5 ⟨i, rfl, p0, ho6, hG⟩ hF hs7
 refine WC.sub _ (hG.app hF) ?_
 clear hG hF
 have hfl : (mrkTo mkEWin cntEWin k a i).length = a.length := mrkTo_len p0
 have hq0 := cnts_nonneg (c := cntEWin) hcn (a.take i)
 have hq1 := cnts_take_le hcn a i
 refine WC.seq (fun K8 hK8 => WC.r1 hs7 [] rfl ?_)
 refine WC.cq rfl (fun h9 qh9 => ?_) (fun h9 qh9 => ?_)
 ·have hg := mrkTo_gat (mk := mkEWin) (c := cntEWin) (F := encWinR) (k := k) (xs := a) (i := i) (by omega)
  have hq2 := cnts_take (c := cntEWin) (F := encWinR) (xs := a) (i := i) (by omega)
  have hq3 := cnts_take_le hcn a (i + 1)
  have hq4 := hq2
  simp only [cntEWin, ← hg] at hq4
  refine WC.skip (hK8 _ _ (WC.seq (fun K10 hK10 => WC.block (WC.sr (WL.r 3 hs7 [] rfl ?_)))))
  refine WL.val rfl rfl rfl (Run.idxN Tryz.runUnderlying30 Tryz.sizeOf58 rfl rfl rfl ?_ ?_ ?_) ?_
  · exact SlF.some_ (OwnN.sl ho6 (hs7.ow L5))
  · omega
  · omega
  refine WL.val rfl rfl rfl (Run.fieldO Tryz.runUnderlying58 rfl rfl rfl Tryz.sizeOf3 rfl) ?_
  obtain ⟨L11, L12, hs15, ho13, ho14⟩ := OwnN.open_ hs7 ho6
  obtain ⟨y_1, hy_1⟩ : ∃ z_, z_ = ({ (gat encWinR (mrkTo mkEWin cntEWin k a i) i) with Id := (k + cnts cntEWin (a.take i)) } : WinR) := ⟨_, rfl⟩
  refine WL.storeF (x' := y_1) hs15 ho13 Tryz.sizeOf3 rfl rfl rfl rfl rfl rfl rfl rfl rfl ?_ (by rw [hy_1]; rfl) (fun L16 whs17 hs17 ho18 _ => ?_)
  · omega
  refine WL.nil (WC.r1 hs17 [] rfl (WC.sr (WL.r 3 hs17 [] rfl (WL.cl Tryz.call127 rfl (k181_ _ _ ?_) ?_))))
  · first | assumption | rfl | omega
  rintro _ whs19 ⟨rfl, hs19⟩
  replace hs19 := hs17.call0 hs19
  refine ⟨_, rfl, WL.val rfl rfl rfl (Run.idxN Tryz.runUnderlying30 Tryz.sizeOf58 rfl rfl rfl ?_ ?_ ?_) ?_⟩
  · exact SlF.some_ (SlF.ofOwn ho18 (hs19.ow L16))
  · omega
  · omega
  refine WL.val rfl rfl rfl (Run.fieldO Tryz.runUnderlying58 rfl rfl rfl Tryz.sizeOf9 rfl) ?_
  obtain ⟨y_2, hy_2⟩ : ∃ z_, z_ = ({ y_1 with Name := markText ((k + cnts cntEWin (a.take i)) + 1) } : WinR) := ⟨_, rfl⟩
  refine WL.storeF (x' := y_2) hs19 ho18 Tryz.sizeOf9 rfl rfl rfl rfl rfl rfl rfl rfl rfl ?_ (by first | (rw [hy_2, gat_set (by (try simp only [List.length_set]); omega) rfl]; rfl) | (rw [hy_2]; rfl)) (fun L20 whs21 hs21 ho22 _ => ?_)
  · omega
  refine WL.nil (WC.r1 hs21 [] rfl (WC.sr (WL.r 2 hs21 [] rfl (WL.val rfl rfl rfl (Run.idxN Tryz.runUnderlying30 Tryz.sizeOf58 rfl rfl rfl ?_ ?_ ?_) ?_))))
  · exact SlF.some_ (SlF.ofOwn ho22 (hs21.ow L20))
  · omega
  · omega
  refine WL.val rfl rfl rfl (Run.fieldO Tryz.runUnderlying58 rfl rfl rfl Tryz.sizeOf56 rfl) (WL.val rfl rfl rfl (Run.load Tryz.isAgg56 rfl rfl (SlF.fld (v := .slice (gat encWinR (mrkTo mkEWin cntEWin k a i) i).Tree.A (gat encWinR (mrkTo mkEWin cntEWin k a i) i).Tree.n (gat encWinR (mrkTo mkEWin cntEWin k a i) i).Tree.c) (SlF.ofOwn ho22 (hs21.ow L20)) ?_ ?_)) ?_)
  · omega
  · first | (rw [gat_set (by (try simp only [List.length_set]); omega) rfl]; simp only [hy_2, hy_1]; done) | (rw [gat_set (by (try simp only [List.length_set]); omega) rfl]; simp only [hy_2, hy_1]; rfl) | rfl
  refine WL.r 1 hs21 [] rfl ?_
  obtain ⟨L24, L25, L26, hs27, ho28, hp29⟩ := Bag.out (F := encWinR) (i := i) (hs21.fr L12) ho14 (by rw [mrkTo_len (by omega)]; omega)
  refine WL.cl Tryz.call131 rfl (k188_ _ _ _ _ _ ho28 (hs27.ow L25) ?_ ?_ ?_) ?_
  iterate 3 first | assumption | rfl | omega
  rintro _ whs23 ⟨L1_30, rfl, hs23, ho31⟩
  replace hs23 := St.lend hs27 hs23
  refine ⟨_, rfl, WL.r 1 hs23 [] rfl (WL.nil (WC.sr (WL.r 3 hs23 [] rfl (WL.val rfl rfl rfl (Run.idxN Tryz.runUnderlying30 Tryz.sizeOf58 rfl rfl rfl ?_ ?_ ?_) ?_))))⟩
  · exact SlF.some_ (SlF.ofOwn ho22 (hs23.ow L20))
  · omega
  · omega
  refine WL.val rfl rfl rfl (Run.fieldO Tryz.runUnderlying58 rfl rfl rfl Tryz.sizeOf3 rfl) ?_
  obtain ⟨y_3, hy_3⟩ : ∃ z_, z_ = ({ y_2 with Active := ((((k + cnts cntEWin (a.take i)) + 1) + 1) + 3 * ((gat encWinR (mrkTo mkEWin cntEWin k a i) i).Tree.xs.length : Int)) } : WinR) := ⟨_, rfl⟩
  refine WL.storeF (x' := y_3) (hs23.fr L20) ho22 Tryz.sizeOf3 rfl rfl rfl rfl rfl rfl rfl rfl rfl ?_ (by first | (rw [hy_3, gat_set (by (try simp only [List.length_set]); omega) rfl]; rfl) | (rw [hy_3]; rfl)) (fun L32 whs33 hs33 ho34 _ => ?_)
  · omega
  refine WL.nil (WC.r1 hs33 [] rfl (WC.sr (WL.r 3 hs33 [] rfl (WL.val rfl rfl rfl (Run.rem rfl rfl rfl ?_ ?_) ?_))))
  · omega
  · omega
  refine WL.r 1 hs33 [] rfl (WL.val rfl rfl rfl (Run.idxN Tryz.runUnderlying30 Tryz.sizeOf58 rfl rfl rfl ?_ ?_ ?_) ?_)
  · exact SlF.some_ (SlF.ofOwn ho34 (hs33.ow L32))
  · omega
  · omega
  refine WL.val rfl rfl rfl (Run.fieldO Tryz.runUnderlying58 rfl rfl rfl Tryz.sizeOf4 rfl) ?_
  obtain ⟨y_4, hy_4⟩ : ∃ z_, z_ = ({ y_3 with Zoom := decide ((((((k + cnts cntEWin (a.take i)) + 1) + 1) + 3 * ((gat encWinR (mrkTo mkEWin cntEWin k a i) i).Tree.xs.length : Int)) + 1) % 3 = 0) } : WinR) := ⟨_, rfl⟩
  refine WL.storeF (x' := y_4) hs33 ho34 Tryz.sizeOf4 rfl rfl rfl rfl rfl rfl rfl rfl rfl ?_ (by first | (rw [hy_4, gat_set (by (try simp only [List.length_set]); omega) rfl]; rfl) | (rw [hy_4]; rfl)) (fun L35 whs36 hs36 ho37 _ => ?_)
  · omega
  refine WL.nil (WC.region (WL.r 3 hs36 [] rfl (WL.nil (hK10 _ _ (WC.region (WL.r 3 hs36 [] rfl (WL.nil ?_)))))))
  refine tkN ?_
  obtain ⟨L38, hs39, hb40⟩ := hp29 (mkEWin (k + cnts cntEWin (a.take i)) (gat encWinR a i)) _ ((hs36.fr (L24 ++ L26)).fr L1_30) (by have h_ := ho31; first | exact h_ | (simp only [hg] at h_; exact h_))
  rw [mrkTo_set (F := encWinR) (by omega) rfl] at hb40
  have ho41 := OwnF.recast (ys := mrkTo mkEWin cntEWin k a (i + 1)) ho37 (by rw [mrkTo_len (by omega)]; (try simp only [List.length_set]); exact hfl.symm) (by rw [← mrkTo_set (F := encWinR) (i := i) (by omega) rfl]; try simp only [List.set_set]; exact rows_set_enc (by simp only [hy_4, hy_3, hy_2, hy_1, hg]; rfl))
  obtain ⟨L43, hs42, ho44⟩ := OwnN.fold (hs39.fr L35) ho41 hb40
  refine ⟨sbF rfl, _, hs42, _, ?_, i + 1, rfl, ?_, ho44, ⟨rfl, rfl, ?_, trivial⟩⟩
  · omega
  · omega
  · (refine congrArg some (congrArg (Value.int _) ?_); rw [cnts_take (F := encWinR) (by omega)]; simp only [cntEWin, hg]; omega)
 refine WC.exit (hK2 _ _ (WC.r1 hs7 [] rfl (WC.ret (retV1 rfl (resV.tmp rfl) ?_))))
 have hi_ : i = a.length := by omega
 have hx_ := ho6
 rw [mrkTo_full (by omega)] at hx_
 refine ⟨_, ?_, (St.keep1 hs7), hx_⟩
 rw [hi_, List.take_of_length_le (Nat.le_refl _)]
theorem k197_ (A_a : Option Addr) (n_a c_a : Nat) (a : List WinR) (k : Int) (w : World) (f_a : SlN encWinR (okWinR 549755813888) w A_a n_a (mrks mkEWin cntEWin k a)) (h1 : 0 ≤ k) (h2 : k + cnts cntEWin a ≤ 549755813888) (h3 : n_a ≤ 549755813888) :
    Calls Tryz.prog 69 #[.slice A_a n_a c_a, i64 k] w fun e w' => e = .returned (.int .i64 (k + cnts cntEWin a)) ∧ St w [] [] w' := by
 have hl : a.length = n_a := by have h_ := f_a.sl.len; simpa [mrks_len] using h_
 have hcn : ∀ x, 0 ≤ cntEWin x := fun x => by simp only [cntEWin]; omega
 refine enter 61 Tryz.func69 rfl Tryz.ntmps69 rfl rfl ?_
 have hs1 := St.init w
 refine WC.r1 hs1 [] rfl (WC.seq (fun K2 hK2 => WC.r1 hs1 [] rfl (WC.block ?_)))
 refine WC.lS [0] rfl hs1 (fun k_ f w' => ∃ (i : Nat), k_ = n_a - i ∧ (i ≤ n_a) ∧ Sub [(5, .int .i64 i), (1, .int .i64 (k + cnts cntEWin (a.take i)))] f) ((fun (i : Nat) => n_a - i) (0)) ?_ ?_
 ·refine ⟨0, rfl, ?_, ⟨rfl, ?_, trivial⟩⟩
  · exact Nat.zero_le _
  · (refine congrArg some (congrArg (Value.int _) ?_); simp [cnts])
 clear hs1
 rintro _ f w ⟨i, rfl, p0, hG⟩ hF hs3
 refine WC.sub _ (hG.app hF) ?_
 clear hG hF
 have hq0 := cnts_nonneg (c := cntEWin) hcn (a.take i)
 have hq1 := cnts_take_le hcn a i
 refine WC.seq (fun K4 hK4 => WC.r1 hs3 [] rfl ?_)
 refine WC.cD rfl (fun qh5 => ?_) (fun qh5 => ?_)
 ·have hg := mrks_gat (mk := mkEWin) (c := cntEWin) (F := encWinR) (k := k) (xs := a) (i := i) (by omega)
  have hq2 := cnts_take (c := cntEWin) (F := encWinR) (xs := a) (i := i) (by omega)
  have hq3 := cnts_take_le hcn a (i + 1)
  simp only [cntEWin] at hq2
  have hng := (SlN.nth f_a (show i < n_a by omega))
  rw [hg] at hng
  have hnl_Tree := hng.Tree.len
  have hnn_Tree := hng.Tree_n
  simp only [mkEWin, marks_len, mrks_len] at hnl_Tree hnn_Tree
  have hgn_Tree : (gat encWinR (mrks mkEWin cntEWin k a) i).Tree.n = (gat encWinR a i).Tree.n := by rw [hg]; rfl
  have hm_Tree : (gat encWinR (mrks mkEWin cntEWin k a) i).Tree.xs = marks mkNode 3 (((k + cnts cntEWin (a.take i)) + 1) + 1) (gat encWinR a i).Tree.xs.length := by rw [hg]; rfl
  refine WC.skip (hK4 _ _ (WC.seq (fun K6 hK6 => WC.block (WC.seq (fun K7 hK7 => WC.sr (WL.r 2 hs3 [] rfl ?_))))))
  refine WL.val rfl rfl rfl (Run.idxN Tryz.runUnderlying30 Tryz.sizeOf58 rfl rfl rfl ?_ ?_ ?_) ?_
  · exact SlF.some_ (SlF.st0 f_a.sl hs3)
  · omega
  · omega
  refine WL.val rfl rfl rfl (Run.fieldO Tryz.runUnderlying58 rfl rfl rfl Tryz.sizeOf3 rfl) (WL.val rfl rfl rfl (Run.load Tryz.isAgg3 rfl rfl (SlF.fld (SlF.st0 f_a.sl hs3) ?_ rfl)) ?_)
  · omega
  refine WL.r 2 hs3 [] rfl (WL.nil (WC.condF rfl (by simp [hg, mkEWin]) (WC.skip (hK7 _ _ (WC.r1 hs3 [] rfl (WC.seq (fun K9 hK9 => WC.sq1 hs3 ?_)))))))
  refine WQ.r 2 [] rfl ?_
  refine WQ.val rfl rfl rfl (fun w_ hs_ => (Run.idxN Tryz.runUnderlying30 Tryz.sizeOf58 rfl rfl rfl ?_ ?_ ?_)) ?_
  · exact SlF.some_ (SlF.st0 f_a.sl (hs_ : St _ _ _ _))
  · omega
  · omega
  refine WQ.val rfl rfl rfl (fun w_ hs_ => (Run.fieldO Tryz.runUnderlying58 rfl rfl rfl Tryz.sizeOf9 rfl)) ?_
  refine WQ.val rfl rfl rfl (fun w_ hs_ => (Run.load Tryz.isAgg9 rfl rfl (SlF.fld (SlF.st0 f_a.sl (hs_ : St _ _ _ _)) ?_ rfl))) ?_
  · omega
  refine WQ.r 1 [] rfl ?_
  refine WQ.call rfl rfl rfl (fun w_ hs_ => (Run.call Tryz.call127 rfl rfl rfl)) (fun w_ hs_ => (k181_ _ _ ?_).mono fun e_ w_ h_ => ⟨h_.1, (hs_ : St _ _ _ _).call0 h_.2⟩) ?_
  · first | assumption | rfl | omega
  refine WQ.r 1 [] rfl (WQ.nil (fun _ (hs10 : St _ _ _ _) => WC.condF rfl (by simp [hg, mkEWin]) (WC.skip (hK9 _ _ (WC.r1 hs10 [] rfl (WC.sr (WL.r 2 hs10 [] rfl ?_)))))))
  refine WL.val rfl rfl rfl (Run.idxN Tryz.runUnderlying30 Tryz.sizeOf58 rfl rfl rfl ?_ ?_ ?_) ?_
  · exact SlF.some_ (SlF.st0 f_a.sl hs10)
  · omega
  · omega
  refine WL.val rfl rfl rfl (Run.fieldO Tryz.runUnderlying58 rfl rfl rfl Tryz.sizeOf56 rfl) (WL.val rfl rfl rfl (Run.load Tryz.isAgg56 rfl rfl (SlF.fld (SlF.st0 f_a.sl hs10) ?_ rfl)) ?_)
  · omega
  refine WL.r 1 hs10 [] rfl (WL.cl Tryz.call135 rfl (k189_ _ _ _ _ _ _ _ (SlF.st0 (SlN.nth f_a (by omega)).Tree hs10) hm_Tree ?_ ?_ ?_) ?_)
  iterate 3 first | assumption | rfl | omega
  rintro _ whs12 ⟨rfl, hs12⟩
  replace hs12 := hs10.call0 hs12
  refine ⟨_, rfl, WL.r 1 hs12 [] rfl (WL.nil (WC.seq (fun K13 hK13 => WC.r1 hs12 [] rfl ?_)))⟩
  refine WC.condF rfl (by first | (simp [hg, mkEWin]; done) | (simp [hg, mkEWin]; omega)) (WC.skip (hK13 _ _ (WC.seq (fun K15 hK15 => WC.sr (WL.r 2 hs12 [] rfl ?_)))))
  refine WL.val rfl rfl rfl (Run.idxN Tryz.runUnderlying30 Tryz.sizeOf58 rfl rfl rfl ?_ ?_ ?_) ?_
  · exact SlF.some_ (SlF.st0 f_a.sl hs12)
  · omega
  · omega
  refine WL.val rfl rfl rfl (Run.fieldO Tryz.runUnderlying58 rfl rfl rfl Tryz.sizeOf3 rfl) (WL.val rfl rfl rfl (Run.load Tryz.isAgg3 rfl rfl (SlF.fld (SlF.st0 f_a.sl hs12) ?_ rfl)) ?_)
  · omega
  refine WL.r 2 hs12 [] rfl (WL.nil (WC.condF rfl (by simp [hg, mkEWin]) (WC.skip (hK15 _ _ (WC.r1 hs12 [] rfl (WC.seq (fun K17 hK17 => WC.sr ?_)))))))
  refine WL.r 2 hs12 [] rfl (WL.val rfl rfl rfl (Run.idxN Tryz.runUnderlying30 Tryz.sizeOf58 rfl rfl rfl ?_ ?_ ?_) ?_)
  · exact SlF.some_ (SlF.st0 f_a.sl hs12)
  · omega
  · omega
  refine WL.val rfl rfl rfl (Run.fieldO Tryz.runUnderlying58 rfl rfl rfl Tryz.sizeOf4 rfl) (WL.val rfl rfl rfl (Run.load Tryz.isAgg4 rfl rfl (SlF.fld (SlF.st0 f_a.sl hs12) ?_ rfl)) ?_)
  · omega
  refine WL.r 1 hs12 [] rfl (WL.val rfl rfl rfl (Run.rem rfl rfl rfl ?_ ?_) ?_)
  · omega
  · omega
  refine WL.r 2 hs12 [] rfl (WL.nil (WC.condF rfl (by simp [hg, mkEWin]) (WC.skip (hK17 _ _ (WC.region (WL.r 3 hs12 [] rfl (WL.nil ?_)))))))
  refine hK6 _ _ (WC.region (WL.r 3 hs12 [] rfl (WL.nil (tkN ?_))))
  refine ⟨sbF rfl, hs12, _, ?_, i + 1, rfl, ?_, ⟨rfl, ?_, trivial⟩⟩
  · omega
  · omega
  · (refine congrArg some (congrArg (Value.int _) ?_); rw [cnts_take (F := encWinR) (by omega)]; simp only [cntEWin]; omega)
 refine WC.exit (hK2 _ _ (WC.r1 hs3 [] rfl (WC.ret (rtv rfl rfl hs3 ?_))))
 rw [show i = a.length from by omega, List.take_of_length_le (Nat.le_refl _)]
set_option maxHeartbeats 4000000 in
theorem k198_ (a : StateR) (L_a : Hp) (k : Int) (w : World) (o_a : ownStateR a L_a) (h_a : Hh w L_a) (hd_ : ((L_a).map (·.1)).Nodup) (h1 : 0 ≤ k) (h2 : endState k a ≤ 549755813888) (hb_Panes : a.Panes.xs.length ≤ 549755813888) (hb_Wins : a.Wins.xs.length ≤ 549755813888) (hb_Sess : a.Sess.xs.length ≤ 549755813888) (hd_Panes_Term_S_Back : ∀ x, x ∈ a.Panes.xs → x.Term.S.Back.xs.length ≤ 549755813888) :
    Calls Tryz.prog 22 #[.agg #[i64 a.W, i64 a.H, i64 a.Limit, i64 a.Next, .slice a.Panes.A a.Panes.n a.Panes.c, .slice a.Wins.A a.Wins.n a.Wins.c, .slice a.Sess.A a.Sess.n a.Sess.c], i64 k] w fun e w' => ∃ L1, e = .returned (.int .i64 (endState k a)) ∧ St w (L_a.map (·.1)) L1 w' ∧ ownStateR (markState k a) L1 := by
 have hq2 := h2
 simp only [endState] at hq2
 have hcn_Panes := cnts_nonneg (c := cntEPane) cntEPane_ge a.Panes.xs
 have hcn_Wins := cnts_nonneg (c := cntEWin) (fun x => by simp only [cntEWin]; omega) a.Wins.xs
 have hcn_Sess := cnts_nonneg (c := cntESess) (fun x => by simp only [cntESess]; omega) a.Sess.xs
 refine enter 18 Tryz.func22 rfl Tryz.ntmps22 rfl rfl ?_
 have hs1 := St.takes1 w L_a h_a hd_
 refine WC.sr (WL.bx hs1 rfl (fun b2 _ hs3 => WL.r 1 hs3 [] rfl (WL.nil (WC.sr (WL.r 3 hs3 [0] rfl ?_)))))
 obtain ⟨L5, L6, L7, hs11, ho8, ho9, ho10⟩ := ownStateR.op hs3 o_a
 have hs12 := (hs11.fb b2)
 refine WL.cl Tryz.call65 rfl (k192_ _ _ _ _ _ ho8 (hs12.ow L5) (St.nodupL (hs12.fr L5)) ?_ ?_ ?_ ?_) ?_
 iterate 4 first | assumption | omega | (simp only [endState]; omega)
 rintro _ whs4 ⟨L1_13, rfl, hs4, ho14⟩
 replace hs4 := St.lend (hs12.fr L5) hs4
 refine ⟨_, rfl, ?_⟩
 replace hs4 := St.back [_] hs4
 refine WL.r 1 hs4 [] rfl (WL.nil (WC.sr (WL.r 3 hs4 [0] rfl (WL.cl Tryz.call66 rfl (k196_ _ _ _ _ _ ho9 (hs4.ow L6) (St.nodupL (hs4.fr L6)) ?_ ?_ ?_) ?_))))
 iterate 3 first | assumption | omega | (simp only [endState]; omega)
 rintro _ whs15 ⟨L1_16, rfl, hs15, ho17⟩
 replace hs15 := St.lend (hs4.fr L6) hs15
 refine ⟨_, rfl, ?_⟩
 replace hs15 := St.back [_] hs15
 refine WL.r 1 hs15 [] rfl (WL.nil (WC.sr (WL.r 3 hs15 [0] rfl (WL.cl Tryz.call67 rfl (k194_ _ _ _ _ _ ho10 (hs15.ow L7) (St.nodupL (hs15.fr L7)) ?_ ?_ ?_) ?_))))
 iterate 3 first | assumption | omega | (simp only [endState]; omega)
 rintro _ whs18 ⟨L1_19, rfl, hs18, ho20⟩
 replace hs18 := St.lend (hs15.fr L7) hs18
 refine ⟨_, rfl, ?_⟩
 replace hs18 := St.back [_] hs18
 refine WL.r 1 hs18 [] rfl (WL.nil (WC.r1 hs18 [] rfl (WC.ret (retV1 rfl (resV.tmp rfl) ?_))))
 obtain ⟨L22, hs21, ho23⟩ := ownStateR.fl hs18 ho14 ho17 ho20
 have hs24 := (hs21.fb b2)
 refine ⟨_, congrArg Ending.returned ?_, (St.keep1 (hs24.fr L22)), (by exact ho23)⟩
 first | rfl | (simp [endState]; done) | (simp [endState]; omega)
set_option maxHeartbeats 4000000 in
theorem k199_ (a : StateR) (k : Int) (w : World) (f_a : okStateR 549755813888 w (markState k a)) (h1 : 0 ≤ k) (h2 : endState k a ≤ 549755813888) :
    Calls Tryz.prog 23 #[.agg #[i64 a.W, i64 a.H, i64 a.Limit, i64 a.Next, .slice a.Panes.A a.Panes.n a.Panes.c, .slice a.Wins.A a.Wins.n a.Wins.c, .slice a.Sess.A a.Sess.n a.Sess.c], i64 k] w fun e w' => e = .returned (.int .i64 (endState k a)) ∧ St w [] [] w' := by
 have nb_Panes : a.Panes.n ≤ 549755813888 := f_a.Panes_n
 have nl_Panes : a.Panes.xs.length = a.Panes.n := by have h_ := f_a.Panes.sl.len; simpa [markState, marks_len, mrks_len] using h_
 have nb_Wins : a.Wins.n ≤ 549755813888 := f_a.Wins_n
 have nl_Wins : a.Wins.xs.length = a.Wins.n := by have h_ := f_a.Wins.sl.len; simpa [markState, marks_len, mrks_len] using h_
 have nb_Sess : a.Sess.n ≤ 549755813888 := f_a.Sess_n
 have nl_Sess : a.Sess.xs.length = a.Sess.n := by have h_ := f_a.Sess.sl.len; simpa [markState, marks_len, mrks_len] using h_
 have nb_Panes : a.Panes.n ≤ 549755813888 := f_a.Panes_n
 have nl_Panes : a.Panes.xs.length = a.Panes.n := by have h_ := f_a.Panes.sl.len; simpa [markState, marks_len, mrks_len] using h_
 have nb_Wins : a.Wins.n ≤ 549755813888 := f_a.Wins_n
 have nl_Wins : a.Wins.xs.length = a.Wins.n := by have h_ := f_a.Wins.sl.len; simpa [markState, marks_len, mrks_len] using h_
 have nb_Sess : a.Sess.n ≤ 549755813888 := f_a.Sess_n
 have nl_Sess : a.Sess.xs.length = a.Sess.n := by have h_ := f_a.Sess.sl.len; simpa [markState, marks_len, mrks_len] using h_
 have hq2 := h2
 simp only [endState] at hq2
 have hcn_Panes := cnts_nonneg (c := cntEPane) cntEPane_ge a.Panes.xs
 have hcn_Wins := cnts_nonneg (c := cntEWin) (fun x => by simp only [cntEWin]; omega) a.Wins.xs
 have hcn_Sess := cnts_nonneg (c := cntESess) (fun x => by simp only [cntESess]; omega) a.Sess.xs
 refine enter 24 Tryz.func23 rfl Tryz.ntmps23 rfl rfl ?_
 have hs1 := St.init w
 refine WC.sr (WL.bx hs1 rfl (fun b2 _ hs3 => WL.r 1 hs3 [] rfl (WL.nil (WC.sr (WL.r 3 hs3 [0] rfl ?_)))))
 refine WL.cl Tryz.call68 rfl (k193_ _ _ _ _ _ _ (SlN.st0 okPaneR.st0 f_a.Panes hs3) ?_ ?_ ?_) ?_
 iterate 3 first | assumption | omega | (simp only [endState]; omega)
 rintro _ whs4 ⟨rfl, hs4⟩
 replace hs4 := hs3.call0 hs4
 refine ⟨_, rfl, WL.r 1 hs4 [] rfl (WL.nil (WC.seq (fun K5 hK5 => WC.r1 hs4 [] rfl ?_)))⟩
 refine WC.condF rfl (by first | (simp; omega) | (rw [decide_eq_false_iff_not]; simp only [endState]; omega)) (WC.skip (hK5 _ _ (WC.sr (WL.r 3 hs4 [0] rfl ?_))))
 refine WL.cl Tryz.call69 rfl (k197_ _ _ _ _ _ _ (SlN.st0 okWinR.st0 f_a.Wins hs4) ?_ ?_ ?_) ?_
 iterate 3 first | assumption | omega | (simp only [endState]; omega)
 rintro _ whs7 ⟨rfl, hs7⟩
 replace hs7 := hs4.call0 hs7
 refine ⟨_, rfl, WL.r 1 hs7 [] rfl (WL.nil (WC.seq (fun K8 hK8 => WC.r1 hs7 [] rfl ?_)))⟩
 refine WC.condF rfl (by first | (simp; omega) | (rw [decide_eq_false_iff_not]; simp only [endState]; omega)) (WC.skip (hK8 _ _ (WC.sr (WL.r 3 hs7 [0] rfl ?_))))
 refine WL.cl Tryz.call70 rfl (k195_ _ _ _ _ _ _ (SlN.st0 okSessR.st0 f_a.Sess hs7) ?_ ?_ ?_) ?_
 iterate 3 first | assumption | omega | (simp only [endState]; omega)
 rintro _ whs10 ⟨rfl, hs10⟩
 replace hs10 := hs7.call0 hs10
 refine ⟨_, rfl, WL.r 1 hs10 [] rfl (WL.nil (WC.seq (fun K11 hK11 => WC.r1 hs10 [] rfl ?_)))⟩
 refine WC.condF rfl (by first | (simp; omega) | (rw [decide_eq_false_iff_not]; simp only [endState]; omega)) (WC.skip (hK11 _ _ (WC.r1 hs10 [] rfl (WC.ret (rtv rfl rfl hs10 ?_)))))
 first | rfl | (simp [endState, *]; done) | (simp [endState, *]; omega)
set_option maxHeartbeats 8000000 in
theorem k200_ (aS : StateR) (w : World) (f_aS : okStateR 9223372036854775807 w aS) :
    Calls Tryz.prog 9 #[.agg #[i64 aS.W, i64 aS.H, i64 aS.Limit, i64 aS.Next, .slice aS.Panes.A aS.Panes.n aS.Panes.c, .slice aS.Wins.A aS.Wins.n aS.Wins.c, .slice aS.Sess.A aS.Sess.n aS.Sess.c]] w fun e w' => e = .returned (.bool true) ∧ St w [] [] w' := by
 have nb_aS_Panes := f_aS.Panes_n
 have nl_aS_Panes := f_aS.Panes.sl.len
 have nb_aS_Wins := f_aS.Wins_n
 have nl_aS_Wins := f_aS.Wins.sl.len
 have nb_aS_Sess := f_aS.Sess_n
 have nl_aS_Sess := f_aS.Sess.sl.len
 refine enter 69 Tryz.func9 rfl Tryz.ntmps9 rfl rfl ?_
 have hs1 := St.init w
 refine WC.sr (WL.bx hs1 rfl (fun b2 _ hs3 => WL.r 1 hs3 [] rfl (WL.nil (WC.r1 hs3 [] rfl (WC.sr (WL.r 2 hs3 [0] rfl ?_))))))
 refine WL.cl Tryz.call11 rfl (k166_ aS _ _ (okStateR.st0 f_aS hs3) ?_ ?_) ?_
 · first | assumption | omega | (simp only [endState]; first | done | assumption | omega)
 · first | assumption | omega | exact szR_b (by assumption) (by omega) (by first | assumption | omega) | (simp only [endState]; first | done | assumption | omega)
 rintro _ whs4 ⟨rfl, hs4⟩
 replace hs4 := hs3.call0 hs4
 refine ⟨_, rfl, WL.r 1 hs4 [] rfl (WL.nil (WC.seq (fun K5 hK5 => WC.r1 hs4 [] rfl ?_)))⟩
 refine WC.cD rfl (fun qh6 => ?_) (fun qh6 => ?_)
 ·refine WC.r1 hs4 [] rfl (WC.ret (tkR ?_))
  clear hK5
  refine rtv rfl rfl hs4 ?_
  rfl
 simp only [szR] at qh6
 have hb_aS : totState aS.dat ≤ 1048576 := by split at qh6 <;> omega
 have hsm_aS : smState 1048576 aS.dat := totState_sm hb_aS
 have hsB_aS : smState 549755813888 aS.dat := totState_sm (by omega)
 have f_aS := f_aS.to hsB_aS
 have hT := lostD_tot aS.dat
 have hTL : totState (lostD aS.dat) ≤ 1048576 := Nat.le_trans hT hb_aS
 have hTB : smState 549755813888 (lostD aS.dat) := totState_sm (by omega)
 refine WC.skip (hK5 _ _ (WC.sr (WL.r 1 hs4 [0] rfl (WL.cl Tryz.call13 rfl (k167_ aS _ (okStateR.st0 f_aS hs4)) ?_))))
 rintro _ whs7 ⟨r8, L1_9, rfl, hs7, ho10, hd11⟩
 replace hs7 := hs4.callF hs7
 refine ⟨_, rfl, ?_⟩
 replace hs7 := St.back [_] hs7
 refine WL.cl Tryz.call31 rfl (k165_ r8 _ (ownStateR.ok (B := 549755813888) ho10 (hs7.ow L1_9) (by rw [hd11]; assumption)) ?_) ?_
 · first | assumption | rfl | omega | (simp only [hd11, endState]; first | done | assumption | omega)
 rintro _ whs12 ⟨r13, L1_14, rfl, hs12, ho15, hd16⟩
 try simp only [hd11] at hd16
 replace hs12 := hs7.callF hs12
 refine ⟨_, rfl, ?_⟩
 replace hs12 := St.back [_] hs12
 refine WL.al hs12 Tryz.zeroValue33 rfl rfl (fun b17 _ hs18 => WL.st tbk hs18 0 rfl rfl (fun _ hs19 => WL.nil (WC.sr (WL.r 1 hs19 [1] rfl (WL.cl Tryz.call13 rfl (k167_ aS _ (okStateR.st0 f_aS hs19)) ?_)))))
 rintro _ whs20 ⟨r21, L1_22, rfl, hs20, ho23, hd24⟩
 try simp only [hd11, hd16] at hd24
 replace hs20 := hs19.callF hs20
 refine ⟨_, rfl, ?_⟩
 replace hs20 := St.back [_, _] hs20
 have el0 := endState_le 1 r21
 rw [hd24] at el0
 have eg0 := endState_ge 1 r21
 have eb0 : endState 1 r21 ≤ 549755813888 := by omega
 have en0_Panes : r21.Panes.xs.length ≤ 549755813888 := by have h1 := tots_len totPane (r21.Panes.xs.map PaneR.dat); rw [List.length_map] at h1; have h2 : totState r21.dat ≤ 1048576 := (by rw [hd24]; exact hb_aS); simp only [StateR.dat, totState] at h2; omega
 have en0_Wins : r21.Wins.xs.length ≤ 549755813888 := by have h1 := tots_len totWin (r21.Wins.xs.map WinR.dat); rw [List.length_map] at h1; have h2 : totState r21.dat ≤ 1048576 := (by rw [hd24]; exact hb_aS); simp only [StateR.dat, totState] at h2; omega
 have en0_Sess : r21.Sess.xs.length ≤ 549755813888 := by have h1 := tots_len totSess (r21.Sess.xs.map SessR.dat); rw [List.length_map] at h1; have h2 : totState r21.dat ≤ 1048576 := (by rw [hd24]; exact hb_aS); simp only [StateR.dat, totState] at h2; omega
 have ee0_Panes_Term_S_Back : ∀ x, x ∈ r21.Panes.xs → x.Term.S.Back.xs.length ≤ 549755813888 := by
   intro x hx
   have h1 := tots_mem (f := totPane) (List.mem_map_of_mem (f := PaneR.dat) hx)
   have h2 : totState r21.dat ≤ 1048576 := (by rw [hd24]; exact hb_aS)
   simp only [StateR.dat, totState] at h2
   have h3 := tots_len totRow (x.Term.S.Back.xs.map RowR.dat)
   rw [List.length_map] at h3
   simp only [GridR.dat, PaneR.dat, ScrR.dat, TermR.dat, VpR.dat, totGrid, totPane, totScr, totTerm, totVp] at h1
   omega
 refine WL.al hs20 Tryz.zeroValue33 rfl rfl (fun b25 _ hs26 => WL.st tbk hs26 0 rfl rfl (fun _ hs27 => WL.nil (WC.sr (WL.r 1 hs27 [0] rfl ?_))))
 refine WL.cl Tryz.call32 rfl (k164_ r21 _ (ownStateR.ok (B := 549755813888) ho23 (hs27.ow L1_22) (by rw [hd24]; assumption)) ?_) ?_
 · first | assumption | rfl | omega | (simp only [hd11, hd16, hd24, endState]; first | done | assumption | omega)
 rintro _ whs28 ⟨r29, L1_30, rfl, hs28, ho31, hd32⟩
 try simp only [hd11, hd16, hd24] at hd32
 replace hs28 := hs27.callF hs28
 refine ⟨_, rfl, ?_⟩
 replace hs28 := St.back [_, _, _] hs28
 have el1 := endState_le 1 r29
 rw [hd32] at el1
 have eg1 := endState_ge 1 r29
 have eb1 : endState 1 r29 ≤ 549755813888 := by omega
 have en1_Panes : r29.Panes.xs.length ≤ 549755813888 := by have h1 := tots_len totPane (r29.Panes.xs.map PaneR.dat); rw [List.length_map] at h1; have h2 : totState r29.dat ≤ 1048576 := (by rw [hd32]; exact hTL); simp only [StateR.dat, totState] at h2; omega
 have en1_Wins : r29.Wins.xs.length ≤ 549755813888 := by have h1 := tots_len totWin (r29.Wins.xs.map WinR.dat); rw [List.length_map] at h1; have h2 : totState r29.dat ≤ 1048576 := (by rw [hd32]; exact hTL); simp only [StateR.dat, totState] at h2; omega
 have en1_Sess : r29.Sess.xs.length ≤ 549755813888 := by have h1 := tots_len totSess (r29.Sess.xs.map SessR.dat); rw [List.length_map] at h1; have h2 : totState r29.dat ≤ 1048576 := (by rw [hd32]; exact hTL); simp only [StateR.dat, totState] at h2; omega
 have ee1_Panes_Term_S_Back : ∀ x, x ∈ r29.Panes.xs → x.Term.S.Back.xs.length ≤ 549755813888 := by
   intro x hx
   have h1 := tots_mem (f := totPane) (List.mem_map_of_mem (f := PaneR.dat) hx)
   have h2 : totState r29.dat ≤ 1048576 := (by rw [hd32]; exact hTL)
   simp only [StateR.dat, totState] at h2
   have h3 := tots_len totRow (x.Term.S.Back.xs.map RowR.dat)
   rw [List.length_map] at h3
   simp only [GridR.dat, PaneR.dat, ScrR.dat, TermR.dat, VpR.dat, totGrid, totPane, totScr, totTerm, totVp] at h1
   omega
 refine WL.al hs28 Tryz.zeroValue33 rfl rfl (fun b33 _ hs34 => WL.st tbk hs34 0 rfl rfl (fun _ hs35 => WL.nil (WC.seq (fun K36 hK36 => WC.sr (WL.r 2 hs35 [0, 2] rfl ?_)))))
 refine WL.cl Tryz.call15 rfl (k180_ r29 r13 _ (ownStateR.ok (B := 549755813888) ho31 (hs35.ow L1_30) (by rw [hd32]; assumption)) (ownStateR.ok (B := 549755813888) ho15 (hs35.ow L1_14) (by rw [hd16]; assumption)) ?_) ?_
 · first | assumption | rfl | omega | (simp only [hd11, hd16, hd24, hd32, endState]; first | done | assumption | omega)
 rintro _ whs37 ⟨rfl, hs37⟩
 replace hs37 := hs35.call0 hs37
 refine ⟨_, rfl, WL.r 1 hs37 [] rfl (WL.nil ?_)⟩
 refine WC.condF rfl (by first | (simp; done) | (simp; omega) | (simp [hd11, hd16, hd24, hd32]; done) | (simp [hd11, hd16, hd24, hd32]; omega) | (simp only [endState]; simp; omega)) (WC.skip (hK36 _ _ (WC.seq (fun K39 hK39 => WC.seq (fun K40 hK40 => WC.rH hs37 hs37 (fun _ hs41 => ?_))))))
 refine WH.rn [0, 1] hs41 [1, 3] rfl rfl (WH.o1 2 rfl (WL.cl Tryz.call13 rfl (k167_ aS _ (okStateR.st0 f_aS hs41)) ?_))
 rintro _ whs42 ⟨r43, L1_44, rfl, hs42, ho45, hd46⟩
 try simp only [hd11, hd16, hd24, hd32] at hd46
 replace hs42 := hs41.callF hs42
 refine ⟨_, rfl, ?_⟩
 replace hs42 := St.back [_, _, _, _] hs42
 refine WL.nil ⟨(hs42.rm L1_44), WH.o1 3 rfl ?_⟩
 refine WL.cl Tryz.call15 rfl (k180_ r21 r43 _ (ownStateR.ok (B := 549755813888) ho23 (hs42.ow L1_22) (by rw [hd24]; assumption)) (ownStateR.ok (B := 549755813888) ho45 (hs42.ow L1_44) (by rw [hd46]; assumption)) ?_) ?_
 · first | assumption | rfl | omega | (simp only [hd11, hd16, hd24, hd32, hd46, endState]; first | done | assumption | omega)
 rintro _ whs47 ⟨rfl, hs47⟩
 replace hs47 := hs42.call0 hs47
 refine ⟨_, rfl, WL.nil ⟨(hs47.rm L1_44), WH.rn [4] (hs47.rm L1_44) [] rfl rfl (WH.dn (hK40 _ _ ?_))⟩⟩
 refine WC.condF rfl (by first | (simp; done) | (simp; omega) | (simp [hd11, hd16, hd24, hd32, hd46]; done) | (simp [hd11, hd16, hd24, hd32, hd46]; omega) | (simp only [endState]; simp; omega)) (WC.skip (hK39 _ _ (WC.r1 hs47 [] rfl (WC.sr (WL.r 2 hs47 [1] rfl ?_)))))
 refine WL.cl Tryz.call22 rfl (k198_ r21 _ _ _ ho23 (hs47.ow L1_22) (St.nodupL (hs47.fr L1_22)) ?_ ?_ ?_ ?_ ?_ ?_) ?_
 · first | assumption | omega | (simp only [hd11, hd16, hd24, hd32, hd46, endState]; first | done | assumption | omega)
 · first | assumption | omega | (simp only [endState]; omega) | (simp only [hd11, hd16, hd24, hd32, hd46, endState]; first | done | assumption | omega)
 iterate 4 focus first | assumption | omega | (simp only [hd11, hd16, hd24, hd32, hd46, endState]; first | done | assumption | omega)
 rintro _ whs49 ⟨L1_50, rfl, hs49, ho51⟩
 replace hs49 := St.lend (hs47.fr L1_22) hs49
 refine ⟨_, rfl, ?_⟩
 replace hs49 := St.back [_, _, _, _] hs49
 refine WL.r 1 hs49 [] rfl (WL.nil (WC.seq (fun K52 hK52 => WC.sr (WL.r 3 hs49 [] rfl ?_))))
 apply WL.gO 4 Acts.nil hs49 rfl
 ·intro g53 J54
  have qg53 := g53
  try simp only [bf, within_iff, within_not] at qg53
  refine WL.runA tbk 2 (Acts.nil.cons (j := 2) rfl g53) hs49 [0, 2] rfl ⟨rfl, rfl, trivial⟩ ?_
  refine WL.call (wantF rfl g53) rfl rfl (Run.call Tryz.call15 rfl rfl rfl) (k180_ r29 r13 _ (ownStateR.ok (B := 549755813888) ho31 (hs49.ow L1_30) (by rw [hd32]; assumption)) (ownStateR.ok (B := 549755813888) ho15 (hs49.ow L1_14) (by rw [hd16]; assumption)) ?_) ?_
  · first | assumption | rfl | omega | (simp only [hd11, hd16, hd24, hd32, hd46, endState]; first | done | assumption | omega)
  rintro _ whs55 ⟨rfl, hs55⟩
  replace hs55 := hs49.call0 hs55
  refine ⟨_, rfl, WL.runA tbk 1 (Acts.nil.cons (j := 2) rfl g53) hs55 [] rfl trivial (WL.eO 4 Acts.nil J54 hs55 g53 rfl rfl)⟩
 intro _ hs56
 refine WL.nil ?_
 refine WC.condF rfl (by first | (simp; done) | (simp; omega) | (simp [hd11, hd16, hd24, hd32, hd46]; done) | (simp [hd11, hd16, hd24, hd32, hd46]; omega) | (simp only [endState]; simp; omega)) (WC.skip (hK52 _ _ (WC.r1 hs56 [] rfl (WC.sr (WL.r 2 hs56 [0] rfl ?_)))))
 refine WL.cl Tryz.call22 rfl (k198_ r29 _ _ _ ho31 (hs56.ow L1_30) (St.nodupL (hs56.fr L1_30)) ?_ ?_ ?_ ?_ ?_ ?_) ?_
 · first | assumption | omega | (simp only [hd11, hd16, hd24, hd32, hd46, endState]; first | done | assumption | omega)
 · first | assumption | omega | (simp only [endState]; omega) | (simp only [hd11, hd16, hd24, hd32, hd46, endState]; first | done | assumption | omega)
 iterate 4 focus first | assumption | omega | (simp only [hd11, hd16, hd24, hd32, hd46, endState]; first | done | assumption | omega)
 rintro _ whs58 ⟨L1_59, rfl, hs58, ho60⟩
 replace hs58 := St.lend (hs56.fr L1_30) hs58
 refine ⟨_, rfl, ?_⟩
 replace hs58 := St.back [_, _, _, _] hs58
 refine WL.r 1 hs58 [] rfl (WL.nil (WC.r1 hs58 [] rfl (WC.sr (WL.r 2 hs58 [0] rfl ?_))))
 refine WL.cl Tryz.call23 rfl (k199_ _ _ _ (ownStateR.ok (B := 549755813888) ho60 (hs58.ow L1_59) (markState_sm (by rw [hd32]; assumption))) ?_ ?_) ?_
 · first | assumption | omega | (simp only [hd11, hd16, hd24, hd32, hd46, endState]; first | done | assumption | omega)
 · first | assumption | omega | (simp only [endState]; omega) | (simp only [hd11, hd16, hd24, hd32, hd46, endState]; first | done | assumption | omega)
 rintro _ whs61 ⟨rfl, hs61⟩
 replace hs61 := hs58.call0 hs61
 refine ⟨_, rfl, WL.r 1 hs61 [] rfl (WL.nil (WC.seq (fun K62 hK62 => WC.r1 hs61 [] rfl ?_)))⟩
 refine WC.condF rfl (by first | (simp; done) | (simp; omega) | (simp [hd11, hd16, hd24, hd32, hd46]; done) | (simp [hd11, hd16, hd24, hd32, hd46]; omega) | (simp only [endState]; simp; omega)) (WC.skip (hK62 _ _ (WC.seq (fun K64 hK64 => WC.r1 hs61 [] rfl ?_))))
 refine WC.condF rfl (by first | (simp; done) | (simp; omega) | (simp [hd11, hd16, hd24, hd32, hd46]; done) | (simp [hd11, hd16, hd24, hd32, hd46]; omega) | (simp only [endState]; simp; omega)) (WC.skip (hK64 _ _ (WC.sr (WL.r 1 hs61 [3] rfl (WL.cl Tryz.call13 rfl (k167_ aS _ (okStateR.st0 f_aS hs61)) ?_)))))
 rintro _ whs66 ⟨r67, L1_68, rfl, hs66, ho69, hd70⟩
 try simp only [hd11, hd16, hd24, hd32, hd46] at hd70
 replace hs66 := hs61.callF hs66
 refine ⟨_, rfl, ?_⟩
 replace hs66 := St.back [_, _, _, _] hs66
 refine WL.cl Tryz.call32 rfl (k164_ r67 _ (ownStateR.ok (B := 549755813888) ho69 (hs66.ow L1_68) (by rw [hd70]; assumption)) ?_) ?_
 · first | assumption | rfl | omega | (simp only [hd11, hd16, hd24, hd32, hd46, hd70, endState]; first | done | assumption | omega)
 rintro _ whs71 ⟨r72, L1_73, rfl, hs71, ho74, hd75⟩
 try simp only [hd11, hd16, hd24, hd32, hd46, hd70] at hd75
 replace hs71 := hs66.callF hs71
 refine ⟨_, rfl, ?_⟩
 replace hs71 := St.back [_, _, _, _] hs71
 refine WL.al hs71 Tryz.zeroValue33 rfl rfl (fun b76 _ hs77 => WL.st tbk hs77 0 rfl rfl (fun _ hs78 => WL.nil (WC.seq (fun K79 hK79 => WC.sr (WL.r 2 hs78 [0, 3] rfl ?_)))))
 refine WL.cl Tryz.call15 rfl (k180_ r72 r13 _ (ownStateR.ok (B := 549755813888) ho74 (hs78.ow L1_73) (by rw [hd75]; assumption)) (ownStateR.ok (B := 549755813888) ho15 (hs78.ow L1_14) (by rw [hd16]; assumption)) ?_) ?_
 · first | assumption | rfl | omega | (simp only [hd11, hd16, hd24, hd32, hd46, hd70, hd75, endState]; first | done | assumption | omega)
 rintro _ whs80 ⟨rfl, hs80⟩
 replace hs80 := hs78.call0 hs80
 refine ⟨_, rfl, WL.r 1 hs80 [] rfl (WL.nil ?_)⟩
 refine WC.condF rfl (by first | (simp; done) | (simp; omega) | (simp [hd11, hd16, hd24, hd32, hd46, hd70, hd75]; done) | (simp [hd11, hd16, hd24, hd32, hd46, hd70, hd75]; omega) | (simp only [endState]; simp; omega)) (WC.skip (hK79 _ _ (WC.r1 hs80 [] rfl (WC.sr (WL.r 2 hs80 [1] rfl ?_)))))
 refine WL.cl Tryz.call23 rfl (k199_ _ _ _ (ownStateR.ok (B := 549755813888) ho60 (hs80.ow L1_59) (markState_sm (by rw [hd32]; assumption))) ?_ ?_) ?_
 · first | assumption | omega | (simp only [hd11, hd16, hd24, hd32, hd46, hd70, hd75, endState]; first | done | assumption | omega)
 · first | assumption | omega | (simp only [endState]; omega) | (simp only [hd11, hd16, hd24, hd32, hd46, hd70, hd75, endState]; first | done | assumption | omega)
 rintro _ whs82 ⟨rfl, hs82⟩
 replace hs82 := hs80.call0 hs82
 refine ⟨_, rfl, WL.r 1 hs82 [] rfl (WL.nil (WC.seq (fun K83 hK83 => WC.r1 hs82 [] rfl ?_)))⟩
 refine WC.condF rfl (by first | (simp; done) | (simp; omega) | (simp [hd11, hd16, hd24, hd32, hd46, hd70, hd75]; done) | (simp [hd11, hd16, hd24, hd32, hd46, hd70, hd75]; omega) | (simp only [endState]; simp; omega)) (WC.skip (hK83 _ _ (WC.seq (fun K85 hK85 => WC.r1 hs82 [] rfl ?_))))
 refine WC.condF rfl (by first | (simp; done) | (simp; omega) | (simp [hd11, hd16, hd24, hd32, hd46, hd70, hd75]; done) | (simp [hd11, hd16, hd24, hd32, hd46, hd70, hd75]; omega) | (simp only [endState]; simp; omega)) (WC.skip (hK85 _ _ (WC.r1 hs82 [] rfl (WC.ret (rtv rfl rfl hs82 ?_)))))
 rfl
open Go Go.RowKit Go.ChangeShapes Go.WideShapes Go.ChangeAt Go.Deep
theorem list_succ {n : Nat} {l : List Value} (h : l.length = n + 1) : ∃ c r, l = c :: r ∧ r.length = n := by
 cases l with
 | nil => simp at h
 | cons c r => exact ⟨c, r, rfl, by simpa using h⟩
theorem list_zero {l : List Value} (h : l.length = 0) : l = [] := List.eq_nil_of_length_eq_zero h
section
variable {H : Type} {enc : TypeId × Value → H} {P : Program} {w : World} {base : Nat} {spare : Nat → Bool} {held : Bool} {fuel : Nat} {t e : TypeId} {cs : List Value} {x : DataW H × List MemPlace}
theorem trod_flds {fs : Array Field} (ht : P.underlying t = some (.struct fs)) (h : DataW.trod enc P w base spare held fuel t cs = some x) :
  cs.length = P.cellsOf t ∧ ∃ n, ∀ (i : Nat) (f : Field), fs.toList[i]? = some f → ∃ y, DataW.trod enc P w base spare held n f.type ((cs.drop f.offset).take (P.cellsOf f.type)) = some y := by
 obtain ⟨xs, n, _, _, hl, hlen, hg⟩ := DataW.trod_struct ht h
 refine ⟨hl, n, fun i f hf => ?_⟩
 have hf' : fs[i]? = some f := by simpa using hf
 have hi : i < xs.length := by rw [hlen]; exact (Array.getElem?_eq_some_iff.1 hf').1
 exact ⟨xs[i], (hg i f hf').trans (List.getElem?_eq_getElem hi)⟩
theorem open_i64 (ht : P.underlying t = some (.int .i64)) (h : DataW.trod enc P w base spare held fuel t cs = some x) : ∃ n, cs = [i64 n] ∧ In64 n := by
 obtain ⟨n, rfl, _, hw⟩ := DataW.trod_int ht h
 refine ⟨n, rfl, ?_⟩
 simp [Lit.wf, IntKind.min, IntKind.max, IntKind.signed, IntKind.bits] at hw
 exact hw
theorem open_str (ht : P.underlying t = some .string) (h : DataW.trod enc P w base spare held fuel t cs = some x) : ∃ s, cs = [.string s] ∧ s.size ≤ 9223372036854775807 := by
 obtain ⟨s, rfl, _, hw⟩ := DataW.trod_string ht h
 exact ⟨s, rfl, by simpa [maxLen] using hw⟩
theorem open_bool' (ht : P.underlying t = some .bool) (h : DataW.trod enc P w base spare held fuel t cs = some x) : ∃ b, cs = [.bool b] := by
 obtain ⟨b, rfl, _⟩ := DataW.trod_bool ht h
 exact ⟨b, rfl⟩
theorem open_SlF {α : Type} {F : Enc α} {good : α → Prop} (ht : P.underlying t = some (.slice e)) (hc : P.cellsOf e = F.sz)
  (hE : ∀ n cs' y, DataW.trod enc P w base spare held n e cs' = some y → ∃ d, cs' = F.enc d ∧ good d) (h : DataW.trod enc P w base spare held fuel t cs = some x) :
  ∃ A n c xs, cs = [.slice A n c] ∧ SlF F w A n xs ∧ n ≤ 9223372036854775807 ∧ ∀ d, d ∈ xs → good d := by
 rcases open_slice ht h with ⟨rfl, _⟩ | ⟨a, l, c, m, n, D, Pl, rfl, _, hl, hm, hmm, _, hx⟩
 ·exact ⟨none, 0, 0, [], rfl, ⟨rfl, SlR.nil _ _ _⟩, by omega, fun z h => by cases h⟩
 ·have hlm : l ≤ m := by rw [hmm]; split <;> omega
  have : Inhabited α := ⟨F.dflt⟩
  have each : ∀ i, i < l → ∃ d : α, good d ∧ ∀ r, r < F.sz → w.cell? (a.add (i * F.sz + r)) = (F.enc d)[r]? := by
   intro i hi
   obtain ⟨cs', h1, h2⟩ := hx i (by omega)
   obtain ⟨d, rfl, hg⟩ := hE _ _ _ h2
   obtain ⟨_, _, h3⟩ := World.cells?_some h1
   refine ⟨d, hg, fun r hr => ?_⟩
   have := h3 r (by rw [hc]; exact hr)
   rw [← this, hc]
   congr 1
   rw [Addr.add_add']
  obtain ⟨d, hd⟩ := choose_lt each
  have hlen : ((List.range l).map d).length = l := by simp
  refine ⟨some a, l, c, (List.range l).map d, rfl, ⟨hlen, ⟨by rw [rows_len, hlen], fun _ => rfl, fun j v hv => ?_⟩⟩, by simp only [maxLen] at hm; omega, fun z hz => ?_⟩
  ·have hj := (List.getElem?_eq_some_iff.1 hv).1
   rw [rows_len, hlen] at hj
   have hp := F.pos
   have hi : j / F.sz < l := Nat.div_lt_of_lt_mul (by rw [Nat.mul_comm]; exact hj)
   have hr : j % F.sz < F.sz := Nat.mod_lt _ hp
   have ej : j / F.sz * F.sz + j % F.sz = j := by rw [Nat.mul_comm]; exact Nat.div_add_mod _ _
   have e1 := (hd (j / F.sz) hi).2 (j % F.sz) hr
   rw [ej] at e1
   show w.cell? (a.add j) = some v
   rw [e1, ← hv]
   have e2 := rows_get (F := F) (xs := (List.range l).map d) (k := j / F.sz) (by rw [hlen]; exact hi) hr
   rw [ej] at e2
   rw [e2]
   have e3 : gat F ((List.range l).map d) (j / F.sz) = d (j / F.sz) := by
    have := gat_get (F := F) (xs := (List.range l).map d) (k := j / F.sz) (by rw [hlen]; exact hi)
    rw [List.getElem?_map, List.getElem?_range hi] at this
    exact (Option.some.inj this).symm
   rw [e3]
  ·obtain ⟨i, hi, rfl⟩ := List.mem_map.1 hz
   exact (hd i (by simpa using hi)).1
theorem open_u8 (ht : P.underlying t = some (.int .u8)) (h : DataW.trod enc P w base spare held fuel t cs = some x) : ∃ b : UInt8, cs = encB.enc b ∧ True := by
 obtain ⟨n, rfl, _, hw⟩ := DataW.trod_int ht h
 simp [Lit.wf, IntKind.min, IntKind.max, IntKind.signed, IntKind.bits] at hw
 refine ⟨UInt8.ofNat n.toNat, ?_, trivial⟩
 show [Value.int .u8 n] = [Value.int .u8 (UInt8.ofNat n.toNat).toNat]
 congr 2
 rw [UInt8.toNat_ofNat']
 omega
theorem open_e64 (ht : P.underlying t = some (.int .i64)) (h : DataW.trod enc P w base spare held fuel t cs = some x) : ∃ n : Int, cs = encI.enc n ∧ In64 n := open_i64 ht h
theorem open_SlE {α : Type} {F : Enc α} {good : α → Prop} (ht : P.underlying t = some (.slice e)) (hc : P.cellsOf e = F.sz)
  (hE : ∀ n cs' y, DataW.trod enc P w base spare held n e cs' = some y → ∃ d, cs' = F.enc d ∧ good d) (h : DataW.trod enc P w base spare held fuel t cs = some x) :
  ∃ A n c xs, cs = [.slice A n c] ∧ SlF F w A n xs ∧ n ≤ c ∧ n ≤ 9223372036854775807 ∧ ∀ d, d ∈ xs → good d := by
 obtain ⟨A, n, c, xs, e1, f, hn, hg⟩ := open_SlF ht hc hE h
 refine ⟨A, n, c, xs, e1, f, ?_, hn, hg⟩
 rcases open_slice ht h with ⟨e2, _⟩ | ⟨a, l, c', m, n', D, Pl, e2, _, hl, _⟩
 ·rw [e1] at e2
  cases e2
  exact Nat.le_refl _
 ·rw [e1] at e2
  cases e2
  exact hl
end
theorem cells_3 : Tryz.prog.cellsOf 3 = 1 := by kernel_rfl
theorem cells_4 : Tryz.prog.cellsOf 4 = 1 := by kernel_rfl
theorem cells_5 : Tryz.prog.cellsOf 5 = 1 := by kernel_rfl
theorem cells_44 : Tryz.prog.cellsOf 44 = 1 := by kernel_rfl
theorem cells_60 : Tryz.prog.cellsOf 60 = 1 := by kernel_rfl
theorem cells_132 : Tryz.prog.cellsOf 132 = 4 := by kernel_rfl
theorem open_VpR {H : Type} {enc : TypeId × Value → H} {w : World} {base : Nat} {spare : Nat → Bool} {held : Bool} {fuel : Nat} {cs : List Value} {x : DataW H × List MemPlace} (h : DataW.trod enc Tryz.prog w base spare held fuel 132 cs = some x) : ∃ d, cs = encVpR.enc d ∧ okVpR 9223372036854775807 w d := by
  obtain ⟨hl, n, hg⟩ := trod_flds Tryz.underlying132 h
  rw [cells_132] at hl
  obtain ⟨c0, l0, rfl, z0⟩ := list_succ hl
  obtain ⟨c1, l1, rfl, z1⟩ := list_succ z0
  obtain ⟨c2, l2, rfl, z2⟩ := list_succ z1
  obtain ⟨c3, l3, rfl, z3⟩ := list_succ z2
  obtain rfl := list_zero z3
  obtain ⟨y0, g0⟩ := hg 0 _ rfl
  rw [show Tryz.prog.cellsOf _ = 1 from cells_3] at g0
  replace g0 : DataW.trod _ _ _ _ _ _ _ 3 [c0] = _ := g0
  obtain ⟨x0, e0, w0⟩ := open_i64 Tryz.underlying3 g0
  obtain ⟨y1, g1⟩ := hg 1 _ rfl
  rw [show Tryz.prog.cellsOf _ = 1 from cells_4] at g1
  replace g1 : DataW.trod _ _ _ _ _ _ _ 4 [c1] = _ := g1
  obtain ⟨x1, e1⟩ := open_bool' Tryz.underlying4 g1
  obtain ⟨y2, g2⟩ := hg 2 _ rfl
  rw [show Tryz.prog.cellsOf _ = 1 from cells_60] at g2
  replace g2 : DataW.trod _ _ _ _ _ _ _ 60 [c2] = _ := g2
  obtain ⟨A2, n2, k2, x2, e2, f2, hc2, hn2, hg2⟩ := open_SlE (F := encI) (good := fun n => In64 n) Tryz.underlying60 cells_3 (fun _ _ _ h_ => open_e64 Tryz.underlying3 h_) g2
  obtain ⟨y3, g3⟩ := hg 3 _ rfl
  rw [show Tryz.prog.cellsOf _ = 1 from cells_44] at g3
  replace g3 : DataW.trod _ _ _ _ _ _ _ 44 [c3] = _ := g3
  obtain ⟨A3, n3, k3, x3, e3, f3, hc3, hn3, hg3⟩ := open_SlE (F := encB) (good := fun _ => True) Tryz.underlying44 cells_5 (fun _ _ _ h_ => open_u8 Tryz.underlying5 h_) g3
  cases e0
  cases e1
  cases e2
  cases e3
  exact ⟨⟨x0, x1, ⟨A2, n2, k2, x2⟩, ⟨A3, n3, k3, x3⟩⟩, rfl, ⟨f2, hc2, hn2, f3, hc3, hn3⟩⟩
theorem cells_136 : Tryz.prog.cellsOf 136 = 5 := by kernel_rfl
def goodAttr (d : AttrD) : Prop := In64 d.Fg ∧ In64 d.Bg
theorem open_Attr {H : Type} {enc : TypeId × Value → H} {w : World} {base : Nat} {spare : Nat → Bool} {held : Bool} {fuel : Nat} {cs : List Value} {x : DataW H × List MemPlace} (h : DataW.trod enc Tryz.prog w base spare held fuel 136 cs = some x) : ∃ d, cs = encAttr.enc d ∧ goodAttr d := by
  obtain ⟨hl, n, hg⟩ := trod_flds Tryz.underlying136 h
  rw [cells_136] at hl
  obtain ⟨c0, l0, rfl, z0⟩ := list_succ hl
  obtain ⟨c1, l1, rfl, z1⟩ := list_succ z0
  obtain ⟨c2, l2, rfl, z2⟩ := list_succ z1
  obtain ⟨c3, l3, rfl, z3⟩ := list_succ z2
  obtain ⟨c4, l4, rfl, z4⟩ := list_succ z3
  obtain rfl := list_zero z4
  obtain ⟨y0, g0⟩ := hg 0 _ rfl
  rw [show Tryz.prog.cellsOf _ = 1 from cells_3] at g0
  replace g0 : DataW.trod _ _ _ _ _ _ _ 3 [c0] = _ := g0
  obtain ⟨x0, e0, w0⟩ := open_i64 Tryz.underlying3 g0
  obtain ⟨y1, g1⟩ := hg 1 _ rfl
  rw [show Tryz.prog.cellsOf _ = 1 from cells_3] at g1
  replace g1 : DataW.trod _ _ _ _ _ _ _ 3 [c1] = _ := g1
  obtain ⟨x1, e1, w1⟩ := open_i64 Tryz.underlying3 g1
  obtain ⟨y2, g2⟩ := hg 2 _ rfl
  rw [show Tryz.prog.cellsOf _ = 1 from cells_4] at g2
  replace g2 : DataW.trod _ _ _ _ _ _ _ 4 [c2] = _ := g2
  obtain ⟨x2, e2⟩ := open_bool' Tryz.underlying4 g2
  obtain ⟨y3, g3⟩ := hg 3 _ rfl
  rw [show Tryz.prog.cellsOf _ = 1 from cells_4] at g3
  replace g3 : DataW.trod _ _ _ _ _ _ _ 4 [c3] = _ := g3
  obtain ⟨x3, e3⟩ := open_bool' Tryz.underlying4 g3
  obtain ⟨y4, g4⟩ := hg 4 _ rfl
  rw [show Tryz.prog.cellsOf _ = 1 from cells_4] at g4
  replace g4 : DataW.trod _ _ _ _ _ _ _ 4 [c4] = _ := g4
  obtain ⟨x4, e4⟩ := open_bool' Tryz.underlying4 g4
  cases e0
  cases e1
  cases e2
  cases e3
  cases e4
  exact ⟨⟨x0, x1, x2, x3, x4⟩, rfl, ⟨w0, w1⟩⟩
theorem cells_308 : Tryz.prog.cellsOf 308 = 6 := by kernel_rfl
def goodCell (d : CellD) : Prop := In64 d.R ∧ goodAttr d.A
theorem open_Cell {H : Type} {enc : TypeId × Value → H} {w : World} {base : Nat} {spare : Nat → Bool} {held : Bool} {fuel : Nat} {cs : List Value} {x : DataW H × List MemPlace} (h : DataW.trod enc Tryz.prog w base spare held fuel 308 cs = some x) : ∃ d, cs = encCell.enc d ∧ goodCell d := by
  obtain ⟨hl, n, hg⟩ := trod_flds Tryz.underlying308 h
  rw [cells_308] at hl
  obtain ⟨c0, l0, rfl, z0⟩ := list_succ hl
  obtain ⟨c1, l1, rfl, z1⟩ := list_succ z0
  obtain ⟨c2, l2, rfl, z2⟩ := list_succ z1
  obtain ⟨c3, l3, rfl, z3⟩ := list_succ z2
  obtain ⟨c4, l4, rfl, z4⟩ := list_succ z3
  obtain ⟨c5, l5, rfl, z5⟩ := list_succ z4
  obtain rfl := list_zero z5
  obtain ⟨y0, g0⟩ := hg 0 _ rfl
  rw [show Tryz.prog.cellsOf _ = 1 from cells_3] at g0
  replace g0 : DataW.trod _ _ _ _ _ _ _ 3 [c0] = _ := g0
  obtain ⟨x0, e0, w0⟩ := open_i64 Tryz.underlying3 g0
  obtain ⟨y1, g1⟩ := hg 1 _ rfl
  rw [show Tryz.prog.cellsOf _ = 5 from cells_136] at g1
  replace g1 : DataW.trod _ _ _ _ _ _ _ 136 [c1, c2, c3, c4, c5] = _ := g1
  obtain ⟨x1, e1, w1⟩ := open_Attr g1
  replace e1 : [c1, c2, c3, c4, c5] = [i64 x1.Fg, i64 x1.Bg, .bool x1.Bold, .bool x1.Under, .bool x1.Turn] := e1
  cases e0
  cases e1
  exact ⟨⟨x0, x1⟩, rfl, ⟨w0, w1⟩⟩
theorem cells_133 : Tryz.prog.cellsOf 133 = 1 := by kernel_rfl
theorem cells_135 : Tryz.prog.cellsOf 135 = 3 := by kernel_rfl
theorem open_GridR {H : Type} {enc : TypeId × Value → H} {w : World} {base : Nat} {spare : Nat → Bool} {held : Bool} {fuel : Nat} {cs : List Value} {x : DataW H × List MemPlace} (h : DataW.trod enc Tryz.prog w base spare held fuel 135 cs = some x) : ∃ d, cs = encGridR.enc d ∧ okGridR 9223372036854775807 w d := by
  obtain ⟨hl, n, hg⟩ := trod_flds Tryz.underlying135 h
  rw [cells_135] at hl
  obtain ⟨c0, l0, rfl, z0⟩ := list_succ hl
  obtain ⟨c1, l1, rfl, z1⟩ := list_succ z0
  obtain ⟨c2, l2, rfl, z2⟩ := list_succ z1
  obtain rfl := list_zero z2
  obtain ⟨y0, g0⟩ := hg 0 _ rfl
  rw [show Tryz.prog.cellsOf _ = 1 from cells_3] at g0
  replace g0 : DataW.trod _ _ _ _ _ _ _ 3 [c0] = _ := g0
  obtain ⟨x0, e0, w0⟩ := open_i64 Tryz.underlying3 g0
  obtain ⟨y1, g1⟩ := hg 1 _ rfl
  rw [show Tryz.prog.cellsOf _ = 1 from cells_3] at g1
  replace g1 : DataW.trod _ _ _ _ _ _ _ 3 [c1] = _ := g1
  obtain ⟨x1, e1, w1⟩ := open_i64 Tryz.underlying3 g1
  obtain ⟨y2, g2⟩ := hg 2 _ rfl
  rw [show Tryz.prog.cellsOf _ = 1 from cells_133] at g2
  replace g2 : DataW.trod _ _ _ _ _ _ _ 133 [c2] = _ := g2
  obtain ⟨A2, n2, k2, x2, e2, f2, hc2, hn2, hg2⟩ := open_SlE (F := encCell) (good := goodCell) Tryz.underlying133 cells_308 (fun _ _ _ h_ => open_Cell h_) g2
  cases e0
  cases e1
  cases e2
  exact ⟨⟨x0, x1, ⟨A2, n2, k2, x2⟩⟩, rfl, ⟨f2, hc2, hn2⟩⟩
theorem cells_285 : Tryz.prog.cellsOf 285 = 1 := by kernel_rfl
theorem open_RowR {H : Type} {enc : TypeId × Value → H} {w : World} {base : Nat} {spare : Nat → Bool} {held : Bool} {fuel : Nat} {cs : List Value} {x : DataW H × List MemPlace} (h : DataW.trod enc Tryz.prog w base spare held fuel 285 cs = some x) : ∃ d, cs = encRowR.enc d ∧ okRowR 9223372036854775807 w d := by
  obtain ⟨hl, n, hg⟩ := trod_flds Tryz.underlying285 h
  rw [cells_285] at hl
  obtain ⟨c0, l0, rfl, z0⟩ := list_succ hl
  obtain rfl := list_zero z0
  obtain ⟨y0, g0⟩ := hg 0 _ rfl
  rw [show Tryz.prog.cellsOf _ = 1 from cells_133] at g0
  replace g0 : DataW.trod _ _ _ _ _ _ _ 133 [c0] = _ := g0
  obtain ⟨A0, n0, k0, x0, e0, f0, hc0, hn0, hg0⟩ := open_SlE (F := encCell) (good := goodCell) Tryz.underlying133 cells_308 (fun _ _ _ h_ => open_Cell h_) g0
  cases e0
  exact ⟨⟨⟨A0, n0, k0, x0⟩⟩, rfl, ⟨f0, hc0, hn0⟩⟩
theorem cells_137 : Tryz.prog.cellsOf 137 = 1 := by kernel_rfl
theorem cells_139 : Tryz.prog.cellsOf 139 = 31 := by kernel_rfl
theorem open_ScrR {H : Type} {enc : TypeId × Value → H} {w : World} {base : Nat} {spare : Nat → Bool} {held : Bool} {fuel : Nat} {cs : List Value} {x : DataW H × List MemPlace} (h : DataW.trod enc Tryz.prog w base spare held fuel 139 cs = some x) : ∃ d, cs = encScrR.enc d ∧ okScrR 9223372036854775807 w d := by
  obtain ⟨hl, n, hg⟩ := trod_flds Tryz.underlying139 h
  rw [cells_139] at hl
  obtain ⟨c0, l0, rfl, z0⟩ := list_succ hl
  obtain ⟨c1, l1, rfl, z1⟩ := list_succ z0
  obtain ⟨c2, l2, rfl, z2⟩ := list_succ z1
  obtain ⟨c3, l3, rfl, z3⟩ := list_succ z2
  obtain ⟨c4, l4, rfl, z4⟩ := list_succ z3
  obtain ⟨c5, l5, rfl, z5⟩ := list_succ z4
  obtain ⟨c6, l6, rfl, z6⟩ := list_succ z5
  obtain ⟨c7, l7, rfl, z7⟩ := list_succ z6
  obtain ⟨c8, l8, rfl, z8⟩ := list_succ z7
  obtain ⟨c9, l9, rfl, z9⟩ := list_succ z8
  obtain ⟨c10, l10, rfl, z10⟩ := list_succ z9
  obtain ⟨c11, l11, rfl, z11⟩ := list_succ z10
  obtain ⟨c12, l12, rfl, z12⟩ := list_succ z11
  obtain ⟨c13, l13, rfl, z13⟩ := list_succ z12
  obtain ⟨c14, l14, rfl, z14⟩ := list_succ z13
  obtain ⟨c15, l15, rfl, z15⟩ := list_succ z14
  obtain ⟨c16, l16, rfl, z16⟩ := list_succ z15
  obtain ⟨c17, l17, rfl, z17⟩ := list_succ z16
  obtain ⟨c18, l18, rfl, z18⟩ := list_succ z17
  obtain ⟨c19, l19, rfl, z19⟩ := list_succ z18
  obtain ⟨c20, l20, rfl, z20⟩ := list_succ z19
  obtain ⟨c21, l21, rfl, z21⟩ := list_succ z20
  obtain ⟨c22, l22, rfl, z22⟩ := list_succ z21
  obtain ⟨c23, l23, rfl, z23⟩ := list_succ z22
  obtain ⟨c24, l24, rfl, z24⟩ := list_succ z23
  obtain ⟨c25, l25, rfl, z25⟩ := list_succ z24
  obtain ⟨c26, l26, rfl, z26⟩ := list_succ z25
  obtain ⟨c27, l27, rfl, z27⟩ := list_succ z26
  obtain ⟨c28, l28, rfl, z28⟩ := list_succ z27
  obtain ⟨c29, l29, rfl, z29⟩ := list_succ z28
  obtain ⟨c30, l30, rfl, z30⟩ := list_succ z29
  obtain rfl := list_zero z30
  obtain ⟨y0, g0⟩ := hg 0 _ rfl
  rw [show Tryz.prog.cellsOf _ = 1 from cells_3] at g0
  replace g0 : DataW.trod _ _ _ _ _ _ _ 3 [c0] = _ := g0
  obtain ⟨x0, e0, w0⟩ := open_i64 Tryz.underlying3 g0
  obtain ⟨y1, g1⟩ := hg 1 _ rfl
  rw [show Tryz.prog.cellsOf _ = 1 from cells_3] at g1
  replace g1 : DataW.trod _ _ _ _ _ _ _ 3 [c1] = _ := g1
  obtain ⟨x1, e1, w1⟩ := open_i64 Tryz.underlying3 g1
  obtain ⟨y2, g2⟩ := hg 2 _ rfl
  rw [show Tryz.prog.cellsOf _ = 3 from cells_135] at g2
  replace g2 : DataW.trod _ _ _ _ _ _ _ 135 [c2, c3, c4] = _ := g2
  obtain ⟨x2, e2, o2⟩ := open_GridR g2
  replace e2 : [c2, c3, c4] = [i64 x2.W, i64 x2.H, .slice x2.Cells.A x2.Cells.n x2.Cells.c] := e2
  obtain ⟨y3, g3⟩ := hg 3 _ rfl
  rw [show Tryz.prog.cellsOf _ = 3 from cells_135] at g3
  replace g3 : DataW.trod _ _ _ _ _ _ _ 135 [c5, c6, c7] = _ := g3
  obtain ⟨x3, e3, o3⟩ := open_GridR g3
  replace e3 : [c5, c6, c7] = [i64 x3.W, i64 x3.H, .slice x3.Cells.A x3.Cells.n x3.Cells.c] := e3
  obtain ⟨y4, g4⟩ := hg 4 _ rfl
  rw [show Tryz.prog.cellsOf _ = 1 from cells_4] at g4
  replace g4 : DataW.trod _ _ _ _ _ _ _ 4 [c8] = _ := g4
  obtain ⟨x4, e4⟩ := open_bool' Tryz.underlying4 g4
  obtain ⟨y5, g5⟩ := hg 5 _ rfl
  rw [show Tryz.prog.cellsOf _ = 1 from cells_3] at g5
  replace g5 : DataW.trod _ _ _ _ _ _ _ 3 [c9] = _ := g5
  obtain ⟨x5, e5, w5⟩ := open_i64 Tryz.underlying3 g5
  obtain ⟨y6, g6⟩ := hg 6 _ rfl
  rw [show Tryz.prog.cellsOf _ = 1 from cells_3] at g6
  replace g6 : DataW.trod _ _ _ _ _ _ _ 3 [c10] = _ := g6
  obtain ⟨x6, e6, w6⟩ := open_i64 Tryz.underlying3 g6
  obtain ⟨y7, g7⟩ := hg 7 _ rfl
  rw [show Tryz.prog.cellsOf _ = 1 from cells_4] at g7
  replace g7 : DataW.trod _ _ _ _ _ _ _ 4 [c11] = _ := g7
  obtain ⟨x7, e7⟩ := open_bool' Tryz.underlying4 g7
  obtain ⟨y8, g8⟩ := hg 8 _ rfl
  rw [show Tryz.prog.cellsOf _ = 5 from cells_136] at g8
  replace g8 : DataW.trod _ _ _ _ _ _ _ 136 [c12, c13, c14, c15, c16] = _ := g8
  obtain ⟨x8, e8, w8⟩ := open_Attr g8
  replace e8 : [c12, c13, c14, c15, c16] = [i64 x8.Fg, i64 x8.Bg, .bool x8.Bold, .bool x8.Under, .bool x8.Turn] := e8
  obtain ⟨y9, g9⟩ := hg 9 _ rfl
  rw [show Tryz.prog.cellsOf _ = 1 from cells_3] at g9
  replace g9 : DataW.trod _ _ _ _ _ _ _ 3 [c17] = _ := g9
  obtain ⟨x9, e9, w9⟩ := open_i64 Tryz.underlying3 g9
  obtain ⟨y10, g10⟩ := hg 10 _ rfl
  rw [show Tryz.prog.cellsOf _ = 1 from cells_3] at g10
  replace g10 : DataW.trod _ _ _ _ _ _ _ 3 [c18] = _ := g10
  obtain ⟨x10, e10, w10⟩ := open_i64 Tryz.underlying3 g10
  obtain ⟨y11, g11⟩ := hg 11 _ rfl
  rw [show Tryz.prog.cellsOf _ = 1 from cells_4] at g11
  replace g11 : DataW.trod _ _ _ _ _ _ _ 4 [c19] = _ := g11
  obtain ⟨x11, e11⟩ := open_bool' Tryz.underlying4 g11
  obtain ⟨y12, g12⟩ := hg 12 _ rfl
  rw [show Tryz.prog.cellsOf _ = 1 from cells_4] at g12
  replace g12 : DataW.trod _ _ _ _ _ _ _ 4 [c20] = _ := g12
  obtain ⟨x12, e12⟩ := open_bool' Tryz.underlying4 g12
  obtain ⟨y13, g13⟩ := hg 13 _ rfl
  rw [show Tryz.prog.cellsOf _ = 1 from cells_3] at g13
  replace g13 : DataW.trod _ _ _ _ _ _ _ 3 [c21] = _ := g13
  obtain ⟨x13, e13, w13⟩ := open_i64 Tryz.underlying3 g13
  obtain ⟨y14, g14⟩ := hg 14 _ rfl
  rw [show Tryz.prog.cellsOf _ = 1 from cells_3] at g14
  replace g14 : DataW.trod _ _ _ _ _ _ _ 3 [c22] = _ := g14
  obtain ⟨x14, e14, w14⟩ := open_i64 Tryz.underlying3 g14
  obtain ⟨y15, g15⟩ := hg 15 _ rfl
  rw [show Tryz.prog.cellsOf _ = 5 from cells_136] at g15
  replace g15 : DataW.trod _ _ _ _ _ _ _ 136 [c23, c24, c25, c26, c27] = _ := g15
  obtain ⟨x15, e15, w15⟩ := open_Attr g15
  replace e15 : [c23, c24, c25, c26, c27] = [i64 x15.Fg, i64 x15.Bg, .bool x15.Bold, .bool x15.Under, .bool x15.Turn] := e15
  obtain ⟨y16, g16⟩ := hg 16 _ rfl
  rw [show Tryz.prog.cellsOf _ = 1 from cells_60] at g16
  replace g16 : DataW.trod _ _ _ _ _ _ _ 60 [c28] = _ := g16
  obtain ⟨A16, n16, k16, x16, e16, f16, hc16, hn16, hg16⟩ := open_SlE (F := encI) (good := fun n => In64 n) Tryz.underlying60 cells_3 (fun _ _ _ h_ => open_e64 Tryz.underlying3 h_) g16
  obtain ⟨y17, g17⟩ := hg 17 _ rfl
  rw [show Tryz.prog.cellsOf _ = 1 from cells_3] at g17
  replace g17 : DataW.trod _ _ _ _ _ _ _ 3 [c29] = _ := g17
  obtain ⟨x17, e17, w17⟩ := open_i64 Tryz.underlying3 g17
  obtain ⟨y18, g18⟩ := hg 18 _ rfl
  rw [show Tryz.prog.cellsOf _ = 1 from cells_137] at g18
  replace g18 : DataW.trod _ _ _ _ _ _ _ 137 [c30] = _ := g18
  obtain ⟨A18, n18, k18, x18, e18, f18, hc18, hn18, hg18⟩ := open_SlE (F := encRowR) (good := fun d => okRowR 9223372036854775807 w d) Tryz.underlying137 cells_285 (fun _ _ _ h_ => open_RowR h_) g18
  cases e0
  cases e1
  cases e2
  cases e3
  cases e4
  cases e5
  cases e6
  cases e7
  cases e8
  cases e9
  cases e10
  cases e11
  cases e12
  cases e13
  cases e14
  cases e15
  cases e16
  cases e17
  cases e18
  exact ⟨⟨x0, x1, x2, x3, x4, x5, x6, x7, x8, x9, x10, x11, x12, x13, x14, x15, ⟨A16, n16, k16, x16⟩, x17, ⟨A18, n18, k18, x18⟩⟩, rfl, ⟨o2, o3, f16, hc16, hn16, ⟨f18, hg18⟩, hc18, hn18⟩⟩
theorem cells_141 : Tryz.prog.cellsOf 141 = 35 := by kernel_rfl
theorem open_TermR {H : Type} {enc : TypeId × Value → H} {w : World} {base : Nat} {spare : Nat → Bool} {held : Bool} {fuel : Nat} {cs : List Value} {x : DataW H × List MemPlace} (h : DataW.trod enc Tryz.prog w base spare held fuel 141 cs = some x) : ∃ d, cs = encTermR.enc d ∧ okTermR 9223372036854775807 w d := by
  obtain ⟨hl, n, hg⟩ := trod_flds Tryz.underlying141 h
  rw [cells_141] at hl
  obtain ⟨c0, l0, rfl, z0⟩ := list_succ hl
  obtain ⟨c1, l1, rfl, z1⟩ := list_succ z0
  obtain ⟨c2, l2, rfl, z2⟩ := list_succ z1
  obtain ⟨c3, l3, rfl, z3⟩ := list_succ z2
  obtain ⟨c4, l4, rfl, z4⟩ := list_succ z3
  obtain ⟨c5, l5, rfl, z5⟩ := list_succ z4
  obtain ⟨c6, l6, rfl, z6⟩ := list_succ z5
  obtain ⟨c7, l7, rfl, z7⟩ := list_succ z6
  obtain ⟨c8, l8, rfl, z8⟩ := list_succ z7
  obtain ⟨c9, l9, rfl, z9⟩ := list_succ z8
  obtain ⟨c10, l10, rfl, z10⟩ := list_succ z9
  obtain ⟨c11, l11, rfl, z11⟩ := list_succ z10
  obtain ⟨c12, l12, rfl, z12⟩ := list_succ z11
  obtain ⟨c13, l13, rfl, z13⟩ := list_succ z12
  obtain ⟨c14, l14, rfl, z14⟩ := list_succ z13
  obtain ⟨c15, l15, rfl, z15⟩ := list_succ z14
  obtain ⟨c16, l16, rfl, z16⟩ := list_succ z15
  obtain ⟨c17, l17, rfl, z17⟩ := list_succ z16
  obtain ⟨c18, l18, rfl, z18⟩ := list_succ z17
  obtain ⟨c19, l19, rfl, z19⟩ := list_succ z18
  obtain ⟨c20, l20, rfl, z20⟩ := list_succ z19
  obtain ⟨c21, l21, rfl, z21⟩ := list_succ z20
  obtain ⟨c22, l22, rfl, z22⟩ := list_succ z21
  obtain ⟨c23, l23, rfl, z23⟩ := list_succ z22
  obtain ⟨c24, l24, rfl, z24⟩ := list_succ z23
  obtain ⟨c25, l25, rfl, z25⟩ := list_succ z24
  obtain ⟨c26, l26, rfl, z26⟩ := list_succ z25
  obtain ⟨c27, l27, rfl, z27⟩ := list_succ z26
  obtain ⟨c28, l28, rfl, z28⟩ := list_succ z27
  obtain ⟨c29, l29, rfl, z29⟩ := list_succ z28
  obtain ⟨c30, l30, rfl, z30⟩ := list_succ z29
  obtain ⟨c31, l31, rfl, z31⟩ := list_succ z30
  obtain ⟨c32, l32, rfl, z32⟩ := list_succ z31
  obtain ⟨c33, l33, rfl, z33⟩ := list_succ z32
  obtain ⟨c34, l34, rfl, z34⟩ := list_succ z33
  obtain rfl := list_zero z34
  obtain ⟨y0, g0⟩ := hg 0 _ rfl
  rw [show Tryz.prog.cellsOf _ = 4 from cells_132] at g0
  replace g0 : DataW.trod _ _ _ _ _ _ _ 132 [c0, c1, c2, c3] = _ := g0
  obtain ⟨x0, e0, o0⟩ := open_VpR g0
  replace e0 : [c0, c1, c2, c3] = [i64 x0.State, .bool x0.Mark, .slice x0.Args.A x0.Args.n x0.Args.c, .slice x0.Part.A x0.Part.n x0.Part.c] := e0
  obtain ⟨y1, g1⟩ := hg 1 _ rfl
  rw [show Tryz.prog.cellsOf _ = 31 from cells_139] at g1
  replace g1 : DataW.trod _ _ _ _ _ _ _ 139 [c4, c5, c6, c7, c8, c9, c10, c11, c12, c13, c14, c15, c16, c17, c18, c19, c20, c21, c22, c23, c24, c25, c26, c27, c28, c29, c30, c31, c32, c33, c34] = _ := g1
  obtain ⟨x1, e1, o1⟩ := open_ScrR g1
  replace e1 : [c4, c5, c6, c7, c8, c9, c10, c11, c12, c13, c14, c15, c16, c17, c18, c19, c20, c21, c22, c23, c24, c25, c26, c27, c28, c29, c30, c31, c32, c33, c34] = (cScr x1) := e1
  cases e0
  cases e1
  exact ⟨⟨x0, x1⟩, rfl, ⟨o0, o1⟩⟩
theorem cells_9 : Tryz.prog.cellsOf 9 = 1 := by kernel_rfl
theorem cells_143 : Tryz.prog.cellsOf 143 = 41 := by kernel_rfl
theorem open_PaneR {H : Type} {enc : TypeId × Value → H} {w : World} {base : Nat} {spare : Nat → Bool} {held : Bool} {fuel : Nat} {cs : List Value} {x : DataW H × List MemPlace} (h : DataW.trod enc Tryz.prog w base spare held fuel 143 cs = some x) : ∃ d, cs = encPaneR.enc d ∧ okPaneR 9223372036854775807 w d := by
  obtain ⟨hl, n, hg⟩ := trod_flds Tryz.underlying143 h
  rw [cells_143] at hl
  obtain ⟨c0, l0, rfl, z0⟩ := list_succ hl
  obtain ⟨c1, l1, rfl, z1⟩ := list_succ z0
  obtain ⟨c2, l2, rfl, z2⟩ := list_succ z1
  obtain ⟨c3, l3, rfl, z3⟩ := list_succ z2
  obtain ⟨c4, l4, rfl, z4⟩ := list_succ z3
  obtain ⟨c5, l5, rfl, z5⟩ := list_succ z4
  obtain ⟨c6, l6, rfl, z6⟩ := list_succ z5
  obtain ⟨c7, l7, rfl, z7⟩ := list_succ z6
  obtain ⟨c8, l8, rfl, z8⟩ := list_succ z7
  obtain ⟨c9, l9, rfl, z9⟩ := list_succ z8
  obtain ⟨c10, l10, rfl, z10⟩ := list_succ z9
  obtain ⟨c11, l11, rfl, z11⟩ := list_succ z10
  obtain ⟨c12, l12, rfl, z12⟩ := list_succ z11
  obtain ⟨c13, l13, rfl, z13⟩ := list_succ z12
  obtain ⟨c14, l14, rfl, z14⟩ := list_succ z13
  obtain ⟨c15, l15, rfl, z15⟩ := list_succ z14
  obtain ⟨c16, l16, rfl, z16⟩ := list_succ z15
  obtain ⟨c17, l17, rfl, z17⟩ := list_succ z16
  obtain ⟨c18, l18, rfl, z18⟩ := list_succ z17
  obtain ⟨c19, l19, rfl, z19⟩ := list_succ z18
  obtain ⟨c20, l20, rfl, z20⟩ := list_succ z19
  obtain ⟨c21, l21, rfl, z21⟩ := list_succ z20
  obtain ⟨c22, l22, rfl, z22⟩ := list_succ z21
  obtain ⟨c23, l23, rfl, z23⟩ := list_succ z22
  obtain ⟨c24, l24, rfl, z24⟩ := list_succ z23
  obtain ⟨c25, l25, rfl, z25⟩ := list_succ z24
  obtain ⟨c26, l26, rfl, z26⟩ := list_succ z25
  obtain ⟨c27, l27, rfl, z27⟩ := list_succ z26
  obtain ⟨c28, l28, rfl, z28⟩ := list_succ z27
  obtain ⟨c29, l29, rfl, z29⟩ := list_succ z28
  obtain ⟨c30, l30, rfl, z30⟩ := list_succ z29
  obtain ⟨c31, l31, rfl, z31⟩ := list_succ z30
  obtain ⟨c32, l32, rfl, z32⟩ := list_succ z31
  obtain ⟨c33, l33, rfl, z33⟩ := list_succ z32
  obtain ⟨c34, l34, rfl, z34⟩ := list_succ z33
  obtain ⟨c35, l35, rfl, z35⟩ := list_succ z34
  obtain ⟨c36, l36, rfl, z36⟩ := list_succ z35
  obtain ⟨c37, l37, rfl, z37⟩ := list_succ z36
  obtain ⟨c38, l38, rfl, z38⟩ := list_succ z37
  obtain ⟨c39, l39, rfl, z39⟩ := list_succ z38
  obtain ⟨c40, l40, rfl, z40⟩ := list_succ z39
  obtain rfl := list_zero z40
  obtain ⟨y0, g0⟩ := hg 0 _ rfl
  rw [show Tryz.prog.cellsOf _ = 1 from cells_3] at g0
  replace g0 : DataW.trod _ _ _ _ _ _ _ 3 [c0] = _ := g0
  obtain ⟨x0, e0, w0⟩ := open_i64 Tryz.underlying3 g0
  obtain ⟨y1, g1⟩ := hg 1 _ rfl
  rw [show Tryz.prog.cellsOf _ = 1 from cells_9] at g1
  replace g1 : DataW.trod _ _ _ _ _ _ _ 9 [c1] = _ := g1
  obtain ⟨x1, e1, w1⟩ := open_str Tryz.underlying9 g1
  obtain ⟨y2, g2⟩ := hg 2 _ rfl
  rw [show Tryz.prog.cellsOf _ = 1 from cells_9] at g2
  replace g2 : DataW.trod _ _ _ _ _ _ _ 9 [c2] = _ := g2
  obtain ⟨x2, e2, w2⟩ := open_str Tryz.underlying9 g2
  obtain ⟨y3, g3⟩ := hg 3 _ rfl
  rw [show Tryz.prog.cellsOf _ = 1 from cells_3] at g3
  replace g3 : DataW.trod _ _ _ _ _ _ _ 3 [c3] = _ := g3
  obtain ⟨x3, e3, w3⟩ := open_i64 Tryz.underlying3 g3
  obtain ⟨y4, g4⟩ := hg 4 _ rfl
  rw [show Tryz.prog.cellsOf _ = 1 from cells_3] at g4
  replace g4 : DataW.trod _ _ _ _ _ _ _ 3 [c4] = _ := g4
  obtain ⟨x4, e4, w4⟩ := open_i64 Tryz.underlying3 g4
  obtain ⟨y5, g5⟩ := hg 5 _ rfl
  rw [show Tryz.prog.cellsOf _ = 1 from cells_3] at g5
  replace g5 : DataW.trod _ _ _ _ _ _ _ 3 [c5] = _ := g5
  obtain ⟨x5, e5, w5⟩ := open_i64 Tryz.underlying3 g5
  obtain ⟨y6, g6⟩ := hg 6 _ rfl
  rw [show Tryz.prog.cellsOf _ = 35 from cells_141] at g6
  replace g6 : DataW.trod _ _ _ _ _ _ _ 141 [c6, c7, c8, c9, c10, c11, c12, c13, c14, c15, c16, c17, c18, c19, c20, c21, c22, c23, c24, c25, c26, c27, c28, c29, c30, c31, c32, c33, c34, c35, c36, c37, c38, c39, c40] = _ := g6
  obtain ⟨x6, e6, o6⟩ := open_TermR g6
  replace e6 : [c6, c7, c8, c9, c10, c11, c12, c13, c14, c15, c16, c17, c18, c19, c20, c21, c22, c23, c24, c25, c26, c27, c28, c29, c30, c31, c32, c33, c34, c35, c36, c37, c38, c39, c40] = [i64 x6.P.State, .bool x6.P.Mark, .slice x6.P.Args.A x6.P.Args.n x6.P.Args.c, .slice x6.P.Part.A x6.P.Part.n x6.P.Part.c, i64 x6.S.W, i64 x6.S.H, i64 x6.S.Main.W, i64 x6.S.Main.H, .slice x6.S.Main.Cells.A x6.S.Main.Cells.n x6.S.Main.Cells.c, i64 x6.S.Alt.W, i64 x6.S.Alt.H, .slice x6.S.Alt.Cells.A x6.S.Alt.Cells.n x6.S.Alt.Cells.c, .bool x6.S.OnAlt, i64 x6.S.X, i64 x6.S.Y, .bool x6.S.Wrap, i64 x6.S.A.Fg, i64 x6.S.A.Bg, .bool x6.S.A.Bold, .bool x6.S.A.Under, .bool x6.S.A.Turn, i64 x6.S.Top, i64 x6.S.Bot, .bool x6.S.NoWrap, .bool x6.S.Hide, i64 x6.S.SaveX, i64 x6.S.SaveY, i64 x6.S.SaveA.Fg, i64 x6.S.SaveA.Bg, .bool x6.S.SaveA.Bold, .bool x6.S.SaveA.Under, .bool x6.S.SaveA.Turn, .slice x6.S.Tabs.A x6.S.Tabs.n x6.S.Tabs.c, i64 x6.S.Limit, .slice x6.S.Back.A x6.S.Back.n x6.S.Back.c] := e6
  cases e0
  cases e1
  cases e2
  cases e3
  cases e4
  cases e5
  cases e6
  exact ⟨⟨x0, x1, x2, x3, x4, x5, x6⟩, rfl, ⟨w1, w2, o6⟩⟩
theorem cells_230 : Tryz.prog.cellsOf 230 = 3 := by kernel_rfl
def goodNode (d : NodeD) : Prop := In64 d.Pane ∧ In64 d.First
theorem open_Node {H : Type} {enc : TypeId × Value → H} {w : World} {base : Nat} {spare : Nat → Bool} {held : Bool} {fuel : Nat} {cs : List Value} {x : DataW H × List MemPlace} (h : DataW.trod enc Tryz.prog w base spare held fuel 230 cs = some x) : ∃ d, cs = encNode.enc d ∧ goodNode d := by
  obtain ⟨hl, n, hg⟩ := trod_flds Tryz.underlying230 h
  rw [cells_230] at hl
  obtain ⟨c0, l0, rfl, z0⟩ := list_succ hl
  obtain ⟨c1, l1, rfl, z1⟩ := list_succ z0
  obtain ⟨c2, l2, rfl, z2⟩ := list_succ z1
  obtain rfl := list_zero z2
  obtain ⟨y0, g0⟩ := hg 0 _ rfl
  rw [show Tryz.prog.cellsOf _ = 1 from cells_3] at g0
  replace g0 : DataW.trod _ _ _ _ _ _ _ 3 [c0] = _ := g0
  obtain ⟨x0, e0, w0⟩ := open_i64 Tryz.underlying3 g0
  obtain ⟨y1, g1⟩ := hg 1 _ rfl
  rw [show Tryz.prog.cellsOf _ = 1 from cells_4] at g1
  replace g1 : DataW.trod _ _ _ _ _ _ _ 4 [c1] = _ := g1
  obtain ⟨x1, e1⟩ := open_bool' Tryz.underlying4 g1
  obtain ⟨y2, g2⟩ := hg 2 _ rfl
  rw [show Tryz.prog.cellsOf _ = 1 from cells_3] at g2
  replace g2 : DataW.trod _ _ _ _ _ _ _ 3 [c2] = _ := g2
  obtain ⟨x2, e2, w2⟩ := open_i64 Tryz.underlying3 g2
  cases e0
  cases e1
  cases e2
  exact ⟨⟨x0, x1, x2⟩, rfl, ⟨w0, w2⟩⟩
theorem cells_145 : Tryz.prog.cellsOf 145 = 1 := by kernel_rfl
theorem cells_147 : Tryz.prog.cellsOf 147 = 5 := by kernel_rfl
theorem open_WinR {H : Type} {enc : TypeId × Value → H} {w : World} {base : Nat} {spare : Nat → Bool} {held : Bool} {fuel : Nat} {cs : List Value} {x : DataW H × List MemPlace} (h : DataW.trod enc Tryz.prog w base spare held fuel 147 cs = some x) : ∃ d, cs = encWinR.enc d ∧ okWinR 9223372036854775807 w d := by
  obtain ⟨hl, n, hg⟩ := trod_flds Tryz.underlying147 h
  rw [cells_147] at hl
  obtain ⟨c0, l0, rfl, z0⟩ := list_succ hl
  obtain ⟨c1, l1, rfl, z1⟩ := list_succ z0
  obtain ⟨c2, l2, rfl, z2⟩ := list_succ z1
  obtain ⟨c3, l3, rfl, z3⟩ := list_succ z2
  obtain ⟨c4, l4, rfl, z4⟩ := list_succ z3
  obtain rfl := list_zero z4
  obtain ⟨y0, g0⟩ := hg 0 _ rfl
  rw [show Tryz.prog.cellsOf _ = 1 from cells_3] at g0
  replace g0 : DataW.trod _ _ _ _ _ _ _ 3 [c0] = _ := g0
  obtain ⟨x0, e0, w0⟩ := open_i64 Tryz.underlying3 g0
  obtain ⟨y1, g1⟩ := hg 1 _ rfl
  rw [show Tryz.prog.cellsOf _ = 1 from cells_9] at g1
  replace g1 : DataW.trod _ _ _ _ _ _ _ 9 [c1] = _ := g1
  obtain ⟨x1, e1, w1⟩ := open_str Tryz.underlying9 g1
  obtain ⟨y2, g2⟩ := hg 2 _ rfl
  rw [show Tryz.prog.cellsOf _ = 1 from cells_145] at g2
  replace g2 : DataW.trod _ _ _ _ _ _ _ 145 [c2] = _ := g2
  obtain ⟨A2, n2, k2, x2, e2, f2, hc2, hn2, hg2⟩ := open_SlE (F := encNode) (good := goodNode) Tryz.underlying145 cells_230 (fun _ _ _ h_ => open_Node h_) g2
  obtain ⟨y3, g3⟩ := hg 3 _ rfl
  rw [show Tryz.prog.cellsOf _ = 1 from cells_3] at g3
  replace g3 : DataW.trod _ _ _ _ _ _ _ 3 [c3] = _ := g3
  obtain ⟨x3, e3, w3⟩ := open_i64 Tryz.underlying3 g3
  obtain ⟨y4, g4⟩ := hg 4 _ rfl
  rw [show Tryz.prog.cellsOf _ = 1 from cells_4] at g4
  replace g4 : DataW.trod _ _ _ _ _ _ _ 4 [c4] = _ := g4
  obtain ⟨x4, e4⟩ := open_bool' Tryz.underlying4 g4
  cases e0
  cases e1
  cases e2
  cases e3
  cases e4
  exact ⟨⟨x0, x1, ⟨A2, n2, k2, x2⟩, x3, x4⟩, rfl, ⟨w1, f2, hc2, hn2⟩⟩
theorem cells_149 : Tryz.prog.cellsOf 149 = 3 := by kernel_rfl
theorem open_SessR {H : Type} {enc : TypeId × Value → H} {w : World} {base : Nat} {spare : Nat → Bool} {held : Bool} {fuel : Nat} {cs : List Value} {x : DataW H × List MemPlace} (h : DataW.trod enc Tryz.prog w base spare held fuel 149 cs = some x) : ∃ d, cs = encSessR.enc d ∧ okSessR 9223372036854775807 w d := by
  obtain ⟨hl, n, hg⟩ := trod_flds Tryz.underlying149 h
  rw [cells_149] at hl
  obtain ⟨c0, l0, rfl, z0⟩ := list_succ hl
  obtain ⟨c1, l1, rfl, z1⟩ := list_succ z0
  obtain ⟨c2, l2, rfl, z2⟩ := list_succ z1
  obtain rfl := list_zero z2
  obtain ⟨y0, g0⟩ := hg 0 _ rfl
  rw [show Tryz.prog.cellsOf _ = 1 from cells_9] at g0
  replace g0 : DataW.trod _ _ _ _ _ _ _ 9 [c0] = _ := g0
  obtain ⟨x0, e0, w0⟩ := open_str Tryz.underlying9 g0
  obtain ⟨y1, g1⟩ := hg 1 _ rfl
  rw [show Tryz.prog.cellsOf _ = 1 from cells_60] at g1
  replace g1 : DataW.trod _ _ _ _ _ _ _ 60 [c1] = _ := g1
  obtain ⟨A1, n1, k1, x1, e1, f1, hc1, hn1, hg1⟩ := open_SlE (F := encI) (good := fun n => In64 n) Tryz.underlying60 cells_3 (fun _ _ _ h_ => open_e64 Tryz.underlying3 h_) g1
  obtain ⟨y2, g2⟩ := hg 2 _ rfl
  rw [show Tryz.prog.cellsOf _ = 1 from cells_3] at g2
  replace g2 : DataW.trod _ _ _ _ _ _ _ 3 [c2] = _ := g2
  obtain ⟨x2, e2, w2⟩ := open_i64 Tryz.underlying3 g2
  cases e0
  cases e1
  cases e2
  exact ⟨⟨x0, ⟨A1, n1, k1, x1⟩, x2⟩, rfl, ⟨w0, f1, hc1, hn1⟩⟩
theorem cells_22 : Tryz.prog.cellsOf 22 = 1 := by kernel_rfl
theorem cells_23 : Tryz.prog.cellsOf 23 = 1 := by kernel_rfl
theorem cells_24 : Tryz.prog.cellsOf 24 = 1 := by kernel_rfl
theorem cells_26 : Tryz.prog.cellsOf 26 = 7 := by kernel_rfl
theorem open_StateR {H : Type} {enc : TypeId × Value → H} {w : World} {base : Nat} {spare : Nat → Bool} {held : Bool} {fuel : Nat} {cs : List Value} {x : DataW H × List MemPlace} (h : DataW.trod enc Tryz.prog w base spare held fuel 26 cs = some x) : ∃ d, cs = encStateR.enc d ∧ okStateR 9223372036854775807 w d := by
  obtain ⟨hl, n, hg⟩ := trod_flds Tryz.underlying26 h
  rw [cells_26] at hl
  obtain ⟨c0, l0, rfl, z0⟩ := list_succ hl
  obtain ⟨c1, l1, rfl, z1⟩ := list_succ z0
  obtain ⟨c2, l2, rfl, z2⟩ := list_succ z1
  obtain ⟨c3, l3, rfl, z3⟩ := list_succ z2
  obtain ⟨c4, l4, rfl, z4⟩ := list_succ z3
  obtain ⟨c5, l5, rfl, z5⟩ := list_succ z4
  obtain ⟨c6, l6, rfl, z6⟩ := list_succ z5
  obtain rfl := list_zero z6
  obtain ⟨y0, g0⟩ := hg 0 _ rfl
  rw [show Tryz.prog.cellsOf _ = 1 from cells_3] at g0
  replace g0 : DataW.trod _ _ _ _ _ _ _ 3 [c0] = _ := g0
  obtain ⟨x0, e0, w0⟩ := open_i64 Tryz.underlying3 g0
  obtain ⟨y1, g1⟩ := hg 1 _ rfl
  rw [show Tryz.prog.cellsOf _ = 1 from cells_3] at g1
  replace g1 : DataW.trod _ _ _ _ _ _ _ 3 [c1] = _ := g1
  obtain ⟨x1, e1, w1⟩ := open_i64 Tryz.underlying3 g1
  obtain ⟨y2, g2⟩ := hg 2 _ rfl
  rw [show Tryz.prog.cellsOf _ = 1 from cells_3] at g2
  replace g2 : DataW.trod _ _ _ _ _ _ _ 3 [c2] = _ := g2
  obtain ⟨x2, e2, w2⟩ := open_i64 Tryz.underlying3 g2
  obtain ⟨y3, g3⟩ := hg 3 _ rfl
  rw [show Tryz.prog.cellsOf _ = 1 from cells_3] at g3
  replace g3 : DataW.trod _ _ _ _ _ _ _ 3 [c3] = _ := g3
  obtain ⟨x3, e3, w3⟩ := open_i64 Tryz.underlying3 g3
  obtain ⟨y4, g4⟩ := hg 4 _ rfl
  rw [show Tryz.prog.cellsOf _ = 1 from cells_22] at g4
  replace g4 : DataW.trod _ _ _ _ _ _ _ 22 [c4] = _ := g4
  obtain ⟨A4, n4, k4, x4, e4, f4, hc4, hn4, hg4⟩ := open_SlE (F := encPaneR) (good := fun d => okPaneR 9223372036854775807 w d) Tryz.underlying22 cells_143 (fun _ _ _ h_ => open_PaneR h_) g4
  obtain ⟨y5, g5⟩ := hg 5 _ rfl
  rw [show Tryz.prog.cellsOf _ = 1 from cells_23] at g5
  replace g5 : DataW.trod _ _ _ _ _ _ _ 23 [c5] = _ := g5
  obtain ⟨A5, n5, k5, x5, e5, f5, hc5, hn5, hg5⟩ := open_SlE (F := encWinR) (good := fun d => okWinR 9223372036854775807 w d) Tryz.underlying23 cells_147 (fun _ _ _ h_ => open_WinR h_) g5
  obtain ⟨y6, g6⟩ := hg 6 _ rfl
  rw [show Tryz.prog.cellsOf _ = 1 from cells_24] at g6
  replace g6 : DataW.trod _ _ _ _ _ _ _ 24 [c6] = _ := g6
  obtain ⟨A6, n6, k6, x6, e6, f6, hc6, hn6, hg6⟩ := open_SlE (F := encSessR) (good := fun d => okSessR 9223372036854775807 w d) Tryz.underlying24 cells_149 (fun _ _ _ h_ => open_SessR h_) g6
  cases e0
  cases e1
  cases e2
  cases e3
  cases e4
  cases e5
  cases e6
  exact ⟨⟨x0, x1, x2, x3, ⟨A4, n4, k4, x4⟩, ⟨A5, n5, k5, x5⟩, ⟨A6, n6, k6, x6⟩⟩, rfl, ⟨⟨f4, hg4⟩, hc4, hn4, ⟨f5, hg5⟩, hc5, hn5, ⟨f6, hg6⟩, hc6, hn6⟩⟩
namespace fnExactLost
open Go.ChangeShapes Go.WideShapes Go.ChangeAt Go.RowKit
theorem own : ownKnob Tryz.prog.godebug = none := by kernel_rfl
theorem laidOut : laidOutB Tryz.prog = true := by kernel_rfl
set_option maxRecDepth 100000 in
set_option maxHeartbeats 1000000 in
theorem lifted (os : Os) (started : os.Started) (H : Type) (enc : TypeId × Value → H) :
    ReturnsInHanded {} Tryz.checked os 9 .any (Rows.fnExactLostSpec.pre6 enc Tryz.prog Tryz.f9 Rows.fnExactLostRow.domain false) (Rows.fnExactLostSpec.post enc Tryz.prog Tryz.f9 false true false false) := by
  refine returnsInHanded_of_change (C := Tryz.checked) own started (by kernel_rfl) Tryz.func9
    (ChangeSpec.witness6 (enc := enc) (C := Tryz.checked) false ⟨#[], #[(Value.agg #[Value.int IntKind.i64 0, Value.int IntKind.i64 0, Value.int IntKind.i64 0, Value.int IntKind.i64 0, Value.slice none 0 0, Value.slice none 0 0, Value.slice none 0 0])], []⟩ 8 (by kernel_rfl) (by kernel_rfl) (by kernel_rfl) (by kernel_rfl)) ?_
  intro W base args ds gs before hval0 hW hcnd _
  have hval : ∀ (j : Nat) t v, Tryz.f9.params[j]? = some t → args[j]? = some v → Value.okWide Tryz.prog W .any base t v := hval0
  have hW' := hW
  obtain ⟨p, q, hA0, hV, rfl, hfz, hnd⟩ := hW
  have hA : DataW.TrodAll enc Tryz.prog W 0 (fun _ => true) true Tryz.f9.params.toList args.toList ds p := hA0
  rw [Tryz.params9] at hA hval
  obtain ⟨v0, vs0, d0, ds0, p0, q0, hargs, rfl, rfl, h0, r0⟩ := trodAll_cons hA
  obtain ⟨rfl, rfl, rfl⟩ := trodAll_nil r0
  obtain rfl : args = #[v0] := by cases args; simp_all
  obtain ⟨rfl, rfl⟩ := trodVars_none hV
  have k0 := h0
  have lt0 : ∀ x ∈ p0, x.block < W.heap.size := by obtain ⟨m, hm⟩ := k0; exact DataW.trod_lt m _ _ _ hm
  obtain ⟨cs0, rfl, hsz0⟩ := okWide_struct Tryz.underlying26 (hval 0 26 v0 rfl rfl)
  obtain ⟨l0⟩ := cs0
  obtain ⟨fuel0, hf0⟩ := h0
  replace hf0 : DataW.trod _ _ _ _ _ _ _ 26 l0 = _ := hf0
  obtain ⟨aS, rfl, f_aS⟩ := open_StateR hf0
  clear hA0 hval0
  refine (k200_ aS W f_aS).mono fun e W' ⟨he, hst⟩ => ?_
  have bel := hst.toBelow
  subst he
  exact ⟨_, rfl, _, _, _, [], _, [], hW', trodAll_mk1 (shut_bool Tryz.underlying4 _), (trodAll_cons_mk (Below.trod laidOut (by kernel_rfl) (of_decide_eq_true (by kernel_rfl)) k0 bel lt0) trodAll_mk0), rfl, bel.frame _, fun h => by cases h⟩
theorem jq0 : laidOutB Tryz.pinned.checked.prog = true := by kernel_rfl
theorem jq1 : mapsRowed Tryz.pinned.checked.prog = true := by kernel_rfl
theorem jq2 : Tryz.pinned.checked.prog.inPlace 9 = Rows.fnExactLostRow.inPlace := by kernel_rfl
theorem jq3 : Tryz.pinned.checked.prog.unfollowed 9 = Rows.fnExactLostRow.unfollowed := by kernel_rfl
theorem jq4 : Tryz.pinned.checked.prog.recurses 9 = Rows.fnExactLostRow.recurses := by kernel_rfl
theorem jq5 : Tryz.pinned.checked.prog.varsNamed 9 = Rows.fnExactLostRow.named := by kernel_rfl
theorem closed : joinedFacts Tryz.pinned.checked.prog 9 Tryz.f9 Rows.fnExactLostSpec Rows.fnExactLostRow = true := by
  unfold joinedFacts
  rw [jq0, jq1, jq2, jq3, jq4, jq5]
  kernel_rfl
theorem fnIs : Tryz.pinned.checked.prog.funcNamed Rows.fnExactLostRow.func = some 9 := by kernel_rfl
theorem instIs : Tryz.f9.isInstance Tryz.pinned.checked.prog Rows.fnExactLostRow.origin Rows.fnExactLostRow.targs := of_decide_eq_true (by kernel_rfl)
theorem wrapIs : Tryz.f9.isWrapper Tryz.pinned.checked.prog Rows.fnExactLostRow.wrapper Rows.fnExactLostRow.mainSum := by unfold Func.isWrapper; first | (rw [if_pos (by decide +kernel)]; kernel_rfl) | (rw [if_neg (by decide +kernel)]; exact ⟨rfl, rfl⟩)
theorem over : Rows.fnExactLostRow.holds Tryz.pinned (OpenSpec.ofChange Rows.fnExactLostSpec) :=
  OpenClaim.holds_of_wide 9 Tryz.f9 rfl rfl rfl rfl rfl rfl rfl ⟨rfl, rfl, rfl, rfl, rfl⟩ rfl rfl rfl rfl rfl fnIs Tryz.func9 closed instIs wrapIs
    (fun os started H enc _ => lifted os started H enc)
end fnExactLost
theorem fnExactLost_holds : Rows.FnExactLostSaid := fnExactLost.over
end Go.Proofs.YthfhhldbglaieaaGreat
