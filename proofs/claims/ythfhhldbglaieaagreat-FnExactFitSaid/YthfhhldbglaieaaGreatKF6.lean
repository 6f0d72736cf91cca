/-
  What the proof stands on, part 6.
-/
import Derived.Test.YthfhhldbglaieaaGreatKF5
namespace Go.Proofs.YthfhhldbglaieaaGreat
open Go Go.RowKit
set_option linter.unusedVariables false
set_option linter.unusedSimpArgs false
set_option maxHeartbeats 4000000 in
theorem k157_ (a : GridR) (b : GridR) (w : World) (f_a : okGridR 549755813888 w a) (f_b : okGridR 549755813888 w b) (hab : a.dat = b.dat) :
    Calls Tryz.prog 260 #[.agg #[i64 a.W, i64 a.H, .slice a.Cells.A a.Cells.n a.Cells.c], .agg #[i64 b.W, i64 b.H, .slice b.Cells.A b.Cells.n b.Cells.c]] w fun e w' => e = .returned (.bool true) ∧ St w [] [] w' := by
 have nb_a_Cells := f_a.Cells_n
 have nl_a_Cells := f_a.Cells.len
 have nb_b_Cells := f_b.Cells_n
 have nl_b_Cells := f_b.Cells.len
 have e_W : a.W = b.W := congrArg (fun d : GridD => d.W) hab
 have e_H : a.H = b.H := congrArg (fun d : GridD => d.H) hab
 have e_Cells : a.Cells.xs = b.Cells.xs := congrArg (fun d : GridD => d.Cells) hab
 refine enter 21 Tryz.func260 rfl Tryz.ntmps260 rfl rfl ?_
 have hs1 := St.init w
 refine WC.sr (WL.bx hs1 rfl (fun b2 _ hs3 => WL.bx hs3 rfl (fun b4 _ hs5 => WL.r 1 hs5 [] rfl (WL.nil (WC.seq (fun K6 hK6 => WC.r1 hs5 [1, 0] rfl (WC.condF rfl (by simp [e_W, e_H]) ?_)))))))
 refine WC.skip (hK6 _ _ (WC.seq (fun K8 hK8 => WC.r1 hs5 [1, 0] rfl (WC.condF rfl (by simp [e_W, e_H]) (WC.skip (hK8 _ _ (WC.seq (fun K10 hK10 => ?_))))))))
 refine WC.sr (WL.r 4 hs5 [1, 0] rfl (WL.cl Tryz.call287 rfl (k11_ _ _ _ _ _ _ _ _ _ (SlF.st0 f_a.Cells hs5) (SlF.st0 f_b.Cells hs5) ?_ ?_) ?_))
 iterate 2 first | assumption | rfl | omega
 rintro _ whs11 ⟨rfl, hs11⟩
 replace hs11 := hs5.call0 hs11
 refine ⟨_, rfl, WL.r 1 hs11 [] rfl (WL.nil (WC.condF rfl (by simp [e_W, e_H]) (WC.skip (hK10 _ _ (WC.r1 hs11 [] rfl (WC.ret ?_))))))⟩
 refine rtv rfl rfl hs11 ?_
 rfl
set_option maxHeartbeats 4000000 in
theorem k158_ (a : VpR) (b : VpR) (w : World) (f_a : okVpR 549755813888 w a) (f_b : okVpR 549755813888 w b) (hab : a.dat = b.dat) :
    Calls Tryz.prog 211 #[.agg #[i64 a.State, .bool a.Mark, .slice a.Args.A a.Args.n a.Args.c, .slice a.Part.A a.Part.n a.Part.c], .agg #[i64 b.State, .bool b.Mark, .slice b.Args.A b.Args.n b.Args.c, .slice b.Part.A b.Part.n b.Part.c]] w fun e w' => e = .returned (.bool true) ∧ St w [] [] w' := by
 have nb_a_Args := f_a.Args_n
 have nl_a_Args := f_a.Args.len
 have nb_a_Part := f_a.Part_n
 have nl_a_Part := f_a.Part.len
 have nb_b_Args := f_b.Args_n
 have nl_b_Args := f_b.Args.len
 have nb_b_Part := f_b.Part_n
 have nl_b_Part := f_b.Part.len
 have e_State : a.State = b.State := congrArg (fun d : VpD => d.State) hab
 have e_Mark : a.Mark = b.Mark := congrArg (fun d : VpD => d.Mark) hab
 have e_Args : a.Args.xs = b.Args.xs := congrArg (fun d : VpD => d.Args) hab
 have e_Part : a.Part.xs = b.Part.xs := congrArg (fun d : VpD => d.Part) hab
 refine enter 27 Tryz.func211 rfl Tryz.ntmps211 rfl rfl ?_
 have hs1 := St.init w
 refine WC.sr (WL.bx hs1 rfl (fun b2 _ hs3 => WL.bx hs3 rfl (fun b4 _ hs5 => WL.r 1 hs5 [] rfl (WL.nil (WC.seq (fun K6 hK6 => WC.r1 hs5 [1, 0] rfl (WC.condF rfl (by simp [e_State, e_Mark]) ?_)))))))
 refine WC.skip (hK6 _ _ (WC.seq (fun K8 hK8 => WC.r1 hs5 [1, 0] rfl (WC.condF rfl (by simp [e_State, e_Mark]) (WC.skip (hK8 _ _ (WC.seq (fun K10 hK10 => ?_))))))))
 refine WC.sr (WL.r 4 hs5 [1, 0] rfl (WL.cl Tryz.call171 rfl (k13_ _ _ _ _ _ _ _ _ _ (SlF.st0 f_a.Args hs5) (SlF.st0 f_b.Args hs5) ?_ ?_) ?_))
 iterate 2 first | assumption | rfl | omega
 rintro _ whs11 ⟨rfl, hs11⟩
 replace hs11 := hs5.call0 hs11
 refine ⟨_, rfl, WL.r 1 hs11 [] rfl (WL.nil (WC.condF rfl (by simp [e_State, e_Mark]) (WC.skip (hK10 _ _ (WC.seq (fun K13 hK13 => WC.sr ?_))))))⟩
 refine WL.r 4 hs11 [1, 0] rfl (WL.cl Tryz.call26 rfl (k5_ _ _ _ _ _ _ _ _ _ (SlF.st0 f_a.Part hs11) (SlF.st0 f_b.Part hs11) ?_ ?_) ?_)
 iterate 2 first | assumption | rfl | omega
 rintro _ whs14 ⟨rfl, hs14⟩
 replace hs14 := hs11.call0 hs14
 refine ⟨_, rfl, WL.r 1 hs14 [] rfl (WL.nil (WC.condF rfl (by simp [e_State, e_Mark]) (WC.skip (hK13 _ _ (WC.r1 hs14 [] rfl (WC.ret ?_))))))⟩
 refine rtv rfl rfl hs14 ?_
 rfl
set_option maxHeartbeats 4000000 in
theorem k159_ (a : RowR) (b : RowR) (w : World) (f_a : okRowR 549755813888 w a) (f_b : okRowR 549755813888 w b) (hab : a.dat = b.dat) :
    Calls Tryz.prog 288 #[.agg #[.slice a.Cells.A a.Cells.n a.Cells.c], .agg #[.slice b.Cells.A b.Cells.n b.Cells.c]] w fun e w' => e = .returned (.bool true) ∧ St w [] [] w' := by
 have nb_a_Cells := f_a.Cells_n
 have nl_a_Cells := f_a.Cells.len
 have nb_b_Cells := f_b.Cells_n
 have nl_b_Cells := f_b.Cells.len
 have e_Cells : a.Cells.xs = b.Cells.xs := congrArg (fun d : RowD => d.Cells) hab
 refine enter 11 Tryz.func288 rfl Tryz.ntmps288 rfl rfl ?_
 have hs1 := St.init w
 refine WC.sr (WL.bx hs1 rfl (fun b2 _ hs3 => WL.bx hs3 rfl (fun b4 _ hs5 => WL.r 1 hs5 [] rfl (WL.nil (WC.seq (fun K6 hK6 => WC.sr (WL.r 4 hs5 [1, 0] rfl ?_)))))))
 refine WL.cl Tryz.call287 rfl (k11_ _ _ _ _ _ _ _ _ _ (SlF.st0 f_a.Cells hs5) (SlF.st0 f_b.Cells hs5) ?_ ?_) ?_
 iterate 2 first | assumption | rfl | omega
 rintro _ whs7 ⟨rfl, hs7⟩
 replace hs7 := hs5.call0 hs7
 refine ⟨_, rfl, WL.r 1 hs7 [] rfl (WL.nil (WC.condF rfl (by simp) (WC.skip (hK6 _ _ (WC.r1 hs7 [] rfl (WC.ret ?_))))))⟩
 refine rtv rfl rfl hs7 ?_
 rfl
theorem k160_ (A_a : Option Addr) (n_a c_a : Nat) (a : List RowR) (A_b : Option Addr) (n_b c_b : Nat) (b : List RowR) (w : World) (f_a : SlN encRowR (okRowR 549755813888) w A_a n_a a) (f_b : SlN encRowR (okRowR 549755813888) w A_b n_b b) (hn : n_a ≤ 549755813888) (hab : a.map RowR.dat = b.map RowR.dat) :
    Calls Tryz.prog 262 #[.slice A_a n_a c_a, .slice A_b n_b c_b] w fun e w' => e = .returned (.bool true) ∧ St w [] [] w' := by
 have hla := f_a.sl.len
 obtain rfl : n_a = n_b := by have h9 := congrArg List.length hab; simp only [List.length_map] at h9; rw [← hla, h9]; exact f_b.sl.len
 refine enter 27 Tryz.func262 rfl Tryz.ntmps262 rfl rfl ?_
 have hs1 := St.init w
 refine WC.r1 hs1 [] rfl (WC.seq (fun K2 hK2 => WC.r1 hs1 [] rfl (WC.condF rfl (by simp) (WC.skip (hK2 _ _ (WC.seq (fun K4 hK4 => WC.r1 hs1 [] rfl ?_)))))))
 refine WC.block (WC.lS [0, 1, 10] rfl hs1 (fun k_ f w' => ∃ (i : Nat), k_ = n_a - i ∧ (i ≤ n_a) ∧ Sub [(5, .int .i64 i)] f) ((fun (i : Nat) => n_a - i) (0)) ?_ ?_)
 ·refine ⟨0, rfl, ?_, ⟨rfl, trivial⟩⟩
  · exact Nat.zero_le _
 clear hs1
 rintro _ f w ⟨i, rfl, p0, hG⟩ hF hs5
 refine WC.sub _ (hG.app hF) ?_
 clear hG hF
 refine WC.seq (fun K6 hK6 => WC.r1 hs5 [] rfl ?_)
 refine WC.cD rfl (fun qh7 => ?_) (fun qh7 => ?_)
 ·have hab_ := gat_dat (F := encRowR) (i := i) hab (by omega)
  refine WC.skip (hK6 _ _ (WC.seq (fun K8 hK8 => WC.block (WC.sq1 hs5 (WQ.r 2 [] rfl ?_)))))
  refine WQ.val rfl rfl rfl (fun w_ hs_ => (Run.idxN Tryz.runUnderlying87 Tryz.sizeOf181 rfl rfl rfl ?_ ?_ ?_)) ?_
  · exact SlF.some_ (SlF.st0 f_a.sl (hs_ : St _ _ _ _))
  · omega
  · omega
  refine WQ.val rfl rfl rfl (fun w_ hs_ => (Run.loadA Tryz.isAgg181 Tryz.sizeOf181 rfl rfl (SlF.whole (SlF.st0 f_a.sl (hs_ : St _ _ _ _)) ?_))) ?_
  · omega
  refine WQ.r 2 [] rfl ?_
  refine WQ.val rfl rfl rfl (fun w_ hs_ => (Run.idxN Tryz.runUnderlying87 Tryz.sizeOf181 rfl rfl rfl ?_ ?_ ?_)) ?_
  · exact SlF.some_ (SlF.st0 f_b.sl (hs_ : St _ _ _ _))
  · omega
  · omega
  refine WQ.val rfl rfl rfl (fun w_ hs_ => (Run.loadA Tryz.isAgg181 Tryz.sizeOf181 rfl rfl (SlF.whole (SlF.st0 f_b.sl (hs_ : St _ _ _ _)) ?_))) ?_
  · omega
  refine WQ.call rfl rfl rfl (fun w_ hs_ => (Run.call Tryz.call288 rfl rfl rfl)) (fun w_ hs_ => (k159_ (gat encRowR a i) (gat encRowR b i) _ (okRowR.st0 (SlN.nth f_a (by omega)) (hs_ : St _ _ _ _)) (okRowR.st0 (SlN.nth f_b (by omega)) (hs_ : St _ _ _ _)) ?_).mono fun e_ w_ h_ => ⟨h_.1, (hs_ : St _ _ _ _).call0 h_.2⟩) ?_
  · first | assumption | rfl | omega
  refine WQ.r 1 [] rfl (WQ.nil (fun _ (hs9 : St _ _ _ _) => WC.condF rfl (by simp) (WC.skip (hK8 _ _ (WC.region (WL.r 3 hs9 [] rfl (WL.nil ?_)))))))
  refine tkN (⟨sbF rfl, hs9, _, ?_, i + 1, rfl, ?_, ⟨rfl, trivial⟩⟩)
  · omega
  · omega
 refine WC.exit (hK4 _ _ (WC.r1 hs5 [] rfl (WC.ret (rtv rfl rfl hs5 ?_))))
 rfl
set_option maxHeartbeats 4000000 in
theorem k161_ (a : ScrR) (b : ScrR) (w : World) (f_a : okScrR 549755813888 w a) (f_b : okScrR 549755813888 w b) (hab : a.dat = b.dat) :
    Calls Tryz.prog 212 #[.agg (cScr a).toArray, .agg (cScr b).toArray] w fun e w' => e = .returned (.bool true) ∧ St w [] [] w' := by
 have nb_a_Main_Cells := f_a.Main.Cells_n
 have nl_a_Main_Cells := f_a.Main.Cells.len
 have nb_a_Alt_Cells := f_a.Alt.Cells_n
 have nl_a_Alt_Cells := f_a.Alt.Cells.len
 have nb_a_Tabs := f_a.Tabs_n
 have nl_a_Tabs := f_a.Tabs.len
 have nb_a_Back := f_a.Back_n
 have nl_a_Back := f_a.Back.sl.len
 have nb_b_Main_Cells := f_b.Main.Cells_n
 have nl_b_Main_Cells := f_b.Main.Cells.len
 have nb_b_Alt_Cells := f_b.Alt.Cells_n
 have nl_b_Alt_Cells := f_b.Alt.Cells.len
 have nb_b_Tabs := f_b.Tabs_n
 have nl_b_Tabs := f_b.Tabs.len
 have nb_b_Back := f_b.Back_n
 have nl_b_Back := f_b.Back.sl.len
 have e_W : a.W = b.W := congrArg (fun d : ScrD => d.W) hab
 have e_H : a.H = b.H := congrArg (fun d : ScrD => d.H) hab
 have e_Main : a.Main.dat = b.Main.dat := congrArg (fun d : ScrD => d.Main) hab
 have e_Main_W : a.Main.W = b.Main.W := congrArg (fun d : ScrD => d.Main.W) hab
 have e_Main_H : a.Main.H = b.Main.H := congrArg (fun d : ScrD => d.Main.H) hab
 have e_Main_Cells : a.Main.Cells.xs = b.Main.Cells.xs := congrArg (fun d : ScrD => d.Main.Cells) hab
 have e_Alt : a.Alt.dat = b.Alt.dat := congrArg (fun d : ScrD => d.Alt) hab
 have e_Alt_W : a.Alt.W = b.Alt.W := congrArg (fun d : ScrD => d.Alt.W) hab
 have e_Alt_H : a.Alt.H = b.Alt.H := congrArg (fun d : ScrD => d.Alt.H) hab
 have e_Alt_Cells : a.Alt.Cells.xs = b.Alt.Cells.xs := congrArg (fun d : ScrD => d.Alt.Cells) hab
 have e_OnAlt : a.OnAlt = b.OnAlt := congrArg (fun d : ScrD => d.OnAlt) hab
 have e_X : a.X = b.X := congrArg (fun d : ScrD => d.X) hab
 have e_Y : a.Y = b.Y := congrArg (fun d : ScrD => d.Y) hab
 have e_Wrap : a.Wrap = b.Wrap := congrArg (fun d : ScrD => d.Wrap) hab
 have e_A : a.A = b.A := congrArg (fun d : ScrD => d.A) hab
 have e_A_Fg : a.A.Fg = b.A.Fg := congrArg (fun d : ScrD => d.A.Fg) hab
 have e_A_Bg : a.A.Bg = b.A.Bg := congrArg (fun d : ScrD => d.A.Bg) hab
 have e_A_Bold : a.A.Bold = b.A.Bold := congrArg (fun d : ScrD => d.A.Bold) hab
 have e_A_Under : a.A.Under = b.A.Under := congrArg (fun d : ScrD => d.A.Under) hab
 have e_A_Turn : a.A.Turn = b.A.Turn := congrArg (fun d : ScrD => d.A.Turn) hab
 have e_Top : a.Top = b.Top := congrArg (fun d : ScrD => d.Top) hab
 have e_Bot : a.Bot = b.Bot := congrArg (fun d : ScrD => d.Bot) hab
 have e_NoWrap : a.NoWrap = b.NoWrap := congrArg (fun d : ScrD => d.NoWrap) hab
 have e_Hide : a.Hide = b.Hide := congrArg (fun d : ScrD => d.Hide) hab
 have e_SaveX : a.SaveX = b.SaveX := congrArg (fun d : ScrD => d.SaveX) hab
 have e_SaveY : a.SaveY = b.SaveY := congrArg (fun d : ScrD => d.SaveY) hab
 have e_SaveA : a.SaveA = b.SaveA := congrArg (fun d : ScrD => d.SaveA) hab
 have e_SaveA_Fg : a.SaveA.Fg = b.SaveA.Fg := congrArg (fun d : ScrD => d.SaveA.Fg) hab
 have e_SaveA_Bg : a.SaveA.Bg = b.SaveA.Bg := congrArg (fun d : ScrD => d.SaveA.Bg) hab
 have e_SaveA_Bold : a.SaveA.Bold = b.SaveA.Bold := congrArg (fun d : ScrD => d.SaveA.Bold) hab
 have e_SaveA_Under : a.SaveA.Under = b.SaveA.Under := congrArg (fun d : ScrD => d.SaveA.Under) hab
 have e_SaveA_Turn : a.SaveA.Turn = b.SaveA.Turn := congrArg (fun d : ScrD => d.SaveA.Turn) hab
 have e_Tabs : a.Tabs.xs = b.Tabs.xs := congrArg (fun d : ScrD => d.Tabs) hab
 have e_Limit : a.Limit = b.Limit := congrArg (fun d : ScrD => d.Limit) hab
 have e_Back : a.Back.xs.map RowR.dat = b.Back.xs.map RowR.dat := congrArg (fun d : ScrD => d.Back) hab
 refine enter 106 Tryz.func212 rfl Tryz.ntmps212 rfl rfl ?_
 have hs1 := St.init w
 refine WC.sr (WL.bx hs1 rfl (fun b2 _ hs3 => WL.bx hs3 rfl (fun b4 _ hs5 => WL.r 1 hs5 [] rfl (WL.nil (WC.seq (fun K6 hK6 => WC.r1 hs5 [1, 0] rfl (WC.condF rfl (by simp [e_W, e_H, e_Main_W, e_Main_H, e_Alt_W, e_Alt_H, e_OnAlt, e_X, e_Y, e_Wrap, e_A_Fg, e_A_Bg, e_A_Bold, e_A_Under, e_A_Turn, e_Top, e_Bot, e_NoWrap, e_Hide, e_SaveX, e_SaveY, e_SaveA_Fg, e_SaveA_Bg, e_SaveA_Bold, e_SaveA_Under, e_SaveA_Turn, e_Limit]) ?_)))))))
 refine WC.skip (hK6 _ _ (WC.seq (fun K8 hK8 => WC.r1 hs5 [1, 0] rfl (WC.condF rfl (by simp [e_W, e_H, e_Main_W, e_Main_H, e_Alt_W, e_Alt_H, e_OnAlt, e_X, e_Y, e_Wrap, e_A_Fg, e_A_Bg, e_A_Bold, e_A_Under, e_A_Turn, e_Top, e_Bot, e_NoWrap, e_Hide, e_SaveX, e_SaveY, e_SaveA_Fg, e_SaveA_Bg, e_SaveA_Bold, e_SaveA_Under, e_SaveA_Turn, e_Limit]) (WC.skip (hK8 _ _ (WC.seq (fun K10 hK10 => ?_))))))))
 refine WC.sr (WL.r 4 hs5 [1, 0] rfl (WL.cl Tryz.call260 rfl (k157_ a.Main b.Main _ (okGridR.st0 f_a.Main hs5) (okGridR.st0 f_b.Main hs5) ?_) ?_))
 · first | assumption | rfl | omega
 rintro _ whs11 ⟨rfl, hs11⟩
 replace hs11 := hs5.call0 hs11
 refine ⟨_, rfl, WL.r 1 hs11 [] rfl (WL.nil (WC.condF rfl (by simp [e_W, e_H, e_Main_W, e_Main_H, e_Alt_W, e_Alt_H, e_OnAlt, e_X, e_Y, e_Wrap, e_A_Fg, e_A_Bg, e_A_Bold, e_A_Under, e_A_Turn, e_Top, e_Bot, e_NoWrap, e_Hide, e_SaveX, e_SaveY, e_SaveA_Fg, e_SaveA_Bg, e_SaveA_Bold, e_SaveA_Under, e_SaveA_Turn, e_Limit]) (WC.skip (hK10 _ _ (WC.seq (fun K13 hK13 => WC.sr ?_))))))⟩
 refine WL.r 4 hs11 [1, 0] rfl (WL.cl Tryz.call260 rfl (k157_ a.Alt b.Alt _ (okGridR.st0 f_a.Alt hs11) (okGridR.st0 f_b.Alt hs11) ?_) ?_)
 · first | assumption | rfl | omega
 rintro _ whs14 ⟨rfl, hs14⟩
 replace hs14 := hs11.call0 hs14
 refine ⟨_, rfl, WL.r 1 hs14 [] rfl (WL.nil (WC.condF rfl (by simp [e_W, e_H, e_Main_W, e_Main_H, e_Alt_W, e_Alt_H, e_OnAlt, e_X, e_Y, e_Wrap, e_A_Fg, e_A_Bg, e_A_Bold, e_A_Under, e_A_Turn, e_Top, e_Bot, e_NoWrap, e_Hide, e_SaveX, e_SaveY, e_SaveA_Fg, e_SaveA_Bg, e_SaveA_Bold, e_SaveA_Under, e_SaveA_Turn, e_Limit]) (WC.skip (hK13 _ _ (WC.seq (fun K16 hK16 => WC.r1 hs14 [1, 0] rfl ?_))))))⟩
 refine WC.condF rfl (by simp [e_W, e_H, e_Main_W, e_Main_H, e_Alt_W, e_Alt_H, e_OnAlt, e_X, e_Y, e_Wrap, e_A_Fg, e_A_Bg, e_A_Bold, e_A_Under, e_A_Turn, e_Top, e_Bot, e_NoWrap, e_Hide, e_SaveX, e_SaveY, e_SaveA_Fg, e_SaveA_Bg, e_SaveA_Bold, e_SaveA_Under, e_SaveA_Turn, e_Limit]) (WC.skip (hK16 _ _ (WC.seq (fun K18 hK18 => WC.r1 hs14 [1, 0] rfl (WC.condF rfl (by simp [e_W, e_H, e_Main_W, e_Main_H, e_Alt_W, e_Alt_H, e_OnAlt, e_X, e_Y, e_Wrap, e_A_Fg, e_A_Bg, e_A_Bold, e_A_Under, e_A_Turn, e_Top, e_Bot, e_NoWrap, e_Hide, e_SaveX, e_SaveY, e_SaveA_Fg, e_SaveA_Bg, e_SaveA_Bold, e_SaveA_Under, e_SaveA_Turn, e_Limit]) ?_)))))
 refine WC.skip (hK18 _ _ (WC.seq (fun K20 hK20 => WC.r1 hs14 [1, 0] rfl (WC.condF rfl (by simp [e_W, e_H, e_Main_W, e_Main_H, e_Alt_W, e_Alt_H, e_OnAlt, e_X, e_Y, e_Wrap, e_A_Fg, e_A_Bg, e_A_Bold, e_A_Under, e_A_Turn, e_Top, e_Bot, e_NoWrap, e_Hide, e_SaveX, e_SaveY, e_SaveA_Fg, e_SaveA_Bg, e_SaveA_Bold, e_SaveA_Under, e_SaveA_Turn, e_Limit]) (WC.skip (hK20 _ _ (WC.seq (fun K22 hK22 => ?_))))))))
 refine WC.r1 hs14 [1, 0] rfl (WC.condF rfl (by simp [e_W, e_H, e_Main_W, e_Main_H, e_Alt_W, e_Alt_H, e_OnAlt, e_X, e_Y, e_Wrap, e_A_Fg, e_A_Bg, e_A_Bold, e_A_Under, e_A_Turn, e_Top, e_Bot, e_NoWrap, e_Hide, e_SaveX, e_SaveY, e_SaveA_Fg, e_SaveA_Bg, e_SaveA_Bold, e_SaveA_Under, e_SaveA_Turn, e_Limit]) (WC.skip (hK22 _ _ (WC.seq (fun K24 hK24 => WC.sr (WL.r 4 hs14 [1, 0] rfl ?_))))))
 refine WL.cl Tryz.call261 rfl (k8_ _ _ _ _ _ _ _ _ _ _ _ ?_) ?_
 · first | assumption | rfl | omega
 rintro _ whs25 ⟨rfl, hs25⟩
 replace hs25 := hs14.call0 hs25
 refine ⟨_, rfl, WL.r 1 hs25 [] rfl (WL.nil (WC.condF rfl (by simp [e_W, e_H, e_Main_W, e_Main_H, e_Alt_W, e_Alt_H, e_OnAlt, e_X, e_Y, e_Wrap, e_A_Fg, e_A_Bg, e_A_Bold, e_A_Under, e_A_Turn, e_Top, e_Bot, e_NoWrap, e_Hide, e_SaveX, e_SaveY, e_SaveA_Fg, e_SaveA_Bg, e_SaveA_Bold, e_SaveA_Under, e_SaveA_Turn, e_Limit]) (WC.skip (hK24 _ _ (WC.seq (fun K27 hK27 => WC.r1 hs25 [1, 0] rfl ?_))))))⟩
 refine WC.condF rfl (by simp [e_W, e_H, e_Main_W, e_Main_H, e_Alt_W, e_Alt_H, e_OnAlt, e_X, e_Y, e_Wrap, e_A_Fg, e_A_Bg, e_A_Bold, e_A_Under, e_A_Turn, e_Top, e_Bot, e_NoWrap, e_Hide, e_SaveX, e_SaveY, e_SaveA_Fg, e_SaveA_Bg, e_SaveA_Bold, e_SaveA_Under, e_SaveA_Turn, e_Limit]) (WC.skip (hK27 _ _ (WC.seq (fun K29 hK29 => WC.r1 hs25 [1, 0] rfl (WC.condF rfl (by simp [e_W, e_H, e_Main_W, e_Main_H, e_Alt_W, e_Alt_H, e_OnAlt, e_X, e_Y, e_Wrap, e_A_Fg, e_A_Bg, e_A_Bold, e_A_Under, e_A_Turn, e_Top, e_Bot, e_NoWrap, e_Hide, e_SaveX, e_SaveY, e_SaveA_Fg, e_SaveA_Bg, e_SaveA_Bold, e_SaveA_Under, e_SaveA_Turn, e_Limit]) ?_)))))
 refine WC.skip (hK29 _ _ (WC.seq (fun K31 hK31 => WC.r1 hs25 [1, 0] rfl (WC.condF rfl (by simp [e_W, e_H, e_Main_W, e_Main_H, e_Alt_W, e_Alt_H, e_OnAlt, e_X, e_Y, e_Wrap, e_A_Fg, e_A_Bg, e_A_Bold, e_A_Under, e_A_Turn, e_Top, e_Bot, e_NoWrap, e_Hide, e_SaveX, e_SaveY, e_SaveA_Fg, e_SaveA_Bg, e_SaveA_Bold, e_SaveA_Under, e_SaveA_Turn, e_Limit]) (WC.skip (hK31 _ _ (WC.seq (fun K33 hK33 => ?_))))))))
 refine WC.r1 hs25 [1, 0] rfl (WC.condF rfl (by simp [e_W, e_H, e_Main_W, e_Main_H, e_Alt_W, e_Alt_H, e_OnAlt, e_X, e_Y, e_Wrap, e_A_Fg, e_A_Bg, e_A_Bold, e_A_Under, e_A_Turn, e_Top, e_Bot, e_NoWrap, e_Hide, e_SaveX, e_SaveY, e_SaveA_Fg, e_SaveA_Bg, e_SaveA_Bold, e_SaveA_Under, e_SaveA_Turn, e_Limit]) (WC.skip (hK33 _ _ (WC.seq (fun K35 hK35 => WC.r1 hs25 [1, 0] rfl (WC.condF rfl (by simp [e_W, e_H, e_Main_W, e_Main_H, e_Alt_W, e_Alt_H, e_OnAlt, e_X, e_Y, e_Wrap, e_A_Fg, e_A_Bg, e_A_Bold, e_A_Under, e_A_Turn, e_Top, e_Bot, e_NoWrap, e_Hide, e_SaveX, e_SaveY, e_SaveA_Fg, e_SaveA_Bg, e_SaveA_Bold, e_SaveA_Under, e_SaveA_Turn, e_Limit]) ?_))))))
 refine WC.skip (hK35 _ _ (WC.seq (fun K37 hK37 => WC.r1 hs25 [1, 0] rfl (WC.condF rfl (by simp [e_W, e_H, e_Main_W, e_Main_H, e_Alt_W, e_Alt_H, e_OnAlt, e_X, e_Y, e_Wrap, e_A_Fg, e_A_Bg, e_A_Bold, e_A_Under, e_A_Turn, e_Top, e_Bot, e_NoWrap, e_Hide, e_SaveX, e_SaveY, e_SaveA_Fg, e_SaveA_Bg, e_SaveA_Bold, e_SaveA_Under, e_SaveA_Turn, e_Limit]) (WC.skip (hK37 _ _ (WC.seq (fun K39 hK39 => ?_))))))))
 refine WC.sr (WL.r 4 hs25 [1, 0] rfl (WL.cl Tryz.call261 rfl (k8_ _ _ _ _ _ _ _ _ _ _ _ ?_) ?_))
 · first | assumption | rfl | omega
 rintro _ whs40 ⟨rfl, hs40⟩
 replace hs40 := hs25.call0 hs40
 refine ⟨_, rfl, WL.r 1 hs40 [] rfl (WL.nil (WC.condF rfl (by simp [e_W, e_H, e_Main_W, e_Main_H, e_Alt_W, e_Alt_H, e_OnAlt, e_X, e_Y, e_Wrap, e_A_Fg, e_A_Bg, e_A_Bold, e_A_Under, e_A_Turn, e_Top, e_Bot, e_NoWrap, e_Hide, e_SaveX, e_SaveY, e_SaveA_Fg, e_SaveA_Bg, e_SaveA_Bold, e_SaveA_Under, e_SaveA_Turn, e_Limit]) (WC.skip (hK39 _ _ (WC.seq (fun K42 hK42 => WC.sr ?_))))))⟩
 refine WL.r 4 hs40 [1, 0] rfl (WL.cl Tryz.call171 rfl (k13_ _ _ _ _ _ _ _ _ _ (SlF.st0 f_a.Tabs hs40) (SlF.st0 f_b.Tabs hs40) ?_ ?_) ?_)
 iterate 2 first | assumption | rfl | omega
 rintro _ whs43 ⟨rfl, hs43⟩
 replace hs43 := hs40.call0 hs43
 refine ⟨_, rfl, WL.r 1 hs43 [] rfl (WL.nil (WC.condF rfl (by simp [e_W, e_H, e_Main_W, e_Main_H, e_Alt_W, e_Alt_H, e_OnAlt, e_X, e_Y, e_Wrap, e_A_Fg, e_A_Bg, e_A_Bold, e_A_Under, e_A_Turn, e_Top, e_Bot, e_NoWrap, e_Hide, e_SaveX, e_SaveY, e_SaveA_Fg, e_SaveA_Bg, e_SaveA_Bold, e_SaveA_Under, e_SaveA_Turn, e_Limit]) (WC.skip (hK42 _ _ (WC.seq (fun K45 hK45 => WC.r1 hs43 [1, 0] rfl ?_))))))⟩
 refine WC.condF rfl (by simp [e_W, e_H, e_Main_W, e_Main_H, e_Alt_W, e_Alt_H, e_OnAlt, e_X, e_Y, e_Wrap, e_A_Fg, e_A_Bg, e_A_Bold, e_A_Under, e_A_Turn, e_Top, e_Bot, e_NoWrap, e_Hide, e_SaveX, e_SaveY, e_SaveA_Fg, e_SaveA_Bg, e_SaveA_Bold, e_SaveA_Under, e_SaveA_Turn, e_Limit]) (WC.skip (hK45 _ _ (WC.seq (fun K47 hK47 => WC.sr (WL.r 4 hs43 [1, 0] rfl ?_)))))
 refine WL.cl Tryz.call262 rfl (k160_ _ _ _ _ _ _ _ _ _ (SlN.st0 okRowR.st0 f_a.Back hs43) (SlN.st0 okRowR.st0 f_b.Back hs43) ?_ ?_) ?_
 iterate 2 first | assumption | rfl | omega
 rintro _ whs48 ⟨rfl, hs48⟩
 replace hs48 := hs43.call0 hs48
 refine ⟨_, rfl, WL.r 1 hs48 [] rfl (WL.nil (WC.condF rfl (by simp [e_W, e_H, e_Main_W, e_Main_H, e_Alt_W, e_Alt_H, e_OnAlt, e_X, e_Y, e_Wrap, e_A_Fg, e_A_Bg, e_A_Bold, e_A_Under, e_A_Turn, e_Top, e_Bot, e_NoWrap, e_Hide, e_SaveX, e_SaveY, e_SaveA_Fg, e_SaveA_Bg, e_SaveA_Bold, e_SaveA_Under, e_SaveA_Turn, e_Limit]) (WC.skip (hK47 _ _ (WC.r1 hs48 [] rfl (WC.ret ?_))))))⟩
 refine rtv rfl rfl hs48 ?_
 rfl
set_option maxHeartbeats 4000000 in
theorem k162_ (a : TermR) (b : TermR) (w : World) (f_a : okTermR 549755813888 w a) (f_b : okTermR 549755813888 w b) (hab : a.dat = b.dat) :
    Calls Tryz.prog 169 #[.agg #[i64 a.P.State, .bool a.P.Mark, .slice a.P.Args.A a.P.Args.n a.P.Args.c, .slice a.P.Part.A a.P.Part.n a.P.Part.c, i64 a.S.W, i64 a.S.H, i64 a.S.Main.W, i64 a.S.Main.H, .slice a.S.Main.Cells.A a.S.Main.Cells.n a.S.Main.Cells.c, i64 a.S.Alt.W, i64 a.S.Alt.H, .slice a.S.Alt.Cells.A a.S.Alt.Cells.n a.S.Alt.Cells.c, .bool a.S.OnAlt, i64 a.S.X, i64 a.S.Y, .bool a.S.Wrap, i64 a.S.A.Fg, i64 a.S.A.Bg, .bool a.S.A.Bold, .bool a.S.A.Under, .bool a.S.A.Turn, i64 a.S.Top, i64 a.S.Bot, .bool a.S.NoWrap, .bool a.S.Hide, i64 a.S.SaveX, i64 a.S.SaveY, i64 a.S.SaveA.Fg, i64 a.S.SaveA.Bg, .bool a.S.SaveA.Bold, .bool a.S.SaveA.Under, .bool a.S.SaveA.Turn, .slice a.S.Tabs.A a.S.Tabs.n a.S.Tabs.c, i64 a.S.Limit, .slice a.S.Back.A a.S.Back.n a.S.Back.c], .agg #[i64 b.P.State, .bool b.P.Mark, .slice b.P.Args.A b.P.Args.n b.P.Args.c, .slice b.P.Part.A b.P.Part.n b.P.Part.c, i64 b.S.W, i64 b.S.H, i64 b.S.Main.W, i64 b.S.Main.H, .slice b.S.Main.Cells.A b.S.Main.Cells.n b.S.Main.Cells.c, i64 b.S.Alt.W, i64 b.S.Alt.H, .slice b.S.Alt.Cells.A b.S.Alt.Cells.n b.S.Alt.Cells.c, .bool b.S.OnAlt, i64 b.S.X, i64 b.S.Y, .bool b.S.Wrap, i64 b.S.A.Fg, i64 b.S.A.Bg, .bool b.S.A.Bold, .bool b.S.A.Under, .bool b.S.A.Turn, i64 b.S.Top, i64 b.S.Bot, .bool b.S.NoWrap, .bool b.S.Hide, i64 b.S.SaveX, i64 b.S.SaveY, i64 b.S.SaveA.Fg, i64 b.S.SaveA.Bg, .bool b.S.SaveA.Bold, .bool b.S.SaveA.Under, .bool b.S.SaveA.Turn, .slice b.S.Tabs.A b.S.Tabs.n b.S.Tabs.c, i64 b.S.Limit, .slice b.S.Back.A b.S.Back.n b.S.Back.c]] w fun e w' => e = .returned (.bool true) ∧ St w [] [] w' := by
 have nb_a_P_Args := f_a.P.Args_n
 have nl_a_P_Args := f_a.P.Args.len
 have nb_a_P_Part := f_a.P.Part_n
 have nl_a_P_Part := f_a.P.Part.len
 have nb_a_S_Main_Cells := f_a.S.Main.Cells_n
 have nl_a_S_Main_Cells := f_a.S.Main.Cells.len
 have nb_a_S_Alt_Cells := f_a.S.Alt.Cells_n
 have nl_a_S_Alt_Cells := f_a.S.Alt.Cells.len
 have nb_a_S_Tabs := f_a.S.Tabs_n
 have nl_a_S_Tabs := f_a.S.Tabs.len
 have nb_a_S_Back := f_a.S.Back_n
 have nl_a_S_Back := f_a.S.Back.sl.len
 have nb_b_P_Args := f_b.P.Args_n
 have nl_b_P_Args := f_b.P.Args.len
 have nb_b_P_Part := f_b.P.Part_n
 have nl_b_P_Part := f_b.P.Part.len
 have nb_b_S_Main_Cells := f_b.S.Main.Cells_n
 have nl_b_S_Main_Cells := f_b.S.Main.Cells.len
 have nb_b_S_Alt_Cells := f_b.S.Alt.Cells_n
 have nl_b_S_Alt_Cells := f_b.S.Alt.Cells.len
 have nb_b_S_Tabs := f_b.S.Tabs_n
 have nl_b_S_Tabs := f_b.S.Tabs.len
 have nb_b_S_Back := f_b.S.Back_n
 have nl_b_S_Back := f_b.S.Back.sl.len
 have e_P : a.P.dat = b.P.dat := congrArg (fun d : TermD => d.P) hab
 have e_P_State : a.P.State = b.P.State := congrArg (fun d : TermD => d.P.State) hab
 have e_P_Mark : a.P.Mark = b.P.Mark := congrArg (fun d : TermD => d.P.Mark) hab
 have e_P_Args : a.P.Args.xs = b.P.Args.xs := congrArg (fun d : TermD => d.P.Args) hab
 have e_P_Part : a.P.Part.xs = b.P.Part.xs := congrArg (fun d : TermD => d.P.Part) hab
 have e_S : a.S.dat = b.S.dat := congrArg (fun d : TermD => d.S) hab
 have e_S_W : a.S.W = b.S.W := congrArg (fun d : TermD => d.S.W) hab
 have e_S_H : a.S.H = b.S.H := congrArg (fun d : TermD => d.S.H) hab
 have e_S_Main : a.S.Main.dat = b.S.Main.dat := congrArg (fun d : TermD => d.S.Main) hab
 have e_S_Main_W : a.S.Main.W = b.S.Main.W := congrArg (fun d : TermD => d.S.Main.W) hab
 have e_S_Main_H : a.S.Main.H = b.S.Main.H := congrArg (fun d : TermD => d.S.Main.H) hab
 have e_S_Main_Cells : a.S.Main.Cells.xs = b.S.Main.Cells.xs := congrArg (fun d : TermD => d.S.Main.Cells) hab
 have e_S_Alt : a.S.Alt.dat = b.S.Alt.dat := congrArg (fun d : TermD => d.S.Alt) hab
 have e_S_Alt_W : a.S.Alt.W = b.S.Alt.W := congrArg (fun d : TermD => d.S.Alt.W) hab
 have e_S_Alt_H : a.S.Alt.H = b.S.Alt.H := congrArg (fun d : TermD => d.S.Alt.H) hab
 have e_S_Alt_Cells : a.S.Alt.Cells.xs = b.S.Alt.Cells.xs := congrArg (fun d : TermD => d.S.Alt.Cells) hab
 have e_S_OnAlt : a.S.OnAlt = b.S.OnAlt := congrArg (fun d : TermD => d.S.OnAlt) hab
 have e_S_X : a.S.X = b.S.X := congrArg (fun d : TermD => d.S.X) hab
 have e_S_Y : a.S.Y = b.S.Y := congrArg (fun d : TermD => d.S.Y) hab
 have e_S_Wrap : a.S.Wrap = b.S.Wrap := congrArg (fun d : TermD => d.S.Wrap) hab
 have e_S_A : a.S.A = b.S.A := congrArg (fun d : TermD => d.S.A) hab
 have e_S_A_Fg : a.S.A.Fg = b.S.A.Fg := congrArg (fun d : TermD => d.S.A.Fg) hab
 have e_S_A_Bg : a.S.A.Bg = b.S.A.Bg := congrArg (fun d : TermD => d.S.A.Bg) hab
 have e_S_A_Bold : a.S.A.Bold = b.S.A.Bold := congrArg (fun d : TermD => d.S.A.Bold) hab
 have e_S_A_Under : a.S.A.Under = b.S.A.Under := congrArg (fun d : TermD => d.S.A.Under) hab
 have e_S_A_Turn : a.S.A.Turn = b.S.A.Turn := congrArg (fun d : TermD => d.S.A.Turn) hab
 have e_S_Top : a.S.Top = b.S.Top := congrArg (fun d : TermD => d.S.Top) hab
 have e_S_Bot : a.S.Bot = b.S.Bot := congrArg (fun d : TermD => d.S.Bot) hab
 have e_S_NoWrap : a.S.NoWrap = b.S.NoWrap := congrArg (fun d : TermD => d.S.NoWrap) hab
 have e_S_Hide : a.S.Hide = b.S.Hide := congrArg (fun d : TermD => d.S.Hide) hab
 have e_S_SaveX : a.S.SaveX = b.S.SaveX := congrArg (fun d : TermD => d.S.SaveX) hab
 have e_S_SaveY : a.S.SaveY = b.S.SaveY := congrArg (fun d : TermD => d.S.SaveY) hab
 have e_S_SaveA : a.S.SaveA = b.S.SaveA := congrArg (fun d : TermD => d.S.SaveA) hab
 have e_S_SaveA_Fg : a.S.SaveA.Fg = b.S.SaveA.Fg := congrArg (fun d : TermD => d.S.SaveA.Fg) hab
 have e_S_SaveA_Bg : a.S.SaveA.Bg = b.S.SaveA.Bg := congrArg (fun d : TermD => d.S.SaveA.Bg) hab
 have e_S_SaveA_Bold : a.S.SaveA.Bold = b.S.SaveA.Bold := congrArg (fun d : TermD => d.S.SaveA.Bold) hab
 have e_S_SaveA_Under : a.S.SaveA.Under = b.S.SaveA.Under := congrArg (fun d : TermD => d.S.SaveA.Under) hab
 have e_S_SaveA_Turn : a.S.SaveA.Turn = b.S.SaveA.Turn := congrArg (fun d : TermD => d.S.SaveA.Turn) hab
 have e_S_Tabs : a.S.Tabs.xs = b.S.Tabs.xs := congrArg (fun d : TermD => d.S.Tabs) hab
 have e_S_Limit : a.S.Limit = b.S.Limit := congrArg (fun d : TermD => d.S.Limit) hab
 have e_S_Back : a.S.Back.xs.map RowR.dat = b.S.Back.xs.map RowR.dat := congrArg (fun d : TermD => d.S.Back) hab
 refine enter 17 Tryz.func169 rfl Tryz.ntmps169 rfl rfl ?_
 have hs1 := St.init w
 refine WC.sr (WL.bx hs1 rfl (fun b2 _ hs3 => WL.bx hs3 rfl (fun b4 _ hs5 => WL.r 1 hs5 [] rfl (WL.nil (WC.seq (fun K6 hK6 => WC.sr (WL.r 4 hs5 [1, 0] rfl ?_)))))))
 refine WL.cl Tryz.call211 rfl (k158_ a.P b.P _ (okVpR.st0 f_a.P hs5) (okVpR.st0 f_b.P hs5) ?_) ?_
 · first | assumption | rfl | omega
 rintro _ whs7 ⟨rfl, hs7⟩
 replace hs7 := hs5.call0 hs7
 refine ⟨_, rfl, WL.r 1 hs7 [] rfl (WL.nil (WC.condF rfl (by simp [e_P_State, e_P_Mark, e_S_W, e_S_H, e_S_Main_W, e_S_Main_H, e_S_Alt_W, e_S_Alt_H, e_S_OnAlt, e_S_X, e_S_Y, e_S_Wrap, e_S_A_Fg, e_S_A_Bg, e_S_A_Bold, e_S_A_Under, e_S_A_Turn, e_S_Top, e_S_Bot, e_S_NoWrap, e_S_Hide, e_S_SaveX, e_S_SaveY, e_S_SaveA_Fg, e_S_SaveA_Bg, e_S_SaveA_Bold, e_S_SaveA_Under, e_S_SaveA_Turn, e_S_Limit]) (WC.skip (hK6 _ _ (WC.seq (fun K9 hK9 => WC.sr ?_))))))⟩
 refine WL.r 4 hs7 [1, 0] rfl (WL.cl Tryz.call212 rfl (k161_ a.S b.S _ (okScrR.st0 f_a.S hs7) (okScrR.st0 f_b.S hs7) ?_) ?_)
 · first | assumption | rfl | omega
 rintro _ whs10 ⟨rfl, hs10⟩
 replace hs10 := hs7.call0 hs10
 refine ⟨_, rfl, WL.r 1 hs10 [] rfl (WL.nil (WC.condF rfl (by simp [e_P_State, e_P_Mark, e_S_W, e_S_H, e_S_Main_W, e_S_Main_H, e_S_Alt_W, e_S_Alt_H, e_S_OnAlt, e_S_X, e_S_Y, e_S_Wrap, e_S_A_Fg, e_S_A_Bg, e_S_A_Bold, e_S_A_Under, e_S_A_Turn, e_S_Top, e_S_Bot, e_S_NoWrap, e_S_Hide, e_S_SaveX, e_S_SaveY, e_S_SaveA_Fg, e_S_SaveA_Bg, e_S_SaveA_Bold, e_S_SaveA_Under, e_S_SaveA_Turn, e_S_Limit]) (WC.skip (hK9 _ _ (WC.r1 hs10 [] rfl (WC.ret ?_))))))⟩
 refine rtv rfl rfl hs10 ?_
 rfl
set_option maxHeartbeats 4000000 in
theorem k163_ (a : PaneR) (b : PaneR) (w : World) (f_a : okPaneR 549755813888 w a) (f_b : okPaneR 549755813888 w b) (hab : a.dat = b.dat) :
    Calls Tryz.prog 108 #[.agg #[i64 a.Id, .string a.Cmd, .string a.Dir, i64 a.Life, i64 a.Code, i64 a.Pid, i64 a.Term.P.State, .bool a.Term.P.Mark, .slice a.Term.P.Args.A a.Term.P.Args.n a.Term.P.Args.c, .slice a.Term.P.Part.A a.Term.P.Part.n a.Term.P.Part.c, i64 a.Term.S.W, i64 a.Term.S.H, i64 a.Term.S.Main.W, i64 a.Term.S.Main.H, .slice a.Term.S.Main.Cells.A a.Term.S.Main.Cells.n a.Term.S.Main.Cells.c, i64 a.Term.S.Alt.W, i64 a.Term.S.Alt.H, .slice a.Term.S.Alt.Cells.A a.Term.S.Alt.Cells.n a.Term.S.Alt.Cells.c, .bool a.Term.S.OnAlt, i64 a.Term.S.X, i64 a.Term.S.Y, .bool a.Term.S.Wrap, i64 a.Term.S.A.Fg, i64 a.Term.S.A.Bg, .bool a.Term.S.A.Bold, .bool a.Term.S.A.Under, .bool a.Term.S.A.Turn, i64 a.Term.S.Top, i64 a.Term.S.Bot, .bool a.Term.S.NoWrap, .bool a.Term.S.Hide, i64 a.Term.S.SaveX, i64 a.Term.S.SaveY, i64 a.Term.S.SaveA.Fg, i64 a.Term.S.SaveA.Bg, .bool a.Term.S.SaveA.Bold, .bool a.Term.S.SaveA.Under, .bool a.Term.S.SaveA.Turn, .slice a.Term.S.Tabs.A a.Term.S.Tabs.n a.Term.S.Tabs.c, i64 a.Term.S.Limit, .slice a.Term.S.Back.A a.Term.S.Back.n a.Term.S.Back.c], .agg #[i64 b.Id, .string b.Cmd, .string b.Dir, i64 b.Life, i64 b.Code, i64 b.Pid, i64 b.Term.P.State, .bool b.Term.P.Mark, .slice b.Term.P.Args.A b.Term.P.Args.n b.Term.P.Args.c, .slice b.Term.P.Part.A b.Term.P.Part.n b.Term.P.Part.c, i64 b.Term.S.W, i64 b.Term.S.H, i64 b.Term.S.Main.W, i64 b.Term.S.Main.H, .slice b.Term.S.Main.Cells.A b.Term.S.Main.Cells.n b.Term.S.Main.Cells.c, i64 b.Term.S.Alt.W, i64 b.Term.S.Alt.H, .slice b.Term.S.Alt.Cells.A b.Term.S.Alt.Cells.n b.Term.S.Alt.Cells.c, .bool b.Term.S.OnAlt, i64 b.Term.S.X, i64 b.Term.S.Y, .bool b.Term.S.Wrap, i64 b.Term.S.A.Fg, i64 b.Term.S.A.Bg, .bool b.Term.S.A.Bold, .bool b.Term.S.A.Under, .bool b.Term.S.A.Turn, i64 b.Term.S.Top, i64 b.Term.S.Bot, .bool b.Term.S.NoWrap, .bool b.Term.S.Hide, i64 b.Term.S.SaveX, i64 b.Term.S.SaveY, i64 b.Term.S.SaveA.Fg, i64 b.Term.S.SaveA.Bg, .bool b.Term.S.SaveA.Bold, .bool b.Term.S.SaveA.Under, .bool b.Term.S.SaveA.Turn, .slice b.Term.S.Tabs.A b.Term.S.Tabs.n b.Term.S.Tabs.c, i64 b.Term.S.Limit, .slice b.Term.S.Back.A b.Term.S.Back.n b.Term.S.Back.c]] w fun e w' => e = .returned (.bool true) ∧ St w [] [] w' := by
 have nz_a_Cmd := f_a.Cmd_z
 have nz_a_Dir := f_a.Dir_z
 have nb_a_Term_P_Args := f_a.Term.P.Args_n
 have nl_a_Term_P_Args := f_a.Term.P.Args.len
 have nb_a_Term_P_Part := f_a.Term.P.Part_n
 have nl_a_Term_P_Part := f_a.Term.P.Part.len
 have nb_a_Term_S_Main_Cells := f_a.Term.S.Main.Cells_n
 have nl_a_Term_S_Main_Cells := f_a.Term.S.Main.Cells.len
 have nb_a_Term_S_Alt_Cells := f_a.Term.S.Alt.Cells_n
 have nl_a_Term_S_Alt_Cells := f_a.Term.S.Alt.Cells.len
 have nb_a_Term_S_Tabs := f_a.Term.S.Tabs_n
 have nl_a_Term_S_Tabs := f_a.Term.S.Tabs.len
 have nb_a_Term_S_Back := f_a.Term.S.Back_n
 have nl_a_Term_S_Back := f_a.Term.S.Back.sl.len
 have nz_b_Cmd := f_b.Cmd_z
 have nz_b_Dir := f_b.Dir_z
 have nb_b_Term_P_Args := f_b.Term.P.Args_n
 have nl_b_Term_P_Args := f_b.Term.P.Args.len
 have nb_b_Term_P_Part := f_b.Term.P.Part_n
 have nl_b_Term_P_Part := f_b.Term.P.Part.len
 have nb_b_Term_S_Main_Cells := f_b.Term.S.Main.Cells_n
 have nl_b_Term_S_Main_Cells := f_b.Term.S.Main.Cells.len
 have nb_b_Term_S_Alt_Cells := f_b.Term.S.Alt.Cells_n
 have nl_b_Term_S_Alt_Cells := f_b.Term.S.Alt.Cells.len
 have nb_b_Term_S_Tabs := f_b.Term.S.Tabs_n
 have nl_b_Term_S_Tabs := f_b.Term.S.Tabs.len
 have nb_b_Term_S_Back := f_b.Term.S.Back_n
 have nl_b_Term_S_Back := f_b.Term.S.Back.sl.len
 have e_Id : a.Id = b.Id := congrArg (fun d : PaneD => d.Id) hab
 have e_Cmd : a.Cmd = b.Cmd := congrArg (fun d : PaneD => d.Cmd) hab
 have e_Dir : a.Dir = b.Dir := congrArg (fun d : PaneD => d.Dir) hab
 have e_Life : a.Life = b.Life := congrArg (fun d : PaneD => d.Life) hab
 have e_Code : a.Code = b.Code := congrArg (fun d : PaneD => d.Code) hab
 have e_Pid : a.Pid = b.Pid := congrArg (fun d : PaneD => d.Pid) hab
 have e_Term : a.Term.dat = b.Term.dat := congrArg (fun d : PaneD => d.Term) hab
 have e_Term_P : a.Term.P.dat = b.Term.P.dat := congrArg (fun d : PaneD => d.Term.P) hab
 have e_Term_P_State : a.Term.P.State = b.Term.P.State := congrArg (fun d : PaneD => d.Term.P.State) hab
 have e_Term_P_Mark : a.Term.P.Mark = b.Term.P.Mark := congrArg (fun d : PaneD => d.Term.P.Mark) hab
 have e_Term_P_Args : a.Term.P.Args.xs = b.Term.P.Args.xs := congrArg (fun d : PaneD => d.Term.P.Args) hab
 have e_Term_P_Part : a.Term.P.Part.xs = b.Term.P.Part.xs := congrArg (fun d : PaneD => d.Term.P.Part) hab
 have e_Term_S : a.Term.S.dat = b.Term.S.dat := congrArg (fun d : PaneD => d.Term.S) hab
 have e_Term_S_W : a.Term.S.W = b.Term.S.W := congrArg (fun d : PaneD => d.Term.S.W) hab
 have e_Term_S_H : a.Term.S.H = b.Term.S.H := congrArg (fun d : PaneD => d.Term.S.H) hab
 have e_Term_S_Main : a.Term.S.Main.dat = b.Term.S.Main.dat := congrArg (fun d : PaneD => d.Term.S.Main) hab
 have e_Term_S_Main_W : a.Term.S.Main.W = b.Term.S.Main.W := congrArg (fun d : PaneD => d.Term.S.Main.W) hab
 have e_Term_S_Main_H : a.Term.S.Main.H = b.Term.S.Main.H := congrArg (fun d : PaneD => d.Term.S.Main.H) hab
 have e_Term_S_Main_Cells : a.Term.S.Main.Cells.xs = b.Term.S.Main.Cells.xs := congrArg (fun d : PaneD => d.Term.S.Main.Cells) hab
 have e_Term_S_Alt : a.Term.S.Alt.dat = b.Term.S.Alt.dat := congrArg (fun d : PaneD => d.Term.S.Alt) hab
 have e_Term_S_Alt_W : a.Term.S.Alt.W = b.Term.S.Alt.W := congrArg (fun d : PaneD => d.Term.S.Alt.W) hab
 have e_Term_S_Alt_H : a.Term.S.Alt.H = b.Term.S.Alt.H := congrArg (fun d : PaneD => d.Term.S.Alt.H) hab
 have e_Term_S_Alt_Cells : a.Term.S.Alt.Cells.xs = b.Term.S.Alt.Cells.xs := congrArg (fun d : PaneD => d.Term.S.Alt.Cells) hab
 have e_Term_S_OnAlt : a.Term.S.OnAlt = b.Term.S.OnAlt := congrArg (fun d : PaneD => d.Term.S.OnAlt) hab
 have e_Term_S_X : a.Term.S.X = b.Term.S.X := congrArg (fun d : PaneD => d.Term.S.X) hab
 have e_Term_S_Y : a.Term.S.Y = b.Term.S.Y := congrArg (fun d : PaneD => d.Term.S.Y) hab
 have e_Term_S_Wrap : a.Term.S.Wrap = b.Term.S.Wrap := congrArg (fun d : PaneD => d.Term.S.Wrap) hab
 have e_Term_S_A : a.Term.S.A = b.Term.S.A := congrArg (fun d : PaneD => d.Term.S.A) hab
 have e_Term_S_A_Fg : a.Term.S.A.Fg = b.Term.S.A.Fg := congrArg (fun d : PaneD => d.Term.S.A.Fg) hab
 have e_Term_S_A_Bg : a.Term.S.A.Bg = b.Term.S.A.Bg := congrArg (fun d : PaneD => d.Term.S.A.Bg) hab
 have e_Term_S_A_Bold : a.Term.S.A.Bold = b.Term.S.A.Bold := congrArg (fun d : PaneD => d.Term.S.A.Bold) hab
 have e_Term_S_A_Under : a.Term.S.A.Under = b.Term.S.A.Under := congrArg (fun d : PaneD => d.Term.S.A.Under) hab
 have e_Term_S_A_Turn : a.Term.S.A.Turn = b.Term.S.A.Turn := congrArg (fun d : PaneD => d.Term.S.A.Turn) hab
 have e_Term_S_Top : a.Term.S.Top = b.Term.S.Top := congrArg (fun d : PaneD => d.Term.S.Top) hab
 have e_Term_S_Bot : a.Term.S.Bot = b.Term.S.Bot := congrArg (fun d : PaneD => d.Term.S.Bot) hab
 have e_Term_S_NoWrap : a.Term.S.NoWrap = b.Term.S.NoWrap := congrArg (fun d : PaneD => d.Term.S.NoWrap) hab
 have e_Term_S_Hide : a.Term.S.Hide = b.Term.S.Hide := congrArg (fun d : PaneD => d.Term.S.Hide) hab
 have e_Term_S_SaveX : a.Term.S.SaveX = b.Term.S.SaveX := congrArg (fun d : PaneD => d.Term.S.SaveX) hab
 have e_Term_S_SaveY : a.Term.S.SaveY = b.Term.S.SaveY := congrArg (fun d : PaneD => d.Term.S.SaveY) hab
 have e_Term_S_SaveA : a.Term.S.SaveA = b.Term.S.SaveA := congrArg (fun d : PaneD => d.Term.S.SaveA) hab
 have e_Term_S_SaveA_Fg : a.Term.S.SaveA.Fg = b.Term.S.SaveA.Fg := congrArg (fun d : PaneD => d.Term.S.SaveA.Fg) hab
 have e_Term_S_SaveA_Bg : a.Term.S.SaveA.Bg = b.Term.S.SaveA.Bg := congrArg (fun d : PaneD => d.Term.S.SaveA.Bg) hab
 have e_Term_S_SaveA_Bold : a.Term.S.SaveA.Bold = b.Term.S.SaveA.Bold := congrArg (fun d : PaneD => d.Term.S.SaveA.Bold) hab
 have e_Term_S_SaveA_Under : a.Term.S.SaveA.Under = b.Term.S.SaveA.Under := congrArg (fun d : PaneD => d.Term.S.SaveA.Under) hab
 have e_Term_S_SaveA_Turn : a.Term.S.SaveA.Turn = b.Term.S.SaveA.Turn := congrArg (fun d : PaneD => d.Term.S.SaveA.Turn) hab
 have e_Term_S_Tabs : a.Term.S.Tabs.xs = b.Term.S.Tabs.xs := congrArg (fun d : PaneD => d.Term.S.Tabs) hab
 have e_Term_S_Limit : a.Term.S.Limit = b.Term.S.Limit := congrArg (fun d : PaneD => d.Term.S.Limit) hab
 have e_Term_S_Back : a.Term.S.Back.xs.map RowR.dat = b.Term.S.Back.xs.map RowR.dat := congrArg (fun d : PaneD => d.Term.S.Back) hab
 refine enter 41 Tryz.func108 rfl Tryz.ntmps108 rfl rfl ?_
 have hs1 := St.init w
 refine WC.sr (WL.bx hs1 rfl (fun b2 _ hs3 => WL.bx hs3 rfl (fun b4 _ hs5 => WL.r 1 hs5 [] rfl (WL.nil (WC.seq (fun K6 hK6 => WC.r1 hs5 [1, 0] rfl (WC.condF rfl (by simp [e_Id, e_Cmd, e_Dir, e_Life, e_Code, e_Pid, e_Term_P_State, e_Term_P_Mark, e_Term_S_W, e_Term_S_H, e_Term_S_Main_W, e_Term_S_Main_H, e_Term_S_Alt_W, e_Term_S_Alt_H, e_Term_S_OnAlt, e_Term_S_X, e_Term_S_Y, e_Term_S_Wrap, e_Term_S_A_Fg, e_Term_S_A_Bg, e_Term_S_A_Bold, e_Term_S_A_Under, e_Term_S_A_Turn, e_Term_S_Top, e_Term_S_Bot, e_Term_S_NoWrap, e_Term_S_Hide, e_Term_S_SaveX, e_Term_S_SaveY, e_Term_S_SaveA_Fg, e_Term_S_SaveA_Bg, e_Term_S_SaveA_Bold, e_Term_S_SaveA_Under, e_Term_S_SaveA_Turn, e_Term_S_Limit]) ?_)))))))
 refine WC.skip (hK6 _ _ (WC.seq (fun K8 hK8 => WC.r1 hs5 [1, 0] rfl (WC.condF rfl (by simp [e_Id, e_Cmd, e_Dir, e_Life, e_Code, e_Pid, e_Term_P_State, e_Term_P_Mark, e_Term_S_W, e_Term_S_H, e_Term_S_Main_W, e_Term_S_Main_H, e_Term_S_Alt_W, e_Term_S_Alt_H, e_Term_S_OnAlt, e_Term_S_X, e_Term_S_Y, e_Term_S_Wrap, e_Term_S_A_Fg, e_Term_S_A_Bg, e_Term_S_A_Bold, e_Term_S_A_Under, e_Term_S_A_Turn, e_Term_S_Top, e_Term_S_Bot, e_Term_S_NoWrap, e_Term_S_Hide, e_Term_S_SaveX, e_Term_S_SaveY, e_Term_S_SaveA_Fg, e_Term_S_SaveA_Bg, e_Term_S_SaveA_Bold, e_Term_S_SaveA_Under, e_Term_S_SaveA_Turn, e_Term_S_Limit]) ?_))))
 refine WC.skip (hK8 _ _ (WC.seq (fun K10 hK10 => WC.r1 hs5 [1, 0] rfl (WC.condF rfl (by simp [e_Id, e_Cmd, e_Dir, e_Life, e_Code, e_Pid, e_Term_P_State, e_Term_P_Mark, e_Term_S_W, e_Term_S_H, e_Term_S_Main_W, e_Term_S_Main_H, e_Term_S_Alt_W, e_Term_S_Alt_H, e_Term_S_OnAlt, e_Term_S_X, e_Term_S_Y, e_Term_S_Wrap, e_Term_S_A_Fg, e_Term_S_A_Bg, e_Term_S_A_Bold, e_Term_S_A_Under, e_Term_S_A_Turn, e_Term_S_Top, e_Term_S_Bot, e_Term_S_NoWrap, e_Term_S_Hide, e_Term_S_SaveX, e_Term_S_SaveY, e_Term_S_SaveA_Fg, e_Term_S_SaveA_Bg, e_Term_S_SaveA_Bold, e_Term_S_SaveA_Under, e_Term_S_SaveA_Turn, e_Term_S_Limit]) ?_))))
 refine WC.skip (hK10 _ _ (WC.seq (fun K12 hK12 => WC.r1 hs5 [1, 0] rfl (WC.condF rfl (by simp [e_Id, e_Cmd, e_Dir, e_Life, e_Code, e_Pid, e_Term_P_State, e_Term_P_Mark, e_Term_S_W, e_Term_S_H, e_Term_S_Main_W, e_Term_S_Main_H, e_Term_S_Alt_W, e_Term_S_Alt_H, e_Term_S_OnAlt, e_Term_S_X, e_Term_S_Y, e_Term_S_Wrap, e_Term_S_A_Fg, e_Term_S_A_Bg, e_Term_S_A_Bold, e_Term_S_A_Under, e_Term_S_A_Turn, e_Term_S_Top, e_Term_S_Bot, e_Term_S_NoWrap, e_Term_S_Hide, e_Term_S_SaveX, e_Term_S_SaveY, e_Term_S_SaveA_Fg, e_Term_S_SaveA_Bg, e_Term_S_SaveA_Bold, e_Term_S_SaveA_Under, e_Term_S_SaveA_Turn, e_Term_S_Limit]) ?_))))
 refine WC.skip (hK12 _ _ (WC.seq (fun K14 hK14 => WC.r1 hs5 [1, 0] rfl (WC.condF rfl (by simp [e_Id, e_Cmd, e_Dir, e_Life, e_Code, e_Pid, e_Term_P_State, e_Term_P_Mark, e_Term_S_W, e_Term_S_H, e_Term_S_Main_W, e_Term_S_Main_H, e_Term_S_Alt_W, e_Term_S_Alt_H, e_Term_S_OnAlt, e_Term_S_X, e_Term_S_Y, e_Term_S_Wrap, e_Term_S_A_Fg, e_Term_S_A_Bg, e_Term_S_A_Bold, e_Term_S_A_Under, e_Term_S_A_Turn, e_Term_S_Top, e_Term_S_Bot, e_Term_S_NoWrap, e_Term_S_Hide, e_Term_S_SaveX, e_Term_S_SaveY, e_Term_S_SaveA_Fg, e_Term_S_SaveA_Bg, e_Term_S_SaveA_Bold, e_Term_S_SaveA_Under, e_Term_S_SaveA_Turn, e_Term_S_Limit]) ?_))))
 refine WC.skip (hK14 _ _ (WC.seq (fun K16 hK16 => WC.r1 hs5 [1, 0] rfl (WC.condF rfl (by simp [e_Id, e_Cmd, e_Dir, e_Life, e_Code, e_Pid, e_Term_P_State, e_Term_P_Mark, e_Term_S_W, e_Term_S_H, e_Term_S_Main_W, e_Term_S_Main_H, e_Term_S_Alt_W, e_Term_S_Alt_H, e_Term_S_OnAlt, e_Term_S_X, e_Term_S_Y, e_Term_S_Wrap, e_Term_S_A_Fg, e_Term_S_A_Bg, e_Term_S_A_Bold, e_Term_S_A_Under, e_Term_S_A_Turn, e_Term_S_Top, e_Term_S_Bot, e_Term_S_NoWrap, e_Term_S_Hide, e_Term_S_SaveX, e_Term_S_SaveY, e_Term_S_SaveA_Fg, e_Term_S_SaveA_Bg, e_Term_S_SaveA_Bold, e_Term_S_SaveA_Under, e_Term_S_SaveA_Turn, e_Term_S_Limit]) ?_))))
 refine WC.skip (hK16 _ _ (WC.seq (fun K18 hK18 => WC.sr (WL.r 4 hs5 [1, 0] rfl ?_))))
 refine WL.cl Tryz.call169 rfl (k162_ a.Term b.Term _ (okTermR.st0 f_a.Term hs5) (okTermR.st0 f_b.Term hs5) ?_) ?_
 · first | assumption | rfl | omega
 rintro _ whs19 ⟨rfl, hs19⟩
 replace hs19 := hs5.call0 hs19
 refine ⟨_, rfl, WL.r 1 hs19 [] rfl (WL.nil (WC.condF rfl (by simp [e_Id, e_Cmd, e_Dir, e_Life, e_Code, e_Pid, e_Term_P_State, e_Term_P_Mark, e_Term_S_W, e_Term_S_H, e_Term_S_Main_W, e_Term_S_Main_H, e_Term_S_Alt_W, e_Term_S_Alt_H, e_Term_S_OnAlt, e_Term_S_X, e_Term_S_Y, e_Term_S_Wrap, e_Term_S_A_Fg, e_Term_S_A_Bg, e_Term_S_A_Bold, e_Term_S_A_Under, e_Term_S_A_Turn, e_Term_S_Top, e_Term_S_Bot, e_Term_S_NoWrap, e_Term_S_Hide, e_Term_S_SaveX, e_Term_S_SaveY, e_Term_S_SaveA_Fg, e_Term_S_SaveA_Bg, e_Term_S_SaveA_Bold, e_Term_S_SaveA_Under, e_Term_S_SaveA_Turn, e_Term_S_Limit]) (WC.skip (hK18 _ _ ?_))))⟩
 refine WC.r1 hs19 [] rfl (WC.ret (rtv rfl rfl hs19 ?_))
 rfl
set_option maxHeartbeats 4000000 in
theorem k164_ (a : WinR) (b : WinR) (w : World) (f_a : okWinR 549755813888 w a) (f_b : okWinR 549755813888 w b) (hab : a.dat = b.dat) :
    Calls Tryz.prog 109 #[.agg #[i64 a.Id, .string a.Name, .slice a.Tree.A a.Tree.n a.Tree.c, i64 a.Active, .bool a.Zoom], .agg #[i64 b.Id, .string b.Name, .slice b.Tree.A b.Tree.n b.Tree.c, i64 b.Active, .bool b.Zoom]] w fun e w' => e = .returned (.bool true) ∧ St w [] [] w' := by
 have nz_a_Name := f_a.Name_z
 have nb_a_Tree := f_a.Tree_n
 have nl_a_Tree := f_a.Tree.len
 have nz_b_Name := f_b.Name_z
 have nb_b_Tree := f_b.Tree_n
 have nl_b_Tree := f_b.Tree.len
 have e_Id : a.Id = b.Id := congrArg (fun d : WinD => d.Id) hab
 have e_Name : a.Name = b.Name := congrArg (fun d : WinD => d.Name) hab
 have e_Tree : a.Tree.xs = b.Tree.xs := congrArg (fun d : WinD => d.Tree) hab
 have e_Active : a.Active = b.Active := congrArg (fun d : WinD => d.Active) hab
 have e_Zoom : a.Zoom = b.Zoom := congrArg (fun d : WinD => d.Zoom) hab
 refine enter 31 Tryz.func109 rfl Tryz.ntmps109 rfl rfl ?_
 have hs1 := St.init w
 refine WC.sr (WL.bx hs1 rfl (fun b2 _ hs3 => WL.bx hs3 rfl (fun b4 _ hs5 => WL.r 1 hs5 [] rfl (WL.nil (WC.seq (fun K6 hK6 => WC.r1 hs5 [1, 0] rfl (WC.condF rfl (by simp [e_Id, e_Name, e_Active, e_Zoom]) ?_)))))))
 refine WC.skip (hK6 _ _ (WC.seq (fun K8 hK8 => WC.r1 hs5 [1, 0] rfl (WC.condF rfl (by simp [e_Id, e_Name, e_Active, e_Zoom]) (WC.skip (hK8 _ _ (WC.seq (fun K10 hK10 => ?_))))))))
 refine WC.sr (WL.r 4 hs5 [1, 0] rfl (WL.cl Tryz.call170 rfl (k20_ _ _ _ _ _ _ _ _ _ (SlF.st0 f_a.Tree hs5) (SlF.st0 f_b.Tree hs5) ?_ ?_) ?_))
 iterate 2 first | assumption | rfl | omega
 rintro _ whs11 ⟨rfl, hs11⟩
 replace hs11 := hs5.call0 hs11
 refine ⟨_, rfl, WL.r 1 hs11 [] rfl (WL.nil (WC.condF rfl (by simp [e_Id, e_Name, e_Active, e_Zoom]) (WC.skip (hK10 _ _ (WC.seq (fun K13 hK13 => WC.r1 hs11 [1, 0] rfl ?_))))))⟩
 refine WC.condF rfl (by simp [e_Id, e_Name, e_Active, e_Zoom]) (WC.skip (hK13 _ _ (WC.seq (fun K15 hK15 => WC.r1 hs11 [1, 0] rfl (WC.condF rfl (by simp [e_Id, e_Name, e_Active, e_Zoom]) (WC.skip (hK15 _ _ ?_)))))))
 refine WC.r1 hs11 [] rfl (WC.ret (rtv rfl rfl hs11 ?_))
 rfl
set_option maxHeartbeats 4000000 in
theorem k165_ (a : SessR) (b : SessR) (w : World) (f_a : okSessR 549755813888 w a) (f_b : okSessR 549755813888 w b) (hab : a.dat = b.dat) :
    Calls Tryz.prog 110 #[.agg #[.string a.Name, .slice a.Wins.A a.Wins.n a.Wins.c, i64 a.Active], .agg #[.string b.Name, .slice b.Wins.A b.Wins.n b.Wins.c, i64 b.Active]] w fun e w' => e = .returned (.bool true) ∧ St w [] [] w' := by
 have nz_a_Name := f_a.Name_z
 have nb_a_Wins := f_a.Wins_n
 have nl_a_Wins := f_a.Wins.len
 have nz_b_Name := f_b.Name_z
 have nb_b_Wins := f_b.Wins_n
 have nl_b_Wins := f_b.Wins.len
 have e_Name : a.Name = b.Name := congrArg (fun d : SessD => d.Name) hab
 have e_Wins : a.Wins.xs = b.Wins.xs := congrArg (fun d : SessD => d.Wins) hab
 have e_Active : a.Active = b.Active := congrArg (fun d : SessD => d.Active) hab
 refine enter 21 Tryz.func110 rfl Tryz.ntmps110 rfl rfl ?_
 have hs1 := St.init w
 refine WC.sr (WL.bx hs1 rfl (fun b2 _ hs3 => WL.bx hs3 rfl (fun b4 _ hs5 => WL.r 1 hs5 [] rfl (WL.nil (WC.seq (fun K6 hK6 => WC.r1 hs5 [1, 0] rfl (WC.condF rfl (by simp [e_Name, e_Active]) ?_)))))))
 refine WC.skip (hK6 _ _ (WC.seq (fun K8 hK8 => WC.sr (WL.r 4 hs5 [1, 0] rfl ?_))))
 refine WL.cl Tryz.call171 rfl (k13_ _ _ _ _ _ _ _ _ _ (SlF.st0 f_a.Wins hs5) (SlF.st0 f_b.Wins hs5) ?_ ?_) ?_
 iterate 2 first | assumption | rfl | omega
 rintro _ whs9 ⟨rfl, hs9⟩
 replace hs9 := hs5.call0 hs9
 refine ⟨_, rfl, WL.r 1 hs9 [] rfl (WL.nil (WC.condF rfl (by simp [e_Name, e_Active]) (WC.skip (hK8 _ _ (WC.seq (fun K11 hK11 => WC.r1 hs9 [1, 0] rfl ?_))))))⟩
 refine WC.condF rfl (by simp [e_Name, e_Active]) (WC.skip (hK11 _ _ (WC.r1 hs9 [] rfl (WC.ret (rtv rfl rfl hs9 ?_)))))
 rfl
theorem k166_ (A_a : Option Addr) (n_a c_a : Nat) (a : List PaneR) (A_b : Option Addr) (n_b c_b : Nat) (b : List PaneR) (w : World) (f_a : SlN encPaneR (okPaneR 549755813888) w A_a n_a a) (f_b : SlN encPaneR (okPaneR 549755813888) w A_b n_b b) (hn : n_a ≤ 549755813888) (hab : a.map PaneR.dat = b.map PaneR.dat) :
    Calls Tryz.prog 48 #[.slice A_a n_a c_a, .slice A_b n_b c_b] w fun e w' => e = .returned (.bool true) ∧ St w [] [] w' := by
 have hla := f_a.sl.len
 obtain rfl : n_a = n_b := by have h9 := congrArg List.length hab; simp only [List.length_map] at h9; rw [← hla, h9]; exact f_b.sl.len
 refine enter 27 Tryz.func48 rfl Tryz.ntmps48 rfl rfl ?_
 have hs1 := St.init w
 refine WC.r1 hs1 [] rfl (WC.seq (fun K2 hK2 => WC.r1 hs1 [] rfl (WC.condF rfl (by simp) (WC.skip (hK2 _ _ (WC.seq (fun K4 hK4 => WC.r1 hs1 [] rfl ?_)))))))
 refine WC.block (WC.lS [0, 1, 10] rfl hs1 (fun k_ f w' => ∃ (i : Nat), k_ = n_a - i ∧ (i ≤ n_a) ∧ Sub [(5, .int .i64 i)] f) ((fun (i : Nat) => n_a - i) (0)) ?_ ?_)
 ·refine ⟨0, rfl, ?_, ⟨rfl, trivial⟩⟩
  · exact Nat.zero_le _
 clear hs1
 rintro _ f w ⟨i, rfl, p0, hG⟩ hF hs5
 refine WC.sub _ (hG.app hF) ?_
 clear hG hF
 refine WC.seq (fun K6 hK6 => WC.r1 hs5 [] rfl ?_)
 refine WC.cD rfl (fun qh7 => ?_) (fun qh7 => ?_)
 ·have hab_ := gat_dat (F := encPaneR) (i := i) hab (by omega)
  refine WC.skip (hK6 _ _ (WC.seq (fun K8 hK8 => WC.block (WC.sq1 hs5 (WQ.r 2 [] rfl ?_)))))
  refine WQ.val rfl rfl rfl (fun w_ hs_ => (Run.idxN Tryz.runUnderlying29 Tryz.sizeOf93 rfl rfl rfl ?_ ?_ ?_)) ?_
  · exact SlF.some_ (SlF.st0 f_a.sl (hs_ : St _ _ _ _))
  · omega
  · omega
  refine WQ.val rfl rfl rfl (fun w_ hs_ => (Run.loadA Tryz.isAgg93 Tryz.sizeOf93 rfl rfl (SlF.whole (SlF.st0 f_a.sl (hs_ : St _ _ _ _)) ?_))) ?_
  · omega
  refine WQ.r 2 [] rfl ?_
  refine WQ.val rfl rfl rfl (fun w_ hs_ => (Run.idxN Tryz.runUnderlying29 Tryz.sizeOf93 rfl rfl rfl ?_ ?_ ?_)) ?_
  · exact SlF.some_ (SlF.st0 f_b.sl (hs_ : St _ _ _ _))
  · omega
  · omega
  refine WQ.val rfl rfl rfl (fun w_ hs_ => (Run.loadA Tryz.isAgg93 Tryz.sizeOf93 rfl rfl (SlF.whole (SlF.st0 f_b.sl (hs_ : St _ _ _ _)) ?_))) ?_
  · omega
  refine WQ.call rfl rfl rfl (fun w_ hs_ => (Run.call Tryz.call108 rfl rfl rfl)) (fun w_ hs_ => (k163_ (gat encPaneR a i) (gat encPaneR b i) _ (okPaneR.st0 (SlN.nth f_a (by omega)) (hs_ : St _ _ _ _)) (okPaneR.st0 (SlN.nth f_b (by omega)) (hs_ : St _ _ _ _)) ?_).mono fun e_ w_ h_ => ⟨h_.1, (hs_ : St _ _ _ _).call0 h_.2⟩) ?_
  · first | assumption | rfl | omega
  refine WQ.r 1 [] rfl (WQ.nil (fun _ (hs9 : St _ _ _ _) => WC.condF rfl (by simp) (WC.skip (hK8 _ _ (WC.region (WL.r 3 hs9 [] rfl (WL.nil ?_)))))))
  refine tkN (⟨sbF rfl, hs9, _, ?_, i + 1, rfl, ?_, ⟨rfl, trivial⟩⟩)
  · omega
  · omega
 refine WC.exit (hK4 _ _ (WC.r1 hs5 [] rfl (WC.ret (rtv rfl rfl hs5 ?_))))
 rfl
theorem k167_ (A_a : Option Addr) (n_a c_a : Nat) (a : List WinR) (A_b : Option Addr) (n_b c_b : Nat) (b : List WinR) (w : World) (f_a : SlN encWinR (okWinR 549755813888) w A_a n_a a) (f_b : SlN encWinR (okWinR 549755813888) w A_b n_b b) (hn : n_a ≤ 549755813888) (hab : a.map WinR.dat = b.map WinR.dat) :
    Calls Tryz.prog 49 #[.slice A_a n_a c_a, .slice A_b n_b c_b] w fun e w' => e = .returned (.bool true) ∧ St w [] [] w' := by
 have hla := f_a.sl.len
 obtain rfl : n_a = n_b := by have h9 := congrArg List.length hab; simp only [List.length_map] at h9; rw [← hla, h9]; exact f_b.sl.len
 refine enter 27 Tryz.func49 rfl Tryz.ntmps49 rfl rfl ?_
 have hs1 := St.init w
 refine WC.r1 hs1 [] rfl (WC.seq (fun K2 hK2 => WC.r1 hs1 [] rfl (WC.condF rfl (by simp) (WC.skip (hK2 _ _ (WC.seq (fun K4 hK4 => WC.r1 hs1 [] rfl ?_)))))))
 refine WC.block (WC.lS [0, 1, 10] rfl hs1 (fun k_ f w' => ∃ (i : Nat), k_ = n_a - i ∧ (i ≤ n_a) ∧ Sub [(5, .int .i64 i)] f) ((fun (i : Nat) => n_a - i) (0)) ?_ ?_)
 ·refine ⟨0, rfl, ?_, ⟨rfl, trivial⟩⟩
  · exact Nat.zero_le _
 clear hs1
 rintro _ f w ⟨i, rfl, p0, hG⟩ hF hs5
 refine WC.sub _ (hG.app hF) ?_
 clear hG hF
 refine WC.seq (fun K6 hK6 => WC.r1 hs5 [] rfl ?_)
 refine WC.cD rfl (fun qh7 => ?_) (fun qh7 => ?_)
 ·have hab_ := gat_dat (F := encWinR) (i := i) hab (by omega)
  refine WC.skip (hK6 _ _ (WC.seq (fun K8 hK8 => WC.block (WC.sq1 hs5 (WQ.r 2 [] rfl ?_)))))
  refine WQ.val rfl rfl rfl (fun w_ hs_ => (Run.idxN Tryz.runUnderlying30 Tryz.sizeOf58 rfl rfl rfl ?_ ?_ ?_)) ?_
  · exact SlF.some_ (SlF.st0 f_a.sl (hs_ : St _ _ _ _))
  · omega
  · omega
  refine WQ.val rfl rfl rfl (fun w_ hs_ => (Run.loadA Tryz.isAgg58 Tryz.sizeOf58 rfl rfl (SlF.whole (SlF.st0 f_a.sl (hs_ : St _ _ _ _)) ?_))) ?_
  · omega
  refine WQ.r 2 [] rfl ?_
  refine WQ.val rfl rfl rfl (fun w_ hs_ => (Run.idxN Tryz.runUnderlying30 Tryz.sizeOf58 rfl rfl rfl ?_ ?_ ?_)) ?_
  · exact SlF.some_ (SlF.st0 f_b.sl (hs_ : St _ _ _ _))
  · omega
  · omega
  refine WQ.val rfl rfl rfl (fun w_ hs_ => (Run.loadA Tryz.isAgg58 Tryz.sizeOf58 rfl rfl (SlF.whole (SlF.st0 f_b.sl (hs_ : St _ _ _ _)) ?_))) ?_
  · omega
  refine WQ.call rfl rfl rfl (fun w_ hs_ => (Run.call Tryz.call109 rfl rfl rfl)) (fun w_ hs_ => (k164_ (gat encWinR a i) (gat encWinR b i) _ (okWinR.st0 (SlN.nth f_a (by omega)) (hs_ : St _ _ _ _)) (okWinR.st0 (SlN.nth f_b (by omega)) (hs_ : St _ _ _ _)) ?_).mono fun e_ w_ h_ => ⟨h_.1, (hs_ : St _ _ _ _).call0 h_.2⟩) ?_
  · first | assumption | rfl | omega
  refine WQ.r 1 [] rfl (WQ.nil (fun _ (hs9 : St _ _ _ _) => WC.condF rfl (by simp) (WC.skip (hK8 _ _ (WC.region (WL.r 3 hs9 [] rfl (WL.nil ?_)))))))
  refine tkN (⟨sbF rfl, hs9, _, ?_, i + 1, rfl, ?_, ⟨rfl, trivial⟩⟩)
  · omega
  · omega
 refine WC.exit (hK4 _ _ (WC.r1 hs5 [] rfl (WC.ret (rtv rfl rfl hs5 ?_))))
 rfl
theorem k168_ (A_a : Option Addr) (n_a c_a : Nat) (a : List SessR) (A_b : Option Addr) (n_b c_b : Nat) (b : List SessR) (w : World) (f_a : SlN encSessR (okSessR 549755813888) w A_a n_a a) (f_b : SlN encSessR (okSessR 549755813888) w A_b n_b b) (hn : n_a ≤ 549755813888) (hab : a.map SessR.dat = b.map SessR.dat) :
    Calls Tryz.prog 50 #[.slice A_a n_a c_a, .slice A_b n_b c_b] w fun e w' => e = .returned (.bool true) ∧ St w [] [] w' := by
 have hla := f_a.sl.len
 obtain rfl : n_a = n_b := by have h9 := congrArg List.length hab; simp only [List.length_map] at h9; rw [← hla, h9]; exact f_b.sl.len
 refine enter 27 Tryz.func50 rfl Tryz.ntmps50 rfl rfl ?_
 have hs1 := St.init w
 refine WC.r1 hs1 [] rfl (WC.seq (fun K2 hK2 => WC.r1 hs1 [] rfl (WC.condF rfl (by simp) (WC.skip (hK2 _ _ (WC.seq (fun K4 hK4 => WC.r1 hs1 [] rfl ?_)))))))
 refine WC.block (WC.lS [0, 1, 10] rfl hs1 (fun k_ f w' => ∃ (i : Nat), k_ = n_a - i ∧ (i ≤ n_a) ∧ Sub [(5, .int .i64 i)] f) ((fun (i : Nat) => n_a - i) (0)) ?_ ?_)
 ·refine ⟨0, rfl, ?_, ⟨rfl, trivial⟩⟩
  · exact Nat.zero_le _
 clear hs1
 rintro _ f w ⟨i, rfl, p0, hG⟩ hF hs5
 refine WC.sub _ (hG.app hF) ?_
 clear hG hF
 refine WC.seq (fun K6 hK6 => WC.r1 hs5 [] rfl ?_)
 refine WC.cD rfl (fun qh7 => ?_) (fun qh7 => ?_)
 ·have hab_ := gat_dat (F := encSessR) (i := i) hab (by omega)
  refine WC.skip (hK6 _ _ (WC.seq (fun K8 hK8 => WC.block (WC.sq1 hs5 (WQ.r 2 [] rfl ?_)))))
  refine WQ.val rfl rfl rfl (fun w_ hs_ => (Run.idxN Tryz.runUnderlying31 Tryz.sizeOf106 rfl rfl rfl ?_ ?_ ?_)) ?_
  · exact SlF.some_ (SlF.st0 f_a.sl (hs_ : St _ _ _ _))
  · omega
  · omega
  refine WQ.val rfl rfl rfl (fun w_ hs_ => (Run.loadA Tryz.isAgg106 Tryz.sizeOf106 rfl rfl (SlF.whole (SlF.st0 f_a.sl (hs_ : St _ _ _ _)) ?_))) ?_
  · omega
  refine WQ.r 2 [] rfl ?_
  refine WQ.val rfl rfl rfl (fun w_ hs_ => (Run.idxN Tryz.runUnderlying31 Tryz.sizeOf106 rfl rfl rfl ?_ ?_ ?_)) ?_
  · exact SlF.some_ (SlF.st0 f_b.sl (hs_ : St _ _ _ _))
  · omega
  · omega
  refine WQ.val rfl rfl rfl (fun w_ hs_ => (Run.loadA Tryz.isAgg106 Tryz.sizeOf106 rfl rfl (SlF.whole (SlF.st0 f_b.sl (hs_ : St _ _ _ _)) ?_))) ?_
  · omega
  refine WQ.call rfl rfl rfl (fun w_ hs_ => (Run.call Tryz.call110 rfl rfl rfl)) (fun w_ hs_ => (k165_ (gat encSessR a i) (gat encSessR b i) _ (okSessR.st0 (SlN.nth f_a (by omega)) (hs_ : St _ _ _ _)) (okSessR.st0 (SlN.nth f_b (by omega)) (hs_ : St _ _ _ _)) ?_).mono fun e_ w_ h_ => ⟨h_.1, (hs_ : St _ _ _ _).call0 h_.2⟩) ?_
  · first | assumption | rfl | omega
  refine WQ.r 1 [] rfl (WQ.nil (fun _ (hs9 : St _ _ _ _) => WC.condF rfl (by simp) (WC.skip (hK8 _ _ (WC.region (WL.r 3 hs9 [] rfl (WL.nil ?_)))))))
  refine tkN (⟨sbF rfl, hs9, _, ?_, i + 1, rfl, ?_, ⟨rfl, trivial⟩⟩)
  · omega
  · omega
 refine WC.exit (hK4 _ _ (WC.r1 hs5 [] rfl (WC.ret (rtv rfl rfl hs5 ?_))))
 rfl
set_option maxHeartbeats 4000000 in
theorem k169_ (a : StateR) (b : StateR) (w : World) (f_a : okStateR 549755813888 w a) (f_b : okStateR 549755813888 w b) (hab : a.dat = b.dat) :
    Calls Tryz.prog 15 #[.agg #[i64 a.W, i64 a.H, i64 a.Limit, i64 a.Next, .slice a.Panes.A a.Panes.n a.Panes.c, .slice a.Wins.A a.Wins.n a.Wins.c, .slice a.Sess.A a.Sess.n a.Sess.c], .agg #[i64 b.W, i64 b.H, i64 b.Limit, i64 b.Next, .slice b.Panes.A b.Panes.n b.Panes.c, .slice b.Wins.A b.Wins.n b.Wins.c, .slice b.Sess.A b.Sess.n b.Sess.c]] w fun e w' => e = .returned (.bool true) ∧ St w [] [] w' := by
 have nb_a_Panes := f_a.Panes_n
 have nl_a_Panes := f_a.Panes.sl.len
 have nb_a_Wins := f_a.Wins_n
 have nl_a_Wins := f_a.Wins.sl.len
 have nb_a_Sess := f_a.Sess_n
 have nl_a_Sess := f_a.Sess.sl.len
 have nb_b_Panes := f_b.Panes_n
 have nl_b_Panes := f_b.Panes.sl.len
 have nb_b_Wins := f_b.Wins_n
 have nl_b_Wins := f_b.Wins.sl.len
 have nb_b_Sess := f_b.Sess_n
 have nl_b_Sess := f_b.Sess.sl.len
 have e_W : a.W = b.W := congrArg (fun d : StateD => d.W) hab
 have e_H : a.H = b.H := congrArg (fun d : StateD => d.H) hab
 have e_Limit : a.Limit = b.Limit := congrArg (fun d : StateD => d.Limit) hab
 have e_Next : a.Next = b.Next := congrArg (fun d : StateD => d.Next) hab
 have e_Panes : a.Panes.xs.map PaneR.dat = b.Panes.xs.map PaneR.dat := congrArg (fun d : StateD => d.Panes) hab
 have e_Wins : a.Wins.xs.map WinR.dat = b.Wins.xs.map WinR.dat := congrArg (fun d : StateD => d.Wins) hab
 have e_Sess : a.Sess.xs.map SessR.dat = b.Sess.xs.map SessR.dat := congrArg (fun d : StateD => d.Sess) hab
 refine enter 43 Tryz.func15 rfl Tryz.ntmps15 rfl rfl ?_
 have hs1 := St.init w
 refine WC.sr (WL.bx hs1 rfl (fun b2 _ hs3 => WL.bx hs3 rfl (fun b4 _ hs5 => WL.r 1 hs5 [] rfl (WL.nil (WC.seq (fun K6 hK6 => WC.r1 hs5 [1, 0] rfl (WC.condF rfl (by simp [e_W, e_H, e_Limit, e_Next]) ?_)))))))
 refine WC.skip (hK6 _ _ (WC.seq (fun K8 hK8 => WC.r1 hs5 [1, 0] rfl (WC.condF rfl (by simp [e_W, e_H, e_Limit, e_Next]) (WC.skip (hK8 _ _ (WC.seq (fun K10 hK10 => ?_))))))))
 refine WC.r1 hs5 [1, 0] rfl (WC.condF rfl (by simp [e_W, e_H, e_Limit, e_Next]) (WC.skip (hK10 _ _ (WC.seq (fun K12 hK12 => WC.r1 hs5 [1, 0] rfl (WC.condF rfl (by simp [e_W, e_H, e_Limit, e_Next]) (WC.skip ?_)))))))
 refine hK12 _ _ (WC.seq (fun K14 hK14 => WC.sr (WL.r 4 hs5 [1, 0] rfl ?_)))
 refine WL.cl Tryz.call48 rfl (k166_ _ _ _ _ _ _ _ _ _ (SlN.st0 okPaneR.st0 f_a.Panes hs5) (SlN.st0 okPaneR.st0 f_b.Panes hs5) ?_ ?_) ?_
 iterate 2 first | assumption | rfl | omega
 rintro _ whs15 ⟨rfl, hs15⟩
 replace hs15 := hs5.call0 hs15
 refine ⟨_, rfl, WL.r 1 hs15 [] rfl (WL.nil (WC.condF rfl (by simp [e_W, e_H, e_Limit, e_Next]) (WC.skip (hK14 _ _ (WC.seq (fun K17 hK17 => WC.sr ?_))))))⟩
 refine WL.r 4 hs15 [1, 0] rfl (WL.cl Tryz.call49 rfl (k167_ _ _ _ _ _ _ _ _ _ (SlN.st0 okWinR.st0 f_a.Wins hs15) (SlN.st0 okWinR.st0 f_b.Wins hs15) ?_ ?_) ?_)
 iterate 2 first | assumption | rfl | omega
 rintro _ whs18 ⟨rfl, hs18⟩
 replace hs18 := hs15.call0 hs18
 refine ⟨_, rfl, WL.r 1 hs18 [] rfl (WL.nil (WC.condF rfl (by simp [e_W, e_H, e_Limit, e_Next]) (WC.skip (hK17 _ _ (WC.seq (fun K20 hK20 => WC.sr ?_))))))⟩
 refine WL.r 4 hs18 [1, 0] rfl (WL.cl Tryz.call50 rfl (k168_ _ _ _ _ _ _ _ _ _ (SlN.st0 okSessR.st0 f_a.Sess hs18) (SlN.st0 okSessR.st0 f_b.Sess hs18) ?_ ?_) ?_)
 iterate 2 first | assumption | rfl | omega
 rintro _ whs21 ⟨rfl, hs21⟩
 replace hs21 := hs18.call0 hs21
 refine ⟨_, rfl, WL.r 1 hs21 [] rfl (WL.nil (WC.condF rfl (by simp [e_W, e_H, e_Limit, e_Next]) (WC.skip (hK20 _ _ (WC.r1 hs21 [] rfl (WC.ret ?_))))))⟩
 refine rtv rfl rfl hs21 ?_
 rfl
theorem digB_zero (f : Nat) (a : List UInt8) : digB f 0 a = a := by
 cases f with
 | zero => rfl
 | succ f => unfold digB; rw [if_pos rfl]
theorem digB_step {f n : Nat} {a : List UInt8} (h : n < 10 ^ f) (h0 : 0 < n) : n / 10 < 10 ^ (f - 1) ∧ digB f n a = digB (f - 1) (n / 10) (ub (48 + ((n % 10 : Nat) : Int)) :: a) := by
 cases f with
 | zero => rw [Nat.pow_zero] at h; omega
 | succ f =>
  rw [Nat.add_sub_cancel]
  refine ⟨?_, ?_⟩
  ·rw [Nat.pow_succ] at h
   omega
  ·rw [digB, if_neg (by omega)]
theorem digB_room {f n : Nat} {a : List UInt8} {b : UInt8} (h : n < 10 ^ f) (h0 : 0 < n) (hl : a.length + f ≤ 40) : (b :: a).length + (f - 1) ≤ 40 := by
 cases f with
 | zero => rw [Nat.pow_zero] at h; omega
 | succ f => rw [List.length_cons]; omega
theorem nthL_eq : ∀ (L : Hp) (i : Nat), nthL L i = L[i]?
 | [], _ => rfl
 | _ :: _, 0 => rfl
 | _ :: L, i + 1 => (nthL_eq L i).trans (by simp)
section
variable {P : Program} {w0 w : World} {T : List Nat} {L : Hp} {n : Nat} {ol : List Oper} {o : Oper} {rest : List Oper} {f : Fr} {d : Nat} {K : Fr → World → Prop}
theorem St.neq (h : St w0 T L w) {i j : Nat} {p q : Nat × Obj} (hi : nthL L i = some p) (hj : nthL L j = some q) (hij : i ≠ j) : p.1 ≠ q.1 := by
 intro he
 rw [nthL_eq] at hi hj
 have h1 : (L.map (·.1))[i]? = some p.1 := by rw [List.getElem?_map, hi]; rfl
 have h2 : (L.map (·.1))[j]? = some q.1 := by rw [List.getElem?_map, hj]; rfl
 exact hij ((List.getElem?_inj (List.getElem?_eq_some_iff.1 h1).1 h.nodup).1 (h1.trans (he ▸ h2.symm)))
end
def BM (es : Array MapEntry) (q : Int → Bool) : Prop :=
 (∀ x ∈ es.toList, ∃ n v, x.key = .int .i64 n ∧ x.val = .bool v ∧ q n = v) ∧ (∀ n, q n = true → ∃ x ∈ es.toList, x.key = .int .i64 n)
theorem BM.nil : BM #[] (fun _ => false) := ⟨by simp, by simp⟩
theorem BM.keys {es : Array MapEntry} {q : Int → Bool} (h : BM es q) : ∀ x ∈ es.toList, MapKept.IsKey (.int .i64) x.key := by
 intro x hx
 obtain ⟨n, v, hk, _, _⟩ := h.1 x hx
 rw [hk]; rfl
theorem BM.put {es : Array MapEntry} {q : Int → Bool} (h : BM es q) {n : Int} {v : Bool} {clock : Nat} (hn : ∀ x ∈ es.toList, x.key ≠ .int .i64 n) : BM (es.push { key := .int .i64 n, val := .bool v, born := clock }) (fun m => if m = n then v else q m) := by
 refine ⟨fun x hx => ?_, fun m hm => ?_⟩
 ·simp only [Array.toList_push, List.mem_append, List.mem_singleton] at hx
  rcases hx with hx | rfl
  ·obtain ⟨m, u, hk, hv, hq⟩ := h.1 x hx
   refine ⟨m, u, hk, hv, ?_⟩
   show (if m = n then v else q m) = u
   rw [if_neg (fun e => hn x hx (by rw [hk, e]))]; exact hq
  ·exact ⟨n, v, rfl, rfl, by simp⟩
 ·by_cases he : m = n
  ·subst he
   exact ⟨{ key := .int .i64 m, val := .bool v, born := clock }, by simp, rfl⟩
  ·simp only [if_neg he] at hm
   obtain ⟨x, hx, hk⟩ := h.2 m hm
   exact ⟨x, by simp [hx], hk⟩
theorem BM.set {es : Array MapEntry} {q : Int → Bool} (h : BM es q) {n : Int} {v : Bool} {j : Nat} {e : MapEntry} (hj : es[j]? = some e) (hk : e.key = .int .i64 n) (hu : (es.toList.map (·.key)).Nodup) : BM (es.modify j fun e => { e with key := .int .i64 n, val := .bool v }) (fun m => if m = n then v else q m) := by
 have hmem : ∀ x, x ∈ (es.modify j fun e => { e with key := .int .i64 n, val := .bool v }).toList ↔ ∃ i y, es[i]? = some y ∧ x = if i = j then { y with key := .int .i64 n, val := .bool v } else y := by
  intro x
  rw [Array.mem_toList_iff, Array.mem_iff_getElem?]
  constructor
  ·rintro ⟨i, hi⟩
   rw [Array.getElem?_modify] at hi
   by_cases hij : j = i
   ·rw [if_pos hij] at hi
    obtain ⟨y, hy, rfl⟩ := Option.map_eq_some_iff.1 hi
    exact ⟨i, y, hy, by rw [if_pos hij.symm]⟩
   ·rw [if_neg hij] at hi
    exact ⟨i, x, hi, by rw [if_neg (fun h => hij h.symm)]⟩
  ·rintro ⟨i, y, hy, rfl⟩
   refine ⟨i, ?_⟩
   rw [Array.getElem?_modify]
   by_cases hij : j = i
   ·subst hij; rw [if_pos rfl, hy, if_pos rfl]; rfl
   ·rw [if_neg hij, hy, if_neg (fun h => hij h.symm)]
 have huniq : ∀ (i : Nat) (y : MapEntry), es[i]? = some y → y.key = .int .i64 n → i = j := by
  intro i y hy hky
  have e1 : (es.toList.map (·.key))[i]? = some (.int .i64 n) := by rw [List.getElem?_map, Array.getElem?_toList, hy, ← hky]; rfl
  have e2 : (es.toList.map (·.key))[j]? = some (.int .i64 n) := by rw [List.getElem?_map, Array.getElem?_toList, hj, ← hk]; rfl
  exact (List.getElem?_inj (List.getElem?_eq_some_iff.1 e1).1 hu).1 (e1.trans e2.symm)
 refine ⟨fun x hx => ?_, fun m hm => ?_⟩
 ·obtain ⟨i, y, hy, rfl⟩ := (hmem x).1 hx
  by_cases hij : i = j
  ·rw [if_pos hij]; exact ⟨n, v, rfl, rfl, by simp⟩
  ·rw [if_neg hij]
   obtain ⟨m, u, hk', hv, hq⟩ := h.1 y (by rw [← Array.getElem?_toList] at hy; exact List.mem_of_getElem? hy)
   refine ⟨m, u, hk', hv, ?_⟩
   show (if m = n then v else q m) = u
   rw [if_neg (fun he => hij (huniq i y hy (by rw [hk', he])))]; exact hq
 ·by_cases he : m = n
  ·subst he
   exact ⟨_, (hmem _).2 ⟨j, e, hj, rfl⟩, by rw [if_pos rfl]⟩
  ·simp only [if_neg he] at hm
   obtain ⟨x, hx, hkx⟩ := h.2 m hm
   obtain ⟨i, hi⟩ := List.mem_iff_getElem?.1 hx
   rw [Array.getElem?_toList] at hi
   by_cases hij : i = j
   ·subst hij
    rw [hj] at hi; cases hi
    rw [hk] at hkx; cases hkx; exact absurd rfl he
   ·exact ⟨x, (hmem x).2 ⟨i, x, hi, by rw [if_neg hij]⟩, hkx⟩
section
variable {P : Program} {w0 w : World} {T : List Nat} {L : Hp} {n : Nat} {ol : List Oper} {o : Oper} {rest : List Oper} {f : Fr} {d : Nat} {K : Fr → World → Prop}
theorem Run.addS {t t' : TypeId} {x y : Operand} {a b : ByteArray} (ho : o.op = .binOp .add t x y t') (hx : ev f x = some (.string a)) (hy : ev f y = some (.string b)) (hb : a.size + b.size ≤ 9223372036854775807) : Run P o f w (.value (.string (a ++ b))) w := fun ρ hρ => by
 have h : ¬ (((a.size + b.size : Nat) : Int) > IntKind.i64.max) := by
  have e : IntKind.i64.max = 9223372036854775807 := rfl
  rw [e]; omega
 simp only [Int.natCast_add] at h
 simp [execOp, ho, hρ _ _ hx, hρ _ _ hy, eqGuard, binOp, Op.stringOp, h]
 omega
end
theorem k170_ (k : Int) (w : World) (hk : k ≤ 1099511627776) :
    Calls Tryz.prog 127 #[i64 k] w fun e w' => e = .returned (.string (markText k)) ∧ St w [] [] w' := by
 refine enter 20 Tryz.func127 rfl Tryz.ntmps127 rfl rfl ?_
 have hs1 := St.init w
 refine WC.r1 hs1 [] rfl (WC.seq (fun K2 hK2 => WC.r1 hs1 [] rfl ?_))
 refine WC.cD rfl (fun qh3 => ?_) (fun qh3 => ?_)
 ·refine WC.r1 hs1 [] rfl (WC.ret (tkR ?_))
  clear hK2
  refine rtv rfl rfl hs1 ?_
  rw [show markText k = ⟨#[109, 48]⟩ from by unfold markText; rw [if_pos (by omega)]]
 refine WC.skip (hK2 _ _ (WC.r1 hs1 [] rfl (WC.seq (fun K4 hK4 => WC.block ?_))))
 refine WC.lS [2, 5] rfl hs1 (fun k_ f w' => ∃ (d n : Nat) (z : List UInt8), k_ = n + n ∧ (n < 10 ^ d) ∧ (digB 40 k.toNat [] = digB d n z) ∧ (z.length + d ≤ 40) ∧ (n ≤ 1099511627776) ∧ Sub [(0, .int .i64 (n : Int)), (3, .string ⟨z.toArray⟩)] f) ((fun (d n : Nat) (z : List UInt8) => n + n) (40) (k.toNat) ([])) ?_ ?_
 ·refine ⟨40, k.toNat, [], rfl, ?_, ?_, ?_, ?_, ⟨?_, ?_, trivial⟩⟩
  · exact Nat.lt_of_le_of_lt (by omega : k.toNat ≤ 1099511627776) (by decide)
  · rfl
  · exact Nat.le_refl _
  · omega
  · (refine congrArg some (congrArg (Value.int _) ?_); omega)
  · rfl
 clear hs1
 rintro _ f w ⟨d, n, z, rfl, p0, p1, p2, p3, hG⟩ hF hs5
 refine WC.sub _ (hG.app hF) ?_
 clear hG hF
 refine WC.seq (fun K6 hK6 => WC.r1 hs5 [] rfl ?_)
 refine WC.cD rfl (fun qh7 => ?_) (fun qh7 => ?_)
 ·refine WC.skip (hK6 _ _ (WC.block (WC.sr (WL.r 1 hs5 [] rfl ?_))))
  refine WL.val rfl rfl rfl (Run.rem rfl rfl rfl ?_ ?_) ?_
  · omega
  · omega
  refine WL.r 2 hs5 [] rfl (WL.buildSlice hs5 Tryz.runUnderlying44 Tryz.sizeOf5 Tryz.zeroValue5 rfl rfl rfl rfl rfl rfl rfl rfl rfl rfl (fun b8 whs9 hs9 => WL.val rfl rfl rfl (Run.strOf (SlF.own1 (hs9.own _ (nthL_mem (i := 0) rfl)).1) Tryz.underlying44 Tryz.underlying5 Tryz.underlying9 rfl rfl) (WL.r 1 hs9 [] rfl ?_)))
  refine WL.val rfl rfl rfl (Run.addS rfl rfl rfl ?_) ?_
  · (show List.length _ + List.length _ ≤ _; simp; omega)
  refine WL.r 1 hs9 [] rfl (WL.nil (WC.region (WL.r 1 hs9 [] rfl (WL.val rfl rfl rfl (Run.quo rfl rfl rfl ?_ ?_ ?_) ?_))))
  · omega
  · omega
  · omega
  refine WL.r 1 hs9 [] rfl (WL.nil (ibN (tkN (⟨sbF rfl, (hs9.drop (by repeat (first | exact List.Sublist.refl _ | exact List.sublist_append_left _ _ | exact List.Sublist.trans (List.sublist_append_left _ _) (List.sublist_append_left _ _) | apply List.Sublist.cons | refine List.Sublist.trans ?_ (sR _)))), _, ?_, (d - 1), (n / 10), (ub (48 + ((n % 10 : Nat) : Int)) :: z), rfl, ?_, ?_, ?_, ?_, ⟨?_, ?_, trivial⟩⟩))))
  · omega
  · exact (digB_step (f := d) (n := n) (a := z) p0 (by omega)).1
  · exact p1.trans (digB_step (f := d) (n := n) (a := z) p0 (by omega)).2
  · exact digB_room p0 (by omega) p2
  · omega
  · (refine congrArg some (congrArg (Value.int _) ?_); omega)
  · (refine congrArg some (congrArg Value.string ?_); first | rfl | exact ByteArray.ext (by simp))
 refine WC.exit (hK4 _ _ (WC.sr (WL.r 1 hs5 [] rfl ?_)))
 refine WL.val rfl rfl rfl (Run.addS rfl rfl rfl ?_) ?_
 · (show List.length _ + List.length _ ≤ _; simp; omega)
 refine WL.r 1 hs5 [] rfl (WL.nil (WC.ret (rtv rfl rfl hs5 ?_)))
 rw [show markText k = ⟨(109 :: z).toArray⟩ from by unfold markText; rw [if_neg (by omega), p1, show n = 0 by omega, digB_zero]]; first | rfl | (congr 1; exact ByteArray.ext (by simp))
theorem k171_ (v_a : Value) (a : List UInt8) (L_a : Hp) (k : Int) (w : World) (o_a : OwnF encB 5 v_a a L_a) (h_a : Hh w L_a) (h1 : 0 ≤ k) (h2 : k ≤ 1099511627776) (h3 : a.length ≤ 1099511627776) :
    Calls Tryz.prog 27 #[v_a, i64 k] w fun e w' => ∃ L1, e = .returned (.int .i64 (k + 1 * a.length)) ∧ St w (L_a.map (·.1)) L1 w' ∧ OwnF encB 5 v_a (marks ub 1 k a.length) L1 := by
 obtain ⟨A_a, c_a, rfl⟩ := o_a.shape
 refine enter 20 Tryz.func27 rfl Tryz.ntmps27 rfl rfl ?_
 have hs1 := St.lent1 w L_a o_a h_a
 refine WC.r1 hs1 [] rfl (WC.seq (fun K2 hK2 => WC.r1 hs1 [] rfl (WC.block ?_)))
 refine WC.lO [4] rfl hs1 (fun k_ f L_ => ∃ (i : Nat) (q : Int), k_ = a.length - i ∧ (i ≤ a.length) ∧ (q = k + 1 * i) ∧ OwnF encB 5 (.slice A_a (a.length) c_a) (fillM ub 1 k a i) L_ ∧ Sub [(0, .slice A_a (a.length) c_a), (5, .int .i64 i), (1, .int .i64 q)] f) (((fun (i : Nat) (q : Int) => a.length - i) (0) (k))) ?_ ?_
 ·refine ⟨0, k, rfl, ?_, ?_, (fillM_zero.symm ▸ o_a), ⟨rfl, rfl, rfl, trivial⟩⟩
  · exact Nat.zero_le _
  · simp
 clear hs1
 rintro _ f w L5 ⟨i, q, rfl, p0, p1, ho6, hG⟩ hF hs7
 refine WC.sub _ (hG.app hF) ?_
 clear hG hF
 have hfl : (fillM ub 1 k a i).length = a.length := fillM_len p0
 have hq : k + ((1 : Nat) : Int) * (i : Int) = q := by omega
 refine WC.seq (fun K8 hK8 => WC.r1 hs7 [] rfl ?_)
 refine WC.cq rfl (fun h9 qh9 => ?_) (fun h9 qh9 => ?_)
 ·refine WC.skip (hK8 _ _ (WC.seq (fun K10 hK10 => WC.block (WC.sr (WL.r 4 hs7 [] rfl ?_)))))
  refine WL.val rfl rfl rfl (Run.idxN Tryz.runUnderlying44 Tryz.sizeOf5 rfl rfl rfl ?_ ?_ ?_) ?_
  · exact SlF.some_ (SlF.ofOwn ho6 (hs7.ow L5))
  · omega
  · omega
  refine WL.storeF1 (x' := _) hs7 ho6 Tryz.sizeOf5 rfl rfl rfl rfl rfl rfl rfl rfl rfl ?_ (by first | rfl | (rw [gat_set (by (try simp only [List.length_set]); omega) rfl]; rfl)) (fun L11 whs12 hs12 ho13 _ => ?_)
  · omega
  refine WL.nil (WC.region (WL.r 3 hs12 [] rfl (WL.nil (hK10 _ _ (WC.region (WL.r 3 hs12 [] rfl (WL.nil ?_)))))))
  refine tkN ?_
  try simp only [List.set_set] at ho13
  rw [fillM_set (i := i) (by omega) (by rw [hq]) (by simp)] at ho13
  refine ⟨sbF rfl, _, hs12, _, ?_, i + 1, _, rfl, ?_, ?_, ho13, ⟨rfl, rfl, rfl, trivial⟩⟩
  · omega
  · omega
  · omega
 refine WC.exit (hK2 _ _ (WC.r1 hs7 [] rfl (WC.ret (retV1 rfl (resV.tmp rfl) ?_))))
 have hx_ := OwnF.eqOf (xs := marks ub 1 k a.length) ho6 (fillM_full (by omega))
 have hi_ : i = a.length := by omega
 refine ⟨_, ?_, (St.keep1 hs7), hx_ ▸ ho6⟩
 rw [p1, hi_]
theorem k172_ (A_a : Option Addr) (n_a c_a : Nat) (a : List UInt8) (k : Int) (m : Nat) (w : World) (f_a : SlF encB w A_a n_a a) (hm : a = marks ub 1 k m) (h1 : 0 ≤ k) (h2 : k ≤ 1099511627776) (h3 : n_a ≤ 1099511627776) :
    Calls Tryz.prog 28 #[.slice A_a n_a c_a, i64 k] w fun e w' => e = .returned (.int .i64 (k + 1 * m)) ∧ St w [] [] w' := by
 have hnm : n_a = m := by rw [← f_a.len, hm, marks_len]
 subst hnm
 refine enter 22 Tryz.func28 rfl Tryz.ntmps28 rfl rfl ?_
 have hs1 := St.init w
 refine WC.r1 hs1 [] rfl (WC.seq (fun K2 hK2 => WC.r1 hs1 [] rfl (WC.block ?_)))
 refine WC.lS [0] rfl hs1 (fun k_ f w' => ∃ (i : Nat) (q : Int), k_ = n_a - i ∧ (i ≤ n_a) ∧ (q = k + 1 * i) ∧ Sub [(5, .int .i64 i), (1, .int .i64 q)] f) ((fun (i : Nat) (q : Int) => n_a - i) (0) (k)) ?_ ?_
 ·refine ⟨0, k, rfl, ?_, ?_, ⟨rfl, rfl, trivial⟩⟩
  · exact Nat.zero_le _
  · simp
 clear hs1
 rintro _ f w ⟨i, q, rfl, p0, p1, hG⟩ hF hs3
 refine WC.sub _ (hG.app hF) ?_
 clear hG hF
 have hq : k + ((1 : Nat) : Int) * (i : Int) = q := by omega
 refine WC.seq (fun K4 hK4 => WC.r1 hs3 [] rfl ?_)
 refine WC.cD rfl (fun qh5 => ?_) (fun qh5 => ?_)
 ·have hg : gat encB a i = ub q := by rw [hm, marks_gat (by omega), hq]
  refine WC.skip (hK4 _ _ (WC.seq (fun K6 hK6 => WC.block (WC.seq (fun K7 hK7 => WC.sr (WL.r 2 hs3 [] rfl ?_))))))
  refine WL.val rfl rfl rfl (Run.idxN Tryz.runUnderlying44 Tryz.sizeOf5 rfl rfl rfl ?_ ?_ ?_) ?_
  · exact SlF.some_ (SlF.st0 f_a hs3)
  · omega
  · omega
  refine WL.val rfl rfl rfl (Run.load Tryz.isAgg5 rfl rfl (SlF.one1 (SlF.st0 f_a hs3) ?_ rfl)) ?_
  · omega
  refine WL.r 3 hs3 [] rfl (WL.nil (WC.condF rfl (by simp [hg]) (WC.skip (hK7 _ _ (WC.region (WL.r 3 hs3 [] rfl (WL.nil ?_)))))))
  refine hK6 _ _ (WC.region (WL.r 3 hs3 [] rfl (WL.nil (tkN ?_))))
  refine ⟨sbF rfl, hs3, _, ?_, i + 1, _, rfl, ?_, ?_, ⟨rfl, rfl, trivial⟩⟩
  · omega
  · omega
  · omega
 refine WC.exit (hK2 _ _ (WC.r1 hs3 [] rfl (WC.ret (rtv rfl rfl hs3 ?_))))
 rw [p1, show i = n_a from by omega]
theorem k173_ (v_a : Value) (a : List CellD) (L_a : Hp) (k : Int) (w : World) (o_a : OwnF encCell 164 v_a a L_a) (h_a : Hh w L_a) (h1 : 0 ≤ k) (h2 : k ≤ 1099511627776) (h3 : a.length ≤ 1099511627776) :
    Calls Tryz.prog 129 #[v_a, i64 k] w fun e w' => ∃ L1, e = .returned (.int .i64 (k + 6 * a.length)) ∧ St w (L_a.map (·.1)) L1 w' ∧ OwnF encCell 164 v_a (marks mkCell 6 k a.length) L1 := by
 obtain ⟨A_a, c_a, rfl⟩ := o_a.shape
 refine enter 66 Tryz.func129 rfl Tryz.ntmps129 rfl rfl ?_
 have hs1 := St.lent1 w L_a o_a h_a
 refine WC.r1 hs1 [] rfl (WC.seq (fun K2 hK2 => WC.r1 hs1 [] rfl (WC.block ?_)))
 refine WC.lO [4] rfl hs1 (fun k_ f L_ => ∃ (i : Nat) (q : Int), k_ = a.length - i ∧ (i ≤ a.length) ∧ (q = k + 6 * i) ∧ OwnF encCell 164 (.slice A_a (a.length) c_a) (fillM mkCell 6 k a i) L_ ∧ Sub [(0, .slice A_a (a.length) c_a), (5, .int .i64 i), (1, .int .i64 q)] f) (((fun (i : Nat) (q : Int) => a.length - i) (0) (k))) ?_ ?_
 ·refine ⟨0, k, rfl, ?_, ?_, (fillM_zero.symm ▸ o_a), ⟨rfl, rfl, rfl, trivial⟩⟩
  · exact Nat.zero_le _
  · simp
 clear hs1
 rintro _ f w L5 ⟨i, q, rfl, p0, p1, ho6, hG⟩ hF hs7
 refine WC.sub _ (hG.app hF) ?_
 clear hG hF
 have hfl : (fillM mkCell 6 k a i).length = a.length := fillM_len p0
 have hq : k + ((6 : Nat) : Int) * (i : Int) = q := by omega
 refine WC.seq (fun K8 hK8 => WC.r1 hs7 [] rfl ?_)
 refine WC.cq rfl (fun h9 qh9 => ?_) (fun h9 qh9 => ?_)
 ·refine WC.skip (hK8 _ _ (WC.seq (fun K10 hK10 => WC.block (WC.sr (WL.r 3 hs7 [] rfl ?_)))))
  refine WL.val rfl rfl rfl (Run.idxN Tryz.runUnderlying74 Tryz.sizeOf164 rfl rfl rfl ?_ ?_ ?_) ?_
  · exact SlF.some_ (SlF.ofOwn ho6 (hs7.ow L5))
  · omega
  · omega
  refine WL.val rfl rfl rfl (Run.fieldO Tryz.runUnderlying164 rfl rfl rfl Tryz.sizeOf3 rfl) ?_
  refine WL.storeF (x' := ⟨q, ⟨(gat encCell (fillM mkCell 6 k a i) i).A.Fg, (gat encCell (fillM mkCell 6 k a i) i).A.Bg, (gat encCell (fillM mkCell 6 k a i) i).A.Bold, (gat encCell (fillM mkCell 6 k a i) i).A.Under, (gat encCell (fillM mkCell 6 k a i) i).A.Turn⟩⟩) hs7 ho6 Tryz.sizeOf3 rfl rfl rfl rfl rfl rfl rfl rfl rfl ?_ (by first | rfl | (rw [gat_set (by (try simp only [List.length_set]); omega) rfl]; rfl)) (fun L11 whs12 hs12 ho13 _ => ?_)
  · omega
  refine WL.nil (WC.r1 hs12 [] rfl (WC.sr (WL.r 3 hs12 [] rfl (WL.val rfl rfl rfl (Run.idxN Tryz.runUnderlying74 Tryz.sizeOf164 rfl rfl rfl ?_ ?_ ?_) ?_))))
  · exact SlF.some_ (SlF.ofOwn ho13 (hs12.ow L11))
  · omega
  · omega
  refine WL.val rfl rfl rfl (Run.fieldO Tryz.runUnderlying164 rfl rfl rfl Tryz.sizeOf86 rfl) (WL.val rfl rfl rfl (Run.fieldE Tryz.runUnderlying86 rfl rfl rfl Tryz.sizeOf3 rfl) ?_)
  refine WL.storeF (x' := ⟨q, ⟨(q + 1), (gat encCell (fillM mkCell 6 k a i) i).A.Bg, (gat encCell (fillM mkCell 6 k a i) i).A.Bold, (gat encCell (fillM mkCell 6 k a i) i).A.Under, (gat encCell (fillM mkCell 6 k a i) i).A.Turn⟩⟩) hs12 ho13 Tryz.sizeOf3 rfl rfl rfl rfl rfl rfl rfl rfl rfl ?_ (by first | rfl | (rw [gat_set (by (try simp only [List.length_set]); omega) rfl]; rfl)) (fun L14 whs15 hs15 ho16 _ => ?_)
  · omega
  refine WL.nil (WC.r1 hs15 [] rfl (WC.sr (WL.r 3 hs15 [] rfl (WL.val rfl rfl rfl (Run.idxN Tryz.runUnderlying74 Tryz.sizeOf164 rfl rfl rfl ?_ ?_ ?_) ?_))))
  · exact SlF.some_ (SlF.ofOwn ho16 (hs15.ow L14))
  · omega
  · omega
  refine WL.val rfl rfl rfl (Run.fieldO Tryz.runUnderlying164 rfl rfl rfl Tryz.sizeOf86 rfl) (WL.val rfl rfl rfl (Run.fieldE Tryz.runUnderlying86 rfl rfl rfl Tryz.sizeOf3 rfl) ?_)
  refine WL.storeF (x' := ⟨q, ⟨(q + 1), (q + 1 + 1), (gat encCell (fillM mkCell 6 k a i) i).A.Bold, (gat encCell (fillM mkCell 6 k a i) i).A.Under, (gat encCell (fillM mkCell 6 k a i) i).A.Turn⟩⟩) hs15 ho16 Tryz.sizeOf3 rfl rfl rfl rfl rfl rfl rfl rfl rfl ?_ (by first | rfl | (rw [gat_set (by (try simp only [List.length_set]); omega) rfl]; rfl)) (fun L17 whs18 hs18 ho19 _ => ?_)
  · omega
  refine WL.nil (WC.r1 hs18 [] rfl (WC.sr (WL.r 3 hs18 [] rfl (WL.val rfl rfl rfl (Run.rem rfl rfl rfl ?_ ?_) ?_))))
  · omega
  · omega
  refine WL.r 1 hs18 [] rfl (WL.val rfl rfl rfl (Run.idxN Tryz.runUnderlying74 Tryz.sizeOf164 rfl rfl rfl ?_ ?_ ?_) ?_)
  · exact SlF.some_ (SlF.ofOwn ho19 (hs18.ow L17))
  · omega
  · omega
  refine WL.val rfl rfl rfl (Run.fieldO Tryz.runUnderlying164 rfl rfl rfl Tryz.sizeOf86 rfl) (WL.val rfl rfl rfl (Run.fieldE Tryz.runUnderlying86 rfl rfl rfl Tryz.sizeOf4 rfl) ?_)
  refine WL.storeF (x' := ⟨q, ⟨(q + 1), (q + 1 + 1), decide ((q + 1 + 1 + 1) % 3 = 0), (gat encCell (fillM mkCell 6 k a i) i).A.Under, (gat encCell (fillM mkCell 6 k a i) i).A.Turn⟩⟩) hs18 ho19 Tryz.sizeOf4 rfl rfl rfl rfl rfl rfl rfl rfl rfl ?_ (by first | rfl | (rw [gat_set (by (try simp only [List.length_set]); omega) rfl]; rfl)) (fun L20 whs21 hs21 ho22 _ => ?_)
  · omega
  refine WL.nil (WC.r1 hs21 [] rfl (WC.sr (WL.r 3 hs21 [] rfl (WL.val rfl rfl rfl (Run.rem rfl rfl rfl ?_ ?_) ?_))))
  · omega
  · omega
  refine WL.r 1 hs21 [] rfl (WL.val rfl rfl rfl (Run.idxN Tryz.runUnderlying74 Tryz.sizeOf164 rfl rfl rfl ?_ ?_ ?_) ?_)
  · exact SlF.some_ (SlF.ofOwn ho22 (hs21.ow L20))
  · omega
  · omega
  refine WL.val rfl rfl rfl (Run.fieldO Tryz.runUnderlying164 rfl rfl rfl Tryz.sizeOf86 rfl) (WL.val rfl rfl rfl (Run.fieldE Tryz.runUnderlying86 rfl rfl rfl Tryz.sizeOf4 rfl) ?_)
  refine WL.storeF (x' := ⟨q, ⟨(q + 1), (q + 1 + 1), decide ((q + 1 + 1 + 1) % 3 = 0), decide ((q + 1 + 1 + 1 + 1) % 3 = 0), (gat encCell (fillM mkCell 6 k a i) i).A.Turn⟩⟩) hs21 ho22 Tryz.sizeOf4 rfl rfl rfl rfl rfl rfl rfl rfl rfl ?_ (by first | rfl | (rw [gat_set (by (try simp only [List.length_set]); omega) rfl]; rfl)) (fun L23 whs24 hs24 ho25 _ => ?_)
  · omega
  refine WL.nil (WC.r1 hs24 [] rfl (WC.sr (WL.r 3 hs24 [] rfl (WL.val rfl rfl rfl (Run.rem rfl rfl rfl ?_ ?_) ?_))))
  · omega
  · omega
  refine WL.r 1 hs24 [] rfl (WL.val rfl rfl rfl (Run.idxN Tryz.runUnderlying74 Tryz.sizeOf164 rfl rfl rfl ?_ ?_ ?_) ?_)
  · exact SlF.some_ (SlF.ofOwn ho25 (hs24.ow L23))
  · omega
  · omega
  refine WL.val rfl rfl rfl (Run.fieldO Tryz.runUnderlying164 rfl rfl rfl Tryz.sizeOf86 rfl) (WL.val rfl rfl rfl (Run.fieldE Tryz.runUnderlying86 rfl rfl rfl Tryz.sizeOf4 rfl) ?_)
  refine WL.storeF (x' := ⟨q, ⟨(q + 1), (q + 1 + 1), decide ((q + 1 + 1 + 1) % 3 = 0), decide ((q + 1 + 1 + 1 + 1) % 3 = 0), decide ((q + 1 + 1 + 1 + 1 + 1) % 3 = 0)⟩⟩) hs24 ho25 Tryz.sizeOf4 rfl rfl rfl rfl rfl rfl rfl rfl rfl ?_ (by first | rfl | (rw [gat_set (by (try simp only [List.length_set]); omega) rfl]; rfl)) (fun L26 whs27 hs27 ho28 _ => ?_)
  · omega
  refine WL.nil (WC.region (WL.r 3 hs27 [] rfl (WL.nil (hK10 _ _ (WC.region (WL.r 3 hs27 [] rfl (WL.nil ?_)))))))
  refine tkN ?_
  try simp only [List.set_set] at ho28
  rw [fillM_set (i := i) (by omega) (by rw [hq]; rfl) (by simp)] at ho28
  refine ⟨sbF rfl, _, hs27, _, ?_, i + 1, _, rfl, ?_, ?_, ho28, ⟨rfl, rfl, rfl, trivial⟩⟩
  · omega
  · omega
  · omega
 refine WC.exit (hK2 _ _ (WC.r1 hs7 [] rfl (WC.ret (retV1 rfl (resV.tmp rfl) ?_))))
 have hx_ := OwnF.eqOf (xs := marks mkCell 6 k a.length) ho6 (fillM_full (by omega))
 have hi_ : i = a.length := by omega
 refine ⟨_, ?_, (St.keep1 hs7), hx_ ▸ ho6⟩
 rw [p1, hi_]
theorem k174_ (A_a : Option Addr) (n_a c_a : Nat) (a : List CellD) (k : Int) (m : Nat) (w : World) (f_a : SlF encCell w A_a n_a a) (hm : a = marks mkCell 6 k m) (h1 : 0 ≤ k) (h2 : k ≤ 1099511627776) (h3 : n_a ≤ 1099511627776) :
    Calls Tryz.prog 133 #[.slice A_a n_a c_a, i64 k] w fun e w' => e = .returned (.int .i64 (k + 6 * m)) ∧ St w [] [] w' := by
 have hnm : n_a = m := by rw [← f_a.len, hm, marks_len]
 subst hnm
 refine enter 78 Tryz.func133 rfl Tryz.ntmps133 rfl rfl ?_
 have hs1 := St.init w
 refine WC.r1 hs1 [] rfl (WC.seq (fun K2 hK2 => WC.r1 hs1 [] rfl (WC.block ?_)))
 refine WC.lS [0] rfl hs1 (fun k_ f w' => ∃ (i : Nat) (q : Int), k_ = n_a - i ∧ (i ≤ n_a) ∧ (q = k + 6 * i) ∧ Sub [(5, .int .i64 i), (1, .int .i64 q)] f) ((fun (i : Nat) (q : Int) => n_a - i) (0) (k)) ?_ ?_
 ·refine ⟨0, k, rfl, ?_, ?_, ⟨rfl, rfl, trivial⟩⟩
  · exact Nat.zero_le _
  · simp
 clear hs1
 rintro _ f w ⟨i, q, rfl, p0, p1, hG⟩ hF hs3
 refine WC.sub _ (hG.app hF) ?_
 clear hG hF
 have hq : k + ((6 : Nat) : Int) * (i : Int) = q := by omega
 refine WC.seq (fun K4 hK4 => WC.r1 hs3 [] rfl ?_)
 refine WC.cD rfl (fun qh5 => ?_) (fun qh5 => ?_)
 ·have hg : gat encCell a i = mkCell q := by rw [hm, marks_gat (by omega), hq]
  refine WC.skip (hK4 _ _ (WC.seq (fun K6 hK6 => WC.block (WC.seq (fun K7 hK7 => WC.sr (WL.r 2 hs3 [] rfl ?_))))))
  refine WL.val rfl rfl rfl (Run.idxN Tryz.runUnderlying74 Tryz.sizeOf164 rfl rfl rfl ?_ ?_ ?_) ?_
  · exact SlF.some_ (SlF.st0 f_a hs3)
  · omega
  · omega
  refine WL.val rfl rfl rfl (Run.fieldO Tryz.runUnderlying164 rfl rfl rfl Tryz.sizeOf3 rfl) (WL.val rfl rfl rfl (Run.load Tryz.isAgg3 rfl rfl (SlF.fld (SlF.st0 f_a hs3) ?_ rfl)) ?_)
  · omega
  refine WL.r 2 hs3 [] rfl (WL.nil (WC.condF rfl (by simp [hg, mkCell]) (WC.skip (hK7 _ _ (WC.r1 hs3 [] rfl (WC.seq (fun K9 hK9 => WC.sr ?_)))))))
  refine WL.r 2 hs3 [] rfl (WL.val rfl rfl rfl (Run.idxN Tryz.runUnderlying74 Tryz.sizeOf164 rfl rfl rfl ?_ ?_ ?_) ?_)
  · exact SlF.some_ (SlF.st0 f_a hs3)
  · omega
  · omega
  refine WL.val rfl rfl rfl (Run.fieldO Tryz.runUnderlying164 rfl rfl rfl Tryz.sizeOf86 rfl) (WL.val rfl rfl rfl (Run.fieldE Tryz.runUnderlying86 rfl rfl rfl Tryz.sizeOf3 rfl) (WL.val rfl rfl rfl (Run.load Tryz.isAgg3 rfl rfl (SlF.fld (SlF.st0 f_a hs3) ?_ rfl)) ?_))
  · omega
  refine WL.r 2 hs3 [] rfl (WL.nil (WC.condF rfl (by simp [hg, mkCell]) (WC.skip (hK9 _ _ (WC.r1 hs3 [] rfl (WC.seq (fun K11 hK11 => WC.sr ?_)))))))
  refine WL.r 2 hs3 [] rfl (WL.val rfl rfl rfl (Run.idxN Tryz.runUnderlying74 Tryz.sizeOf164 rfl rfl rfl ?_ ?_ ?_) ?_)
  · exact SlF.some_ (SlF.st0 f_a hs3)
  · omega
  · omega
  refine WL.val rfl rfl rfl (Run.fieldO Tryz.runUnderlying164 rfl rfl rfl Tryz.sizeOf86 rfl) (WL.val rfl rfl rfl (Run.fieldE Tryz.runUnderlying86 rfl rfl rfl Tryz.sizeOf3 rfl) (WL.val rfl rfl rfl (Run.load Tryz.isAgg3 rfl rfl (SlF.fld (SlF.st0 f_a hs3) ?_ rfl)) ?_))
  · omega
  refine WL.r 2 hs3 [] rfl (WL.nil (WC.condF rfl (by simp [hg, mkCell]) (WC.skip (hK11 _ _ (WC.r1 hs3 [] rfl (WC.seq (fun K13 hK13 => WC.sr ?_)))))))
  refine WL.r 2 hs3 [] rfl (WL.val rfl rfl rfl (Run.idxN Tryz.runUnderlying74 Tryz.sizeOf164 rfl rfl rfl ?_ ?_ ?_) ?_)
  · exact SlF.some_ (SlF.st0 f_a hs3)
  · omega
  · omega
  refine WL.val rfl rfl rfl (Run.fieldO Tryz.runUnderlying164 rfl rfl rfl Tryz.sizeOf86 rfl) (WL.val rfl rfl rfl (Run.fieldE Tryz.runUnderlying86 rfl rfl rfl Tryz.sizeOf4 rfl) (WL.val rfl rfl rfl (Run.load Tryz.isAgg4 rfl rfl (SlF.fld (SlF.st0 f_a hs3) ?_ rfl)) ?_))
  · omega
  refine WL.r 1 hs3 [] rfl (WL.val rfl rfl rfl (Run.rem rfl rfl rfl ?_ ?_) ?_)
  · omega
  · omega
  refine WL.r 2 hs3 [] rfl (WL.nil (WC.condF rfl (by simp [hg, mkCell]) (WC.skip (hK13 _ _ (WC.r1 hs3 [] rfl (WC.seq (fun K15 hK15 => WC.sr ?_)))))))
  refine WL.r 2 hs3 [] rfl (WL.val rfl rfl rfl (Run.idxN Tryz.runUnderlying74 Tryz.sizeOf164 rfl rfl rfl ?_ ?_ ?_) ?_)
  · exact SlF.some_ (SlF.st0 f_a hs3)
  · omega
  · omega
  refine WL.val rfl rfl rfl (Run.fieldO Tryz.runUnderlying164 rfl rfl rfl Tryz.sizeOf86 rfl) (WL.val rfl rfl rfl (Run.fieldE Tryz.runUnderlying86 rfl rfl rfl Tryz.sizeOf4 rfl) (WL.val rfl rfl rfl (Run.load Tryz.isAgg4 rfl rfl (SlF.fld (SlF.st0 f_a hs3) ?_ rfl)) ?_))
  · omega
  refine WL.r 1 hs3 [] rfl (WL.val rfl rfl rfl (Run.rem rfl rfl rfl ?_ ?_) ?_)
  · omega
  · omega
  refine WL.r 2 hs3 [] rfl (WL.nil (WC.condF rfl (by simp [hg, mkCell]) (WC.skip (hK15 _ _ (WC.r1 hs3 [] rfl (WC.seq (fun K17 hK17 => WC.sr ?_)))))))
  refine WL.r 2 hs3 [] rfl (WL.val rfl rfl rfl (Run.idxN Tryz.runUnderlying74 Tryz.sizeOf164 rfl rfl rfl ?_ ?_ ?_) ?_)
  · exact SlF.some_ (SlF.st0 f_a hs3)
  · omega
  · omega
  refine WL.val rfl rfl rfl (Run.fieldO Tryz.runUnderlying164 rfl rfl rfl Tryz.sizeOf86 rfl) (WL.val rfl rfl rfl (Run.fieldE Tryz.runUnderlying86 rfl rfl rfl Tryz.sizeOf4 rfl) (WL.val rfl rfl rfl (Run.load Tryz.isAgg4 rfl rfl (SlF.fld (SlF.st0 f_a hs3) ?_ rfl)) ?_))
  · omega
  refine WL.r 1 hs3 [] rfl (WL.val rfl rfl rfl (Run.rem rfl rfl rfl ?_ ?_) ?_)
  · omega
  · omega
  refine WL.r 2 hs3 [] rfl (WL.nil (WC.condF rfl (by simp [hg, mkCell]) (WC.skip (hK17 _ _ (WC.region (WL.r 3 hs3 [] rfl (WL.nil ?_)))))))
  refine hK6 _ _ (WC.region (WL.r 3 hs3 [] rfl (WL.nil (tkN ?_))))
  refine ⟨sbF rfl, hs3, _, ?_, i + 1, _, rfl, ?_, ?_, ⟨rfl, rfl, trivial⟩⟩
  · omega
  · omega
  · omega
 refine WC.exit (hK2 _ _ (WC.r1 hs3 [] rfl (WC.ret (rtv rfl rfl hs3 ?_))))
 rw [p1, show i = n_a from by omega]
theorem k175_ (v_a : Value) (a : List Int) (L_a : Hp) (k : Int) (w : World) (o_a : OwnF encI 3 v_a a L_a) (h_a : Hh w L_a) (h1 : 0 ≤ k) (h2 : k ≤ 1099511627776) (h3 : a.length ≤ 1099511627776) :
    Calls Tryz.prog 128 #[v_a, i64 k] w fun e w' => ∃ L1, e = .returned (.int .i64 (k + 1 * a.length)) ∧ St w (L_a.map (·.1)) L1 w' ∧ OwnF encI 3 v_a (marks (fun k => k) 1 k a.length) L1 := by
 obtain ⟨A_a, c_a, rfl⟩ := o_a.shape
 refine enter 19 Tryz.func128 rfl Tryz.ntmps128 rfl rfl ?_
 have hs1 := St.lent1 w L_a o_a h_a
 refine WC.r1 hs1 [] rfl (WC.seq (fun K2 hK2 => WC.r1 hs1 [] rfl (WC.block ?_)))
 refine WC.lO [4] rfl hs1 (fun k_ f L_ => ∃ (i : Nat) (q : Int), k_ = a.length - i ∧ (i ≤ a.length) ∧ (q = k + 1 * i) ∧ OwnF encI 3 (.slice A_a (a.length) c_a) (fillM (fun k => k) 1 k a i) L_ ∧ Sub [(0, .slice A_a (a.length) c_a), (5, .int .i64 i), (1, .int .i64 q)] f) (((fun (i : Nat) (q : Int) => a.length - i) (0) (k))) ?_ ?_
 ·refine ⟨0, k, rfl, ?_, ?_, (fillM_zero.symm ▸ o_a), ⟨rfl, rfl, rfl, trivial⟩⟩
  · exact Nat.zero_le _
  · simp
 clear hs1
 rintro _ f w L5 ⟨i, q, rfl, p0, p1, ho6, hG⟩ hF hs7
 refine WC.sub _ (hG.app hF) ?_
 clear hG hF
 have hfl : (fillM (fun k => k) 1 k a i).length = a.length := fillM_len p0
 have hq : k + ((1 : Nat) : Int) * (i : Int) = q := by omega
 refine WC.seq (fun K8 hK8 => WC.r1 hs7 [] rfl ?_)
 refine WC.cq rfl (fun h9 qh9 => ?_) (fun h9 qh9 => ?_)
 ·refine WC.skip (hK8 _ _ (WC.seq (fun K10 hK10 => WC.block (WC.sr (WL.r 3 hs7 [] rfl ?_)))))
  refine WL.val rfl rfl rfl (Run.idxN Tryz.runUnderlying60 Tryz.sizeOf3 rfl rfl rfl ?_ ?_ ?_) ?_
  · exact SlF.some_ (SlF.ofOwn ho6 (hs7.ow L5))
  · omega
  · omega
  refine WL.storeF1 (x' := _) hs7 ho6 Tryz.sizeOf3 rfl rfl rfl rfl rfl rfl rfl rfl rfl ?_ (by first | rfl | (rw [gat_set (by (try simp only [List.length_set]); omega) rfl]; rfl)) (fun L11 whs12 hs12 ho13 _ => ?_)
  · omega
  refine WL.nil (WC.region (WL.r 3 hs12 [] rfl (WL.nil (hK10 _ _ (WC.region (WL.r 3 hs12 [] rfl (WL.nil ?_)))))))
  refine tkN ?_
  try simp only [List.set_set] at ho13
  rw [fillM_set (i := i) (by omega) (by rw [hq]) (by simp)] at ho13
  refine ⟨sbF rfl, _, hs12, _, ?_, i + 1, _, rfl, ?_, ?_, ho13, ⟨rfl, rfl, rfl, trivial⟩⟩
  · omega
  · omega
  · omega
 refine WC.exit (hK2 _ _ (WC.r1 hs7 [] rfl (WC.ret (retV1 rfl (resV.tmp rfl) ?_))))
 have hx_ := OwnF.eqOf (xs := marks (fun k => k) 1 k a.length) ho6 (fillM_full (by omega))
 have hi_ : i = a.length := by omega
 refine ⟨_, ?_, (St.keep1 hs7), hx_ ▸ ho6⟩
 rw [p1, hi_]
theorem k176_ (A_a : Option Addr) (n_a c_a : Nat) (a : List Int) (k : Int) (m : Nat) (w : World) (f_a : SlF encI w A_a n_a a) (hm : a = marks (fun k => k) 1 k m) (h1 : 0 ≤ k) (h2 : k ≤ 1099511627776) (h3 : n_a ≤ 1099511627776) :
    Calls Tryz.prog 132 #[.slice A_a n_a c_a, i64 k] w fun e w' => e = .returned (.int .i64 (k + 1 * m)) ∧ St w [] [] w' := by
 have hnm : n_a = m := by rw [← f_a.len, hm, marks_len]
 subst hnm
 refine enter 21 Tryz.func132 rfl Tryz.ntmps132 rfl rfl ?_
 have hs1 := St.init w
 refine WC.r1 hs1 [] rfl (WC.seq (fun K2 hK2 => WC.r1 hs1 [] rfl (WC.block ?_)))
 refine WC.lS [0] rfl hs1 (fun k_ f w' => ∃ (i : Nat) (q : Int), k_ = n_a - i ∧ (i ≤ n_a) ∧ (q = k + 1 * i) ∧ Sub [(5, .int .i64 i), (1, .int .i64 q)] f) ((fun (i : Nat) (q : Int) => n_a - i) (0) (k)) ?_ ?_
 ·refine ⟨0, k, rfl, ?_, ?_, ⟨rfl, rfl, trivial⟩⟩
  · exact Nat.zero_le _
  · simp
 clear hs1
 rintro _ f w ⟨i, q, rfl, p0, p1, hG⟩ hF hs3
 refine WC.sub _ (hG.app hF) ?_
 clear hG hF
 have hq : k + ((1 : Nat) : Int) * (i : Int) = q := by omega
 refine WC.seq (fun K4 hK4 => WC.r1 hs3 [] rfl ?_)
 refine WC.cD rfl (fun qh5 => ?_) (fun qh5 => ?_)
 ·have hg : gat encI a i = (fun k => k) q := by rw [hm, marks_gat (by omega), hq]
  refine WC.skip (hK4 _ _ (WC.seq (fun K6 hK6 => WC.block (WC.seq (fun K7 hK7 => WC.sr (WL.r 2 hs3 [] rfl ?_))))))
  refine WL.val rfl rfl rfl (Run.idxN Tryz.runUnderlying60 Tryz.sizeOf3 rfl rfl rfl ?_ ?_ ?_) ?_
  · exact SlF.some_ (SlF.st0 f_a hs3)
  · omega
  · omega
  refine WL.val rfl rfl rfl (Run.load Tryz.isAgg3 rfl rfl (SlF.one1 (SlF.st0 f_a hs3) ?_ rfl)) ?_
  · omega
  refine WL.r 2 hs3 [] rfl (WL.nil (WC.condF rfl (by simp [hg]) (WC.skip (hK7 _ _ (WC.region (WL.r 3 hs3 [] rfl (WL.nil ?_)))))))
  refine hK6 _ _ (WC.region (WL.r 3 hs3 [] rfl (WL.nil (tkN ?_))))
  refine ⟨sbF rfl, hs3, _, ?_, i + 1, _, rfl, ?_, ?_, ⟨rfl, rfl, trivial⟩⟩
  · omega
  · omega
  · omega
 refine WC.exit (hK2 _ _ (WC.r1 hs3 [] rfl (WC.ret (rtv rfl rfl hs3 ?_))))
 rw [p1, show i = n_a from by omega]
theorem k177_ (v_a : Value) (a : List NodeD) (L_a : Hp) (k : Int) (w : World) (o_a : OwnF encNode 103 v_a a L_a) (h_a : Hh w L_a) (h1 : 0 ≤ k) (h2 : k ≤ 1099511627776) (h3 : a.length ≤ 1099511627776) :
    Calls Tryz.prog 131 #[v_a, i64 k] w fun e w' => ∃ L1, e = .returned (.int .i64 (k + 3 * a.length)) ∧ St w (L_a.map (·.1)) L1 w' ∧ OwnF encNode 103 v_a (marks mkNode 3 k a.length) L1 := by
 obtain ⟨A_a, c_a, rfl⟩ := o_a.shape
 refine enter 36 Tryz.func131 rfl Tryz.ntmps131 rfl rfl ?_
 have hs1 := St.lent1 w L_a o_a h_a
 refine WC.r1 hs1 [] rfl (WC.seq (fun K2 hK2 => WC.r1 hs1 [] rfl (WC.block ?_)))
 refine WC.lO [4] rfl hs1 (fun k_ f L_ => ∃ (i : Nat) (q : Int), k_ = a.length - i ∧ (i ≤ a.length) ∧ (q = k + 3 * i) ∧ OwnF encNode 103 (.slice A_a (a.length) c_a) (fillM mkNode 3 k a i) L_ ∧ Sub [(0, .slice A_a (a.length) c_a), (5, .int .i64 i), (1, .int .i64 q)] f) (((fun (i : Nat) (q : Int) => a.length - i) (0) (k))) ?_ ?_
 ·refine ⟨0, k, rfl, ?_, ?_, (fillM_zero.symm ▸ o_a), ⟨rfl, rfl, rfl, trivial⟩⟩
  · exact Nat.zero_le _
  · simp
 clear hs1
 rintro _ f w L5 ⟨i, q, rfl, p0, p1, ho6, hG⟩ hF hs7
 refine WC.sub _ (hG.app hF) ?_
 clear hG hF
 have hfl : (fillM mkNode 3 k a i).length = a.length := fillM_len p0
 have hq : k + ((3 : Nat) : Int) * (i : Int) = q := by omega
 refine WC.seq (fun K8 hK8 => WC.r1 hs7 [] rfl ?_)
 refine WC.cq rfl (fun h9 qh9 => ?_) (fun h9 qh9 => ?_)
 ·refine WC.skip (hK8 _ _ (WC.seq (fun K10 hK10 => WC.block (WC.sr (WL.r 3 hs7 [] rfl ?_)))))
  refine WL.val rfl rfl rfl (Run.idxN Tryz.runUnderlying56 Tryz.sizeOf103 rfl rfl rfl ?_ ?_ ?_) ?_
  · exact SlF.some_ (SlF.ofOwn ho6 (hs7.ow L5))
  · omega
  · omega
  refine WL.val rfl rfl rfl (Run.fieldO Tryz.runUnderlying103 rfl rfl rfl Tryz.sizeOf3 rfl) ?_
  refine WL.storeF (x' := ⟨q, (gat encNode (fillM mkNode 3 k a i) i).Down, (gat encNode (fillM mkNode 3 k a i) i).First⟩) hs7 ho6 Tryz.sizeOf3 rfl rfl rfl rfl rfl rfl rfl rfl rfl ?_ (by first | rfl | (rw [gat_set (by (try simp only [List.length_set]); omega) rfl]; rfl)) (fun L11 whs12 hs12 ho13 _ => ?_)
  · omega
  refine WL.nil (WC.r1 hs12 [] rfl (WC.sr (WL.r 3 hs12 [] rfl (WL.val rfl rfl rfl (Run.rem rfl rfl rfl ?_ ?_) ?_))))
  · omega
  · omega
  refine WL.r 1 hs12 [] rfl (WL.val rfl rfl rfl (Run.idxN Tryz.runUnderlying56 Tryz.sizeOf103 rfl rfl rfl ?_ ?_ ?_) ?_)
  · exact SlF.some_ (SlF.ofOwn ho13 (hs12.ow L11))
  · omega
  · omega
  refine WL.val rfl rfl rfl (Run.fieldO Tryz.runUnderlying103 rfl rfl rfl Tryz.sizeOf4 rfl) ?_
  refine WL.storeF (x' := ⟨q, decide ((q + 1) % 3 = 0), (gat encNode (fillM mkNode 3 k a i) i).First⟩) hs12 ho13 Tryz.sizeOf4 rfl rfl rfl rfl rfl rfl rfl rfl rfl ?_ (by first | rfl | (rw [gat_set (by (try simp only [List.length_set]); omega) rfl]; rfl)) (fun L14 whs15 hs15 ho16 _ => ?_)
  · omega
  refine WL.nil (WC.r1 hs15 [] rfl (WC.sr (WL.r 3 hs15 [] rfl (WL.val rfl rfl rfl (Run.idxN Tryz.runUnderlying56 Tryz.sizeOf103 rfl rfl rfl ?_ ?_ ?_) ?_))))
  · exact SlF.some_ (SlF.ofOwn ho16 (hs15.ow L14))
  · omega
  · omega
  refine WL.val rfl rfl rfl (Run.fieldO Tryz.runUnderlying103 rfl rfl rfl Tryz.sizeOf3 rfl) ?_
  refine WL.storeF (x' := ⟨q, decide ((q + 1) % 3 = 0), (q + 1 + 1)⟩) hs15 ho16 Tryz.sizeOf3 rfl rfl rfl rfl rfl rfl rfl rfl rfl ?_ (by first | rfl | (rw [gat_set (by (try simp only [List.length_set]); omega) rfl]; rfl)) (fun L17 whs18 hs18 ho19 _ => ?_)
  · omega
  refine WL.nil (WC.region (WL.r 3 hs18 [] rfl (WL.nil (hK10 _ _ (WC.region (WL.r 3 hs18 [] rfl (WL.nil ?_)))))))
  refine tkN ?_
  try simp only [List.set_set] at ho19
  rw [fillM_set (i := i) (by omega) (by rw [hq]; rfl) (by simp)] at ho19
  refine ⟨sbF rfl, _, hs18, _, ?_, i + 1, _, rfl, ?_, ?_, ho19, ⟨rfl, rfl, rfl, trivial⟩⟩
  · omega
  · omega
  · omega
 refine WC.exit (hK2 _ _ (WC.r1 hs7 [] rfl (WC.ret (retV1 rfl (resV.tmp rfl) ?_))))
 have hx_ := OwnF.eqOf (xs := marks mkNode 3 k a.length) ho6 (fillM_full (by omega))
 have hi_ : i = a.length := by omega
 refine ⟨_, ?_, (St.keep1 hs7), hx_ ▸ ho6⟩
 rw [p1, hi_]
theorem k178_ (A_a : Option Addr) (n_a c_a : Nat) (a : List NodeD) (k : Int) (m : Nat) (w : World) (f_a : SlF encNode w A_a n_a a) (hm : a = marks mkNode 3 k m) (h1 : 0 ≤ k) (h2 : k ≤ 1099511627776) (h3 : n_a ≤ 1099511627776) :
    Calls Tryz.prog 135 #[.slice A_a n_a c_a, i64 k] w fun e w' => e = .returned (.int .i64 (k + 3 * m)) ∧ St w [] [] w' := by
 have hnm : n_a = m := by rw [← f_a.len, hm, marks_len]
 subst hnm
 refine enter 42 Tryz.func135 rfl Tryz.ntmps135 rfl rfl ?_
 have hs1 := St.init w
 refine WC.r1 hs1 [] rfl (WC.seq (fun K2 hK2 => WC.r1 hs1 [] rfl (WC.block ?_)))
 refine WC.lS [0] rfl hs1 (fun k_ f w' => ∃ (i : Nat) (q : Int), k_ = n_a - i ∧ (i ≤ n_a) ∧ (q = k + 3 * i) ∧ Sub [(5, .int .i64 i), (1, .int .i64 q)] f) ((fun (i : Nat) (q : Int) => n_a - i) (0) (k)) ?_ ?_
 ·refine ⟨0, k, rfl, ?_, ?_, ⟨rfl, rfl, trivial⟩⟩
  · exact Nat.zero_le _
  · simp
 clear hs1
 rintro _ f w ⟨i, q, rfl, p0, p1, hG⟩ hF hs3
 refine WC.sub _ (hG.app hF) ?_
 clear hG hF
 have hq : k + ((3 : Nat) : Int) * (i : Int) = q := by omega
 refine WC.seq (fun K4 hK4 => WC.r1 hs3 [] rfl ?_)
 refine WC.cD rfl (fun qh5 => ?_) (fun qh5 => ?_)
 ·have hg : gat encNode a i = mkNode q := by rw [hm, marks_gat (by omega), hq]
  refine WC.skip (hK4 _ _ (WC.seq (fun K6 hK6 => WC.block (WC.seq (fun K7 hK7 => WC.sr (WL.r 2 hs3 [] rfl ?_))))))
  refine WL.val rfl rfl rfl (Run.idxN Tryz.runUnderlying56 Tryz.sizeOf103 rfl rfl rfl ?_ ?_ ?_) ?_
  · exact SlF.some_ (SlF.st0 f_a hs3)
  · omega
  · omega
  refine WL.val rfl rfl rfl (Run.fieldO Tryz.runUnderlying103 rfl rfl rfl Tryz.sizeOf3 rfl) (WL.val rfl rfl rfl (Run.load Tryz.isAgg3 rfl rfl (SlF.fld (SlF.st0 f_a hs3) ?_ rfl)) ?_)
  · omega
  refine WL.r 2 hs3 [] rfl (WL.nil (WC.condF rfl (by simp [hg, mkNode]) (WC.skip (hK7 _ _ (WC.r1 hs3 [] rfl (WC.seq (fun K9 hK9 => WC.sr ?_)))))))
  refine WL.r 2 hs3 [] rfl (WL.val rfl rfl rfl (Run.idxN Tryz.runUnderlying56 Tryz.sizeOf103 rfl rfl rfl ?_ ?_ ?_) ?_)
  · exact SlF.some_ (SlF.st0 f_a hs3)
  · omega
  · omega
  refine WL.val rfl rfl rfl (Run.fieldO Tryz.runUnderlying103 rfl rfl rfl Tryz.sizeOf4 rfl) (WL.val rfl rfl rfl (Run.load Tryz.isAgg4 rfl rfl (SlF.fld (SlF.st0 f_a hs3) ?_ rfl)) ?_)
  · omega
  refine WL.r 1 hs3 [] rfl (WL.val rfl rfl rfl (Run.rem rfl rfl rfl ?_ ?_) ?_)
  · omega
  · omega
  refine WL.r 2 hs3 [] rfl (WL.nil (WC.condF rfl (by simp [hg, mkNode]) (WC.skip (hK9 _ _ (WC.r1 hs3 [] rfl (WC.seq (fun K11 hK11 => WC.sr ?_)))))))
  refine WL.r 2 hs3 [] rfl (WL.val rfl rfl rfl (Run.idxN Tryz.runUnderlying56 Tryz.sizeOf103 rfl rfl rfl ?_ ?_ ?_) ?_)
  · exact SlF.some_ (SlF.st0 f_a hs3)
  · omega
  · omega
  refine WL.val rfl rfl rfl (Run.fieldO Tryz.runUnderlying103 rfl rfl rfl Tryz.sizeOf3 rfl) (WL.val rfl rfl rfl (Run.load Tryz.isAgg3 rfl rfl (SlF.fld (SlF.st0 f_a hs3) ?_ rfl)) ?_)
  · omega
  refine WL.r 2 hs3 [] rfl (WL.nil (WC.condF rfl (by simp [hg, mkNode]) (WC.skip (hK11 _ _ (WC.region (WL.r 3 hs3 [] rfl (WL.nil ?_)))))))
  refine hK6 _ _ (WC.region (WL.r 3 hs3 [] rfl (WL.nil (tkN ?_))))
  refine ⟨sbF rfl, hs3, _, ?_, i + 1, _, rfl, ?_, ?_, ⟨rfl, rfl, trivial⟩⟩
  · omega
  · omega
  · omega
 refine WC.exit (hK2 _ _ (WC.r1 hs3 [] rfl (WC.ret (rtv rfl rfl hs3 ?_))))
 rw [p1, show i = n_a from by omega]
theorem k179_ (v_a : Value) (a : List RowR) (L_a : Hp) (k : Int) (w : World) (o_a : OwnN encRowR ownRowR 181 v_a a L_a) (h_a : Hh w L_a) (hd_ : ((L_a).map (·.1)).Nodup) (h1 : 0 ≤ k) (h2 : k + cnts cntERow a ≤ 549755813888) (h3 : a.length ≤ 549755813888) :
    Calls Tryz.prog 130 #[v_a, i64 k] w fun e w' => ∃ L1, e = .returned (.int .i64 (k + cnts cntERow a)) ∧ St w (L_a.map (·.1)) L1 w' ∧ OwnN encRowR ownRowR 181 v_a (mrks mkERow cntERow k a) L1 := by
 obtain ⟨A_a, c_a, rfl⟩ := o_a.shape
 have hcn : ∀ x, 0 ≤ cntERow x := fun x => by simp only [cntERow]; omega
 refine enter 20 Tryz.func130 rfl Tryz.ntmps130 rfl rfl ?_
 have hs1 := St.takes1 w L_a h_a hd_
 refine WC.r1 hs1 [] rfl (WC.seq (fun K2 hK2 => WC.r1 hs1 [] rfl (WC.block ?_)))
 refine WC.lO [4] rfl hs1 (fun k_ f L_ => ∃ (i : Nat), k_ = a.length - i ∧ (i ≤ a.length) ∧ OwnN encRowR ownRowR 181 (.slice A_a (a.length) c_a) (mrkTo mkERow cntERow k a i) L_ ∧ Sub [(0, .slice A_a (a.length) c_a), (5, .int .i64 i), (1, .int .i64 (k + cnts cntERow (a.take i)))] f) (((fun (i : Nat) => a.length - i) (0))) ?_ ?_
 ·refine ⟨0, rfl, ?_, (mrkTo_zero.symm ▸ o_a), ⟨rfl, rfl, ?_, trivial⟩⟩
  · exact Nat.zero_le _
  · (refine congrArg some (congrArg (Value.int _) ?_); simp [cnts])
 clear hs1
 rintro _ f w L5 ⟨i, rfl, p0, ho6, hG⟩ hF hs7
 refine WC.sub _ (hG.app hF) ?_
 clear hG hF
 have hfl : (mrkTo mkERow cntERow k a i).length = a.length := mrkTo_len p0
 have hq0 := cnts_nonneg (c := cntERow) hcn (a.take i)
 have hq1 := cnts_take_le hcn a i
 refine WC.seq (fun K8 hK8 => WC.r1 hs7 [] rfl ?_)
 refine WC.cq rfl (fun h9 qh9 => ?_) (fun h9 qh9 => ?_)
 ·have hg := mrkTo_gat (mk := mkERow) (c := cntERow) (F := encRowR) (k := k) (xs := a) (i := i) (by omega)
  have hq2 := cnts_take (c := cntERow) (F := encRowR) (xs := a) (i := i) (by omega)
  have hq3 := cnts_take_le hcn a (i + 1)
  have hq4 := hq2
  simp only [cntERow, ← hg] at hq4
  have hgn : (gat encRowR (mrkTo mkERow cntERow k a i) i) = gat encRowR a i := hg
  refine WC.skip (hK8 _ _ (WC.seq (fun K10 hK10 => WC.block (WC.region (WL.r 2 hs7 [] rfl ?_)))))
  refine WL.val rfl rfl rfl (Run.idxN Tryz.runUnderlying87 Tryz.sizeOf181 rfl rfl rfl ?_ ?_ ?_) ?_
  · exact SlF.some_ (OwnN.sl ho6 (hs7.ow L5))
  · omega
  · omega
  refine WL.val rfl rfl rfl (Run.fieldO Tryz.runUnderlying181 rfl rfl rfl Tryz.sizeOf74 rfl) (WL.val rfl rfl rfl (Run.load Tryz.isAgg74 rfl rfl (SlF.fld (OwnN.sl ho6 (hs7.ow L5)) ?_ rfl)) ?_)
  · omega
  refine WL.r 1 hs7 [] rfl ?_
  obtain ⟨L12, L13, hs16, ho14, ho15⟩ := OwnN.open_ hs7 ho6
  obtain ⟨L17, L18, L19, hs20, ho21, hp22⟩ := Bag.out (F := encRowR) (i := i) (hs16.fr L13) ho15 (by rw [mrkTo_len (by omega)]; omega)
  refine WL.cl Tryz.call129 rfl (k173_ _ _ _ _ _ ho21 (hs20.ow L18) ?_ ?_ ?_) ?_
  iterate 3 first | assumption | rfl | omega
  rintro _ whs11 ⟨L1_23, rfl, hs11, ho24⟩
  replace hs11 := St.lend hs20 hs11
  refine ⟨_, rfl, WL.r 1 hs11 [] rfl (WL.nil (hK10 _ _ (WC.region (WL.r 3 hs11 [] rfl (WL.nil (tkN ?_))))))⟩
  obtain ⟨L25, hs26, hb27⟩ := hp22 (mkERow (k + cnts cntERow (a.take i)) (gat encRowR a i)) _ ((hs11.fr (L17 ++ L19)).fr L1_23) (by have h_ := ho24; first | exact h_ | (simp only [hg] at h_; exact h_))
  rw [mrkTo_set (F := encRowR) (by omega) rfl] at hb27
  have ho28 := OwnF.recast (ys := mrkTo mkERow cntERow k a (i + 1)) ho14 (by rw [mrkTo_len (by omega)]; (try simp only [List.length_set]); exact hfl.symm) (by rw [← mrkTo_set (F := encRowR) (i := i) (by omega) rfl]; exact rows_set_eq (by rw [mrkTo_len (by omega)]; omega) (by rw [hg]; rfl))
  obtain ⟨L30, hs29, ho31⟩ := OwnN.fold (hs26.fr L12) ho28 hb27
  refine ⟨sbF rfl, _, hs29, _, ?_, i + 1, rfl, ?_, ho31, ⟨rfl, rfl, ?_, trivial⟩⟩
  · omega
  · omega
  · (refine congrArg some (congrArg (Value.int _) ?_); rw [cnts_take (F := encRowR) (by omega)]; simp only [cntERow, hg]; omega)
 refine WC.exit (hK2 _ _ (WC.r1 hs7 [] rfl (WC.ret (retV1 rfl (resV.tmp rfl) ?_))))
 have hi_ : i = a.length := by omega
 have hx_ := ho6
 rw [mrkTo_full (by omega)] at hx_
 refine ⟨_, ?_, (St.keep1 hs7), hx_⟩
 rw [hi_, List.take_of_length_le (Nat.le_refl _)]
theorem k180_ (A_a : Option Addr) (n_a c_a : Nat) (a : List RowR) (k : Int) (w : World) (f_a : SlN encRowR (okRowR 549755813888) w A_a n_a (mrks mkERow cntERow k a)) (h1 : 0 ≤ k) (h2 : k + cnts cntERow a ≤ 549755813888) (h3 : n_a ≤ 549755813888) :
    Calls Tryz.prog 134 #[.slice A_a n_a c_a, i64 k] w fun e w' => e = .returned (.int .i64 (k + cnts cntERow a)) ∧ St w [] [] w' := by
 have hl : a.length = n_a := by have h_ := f_a.sl.len; simpa [mrks_len] using h_
 have hcn : ∀ x, 0 ≤ cntERow x := fun x => by simp only [cntERow]; omega
 refine enter 22 Tryz.func134 rfl Tryz.ntmps134 rfl rfl ?_
 have hs1 := St.init w
 refine WC.r1 hs1 [] rfl (WC.seq (fun K2 hK2 => WC.r1 hs1 [] rfl (WC.block ?_)))
 refine WC.lS [0] rfl hs1 (fun k_ f w' => ∃ (i : Nat), k_ = n_a - i ∧ (i ≤ n_a) ∧ Sub [(5, .int .i64 i), (1, .int .i64 (k + cnts cntERow (a.take i)))] f) ((fun (i : Nat) => n_a - i) (0)) ?_ ?_
 ·refine ⟨0, rfl, ?_, ⟨rfl, ?_, trivial⟩⟩
  · exact Nat.zero_le _
  · (refine congrArg some (congrArg (Value.int _) ?_); simp [cnts])
 clear hs1
 rintro _ f w ⟨i, rfl, p0, hG⟩ hF hs3
 refine WC.sub _ (hG.app hF) ?_
 clear hG hF
 have hq0 := cnts_nonneg (c := cntERow) hcn (a.take i)
 have hq1 := cnts_take_le hcn a i
 refine WC.seq (fun K4 hK4 => WC.r1 hs3 [] rfl ?_)
 refine WC.cD rfl (fun qh5 => ?_) (fun qh5 => ?_)
 ·have hg := mrks_gat (mk := mkERow) (c := cntERow) (F := encRowR) (k := k) (xs := a) (i := i) (by omega)
  have hq2 := cnts_take (c := cntERow) (F := encRowR) (xs := a) (i := i) (by omega)
  have hq3 := cnts_take_le hcn a (i + 1)
  simp only [cntERow] at hq2
  have hng := (SlN.nth f_a (show i < n_a by omega))
  rw [hg] at hng
  have hnl_Cells := hng.Cells.len
  have hnn_Cells := hng.Cells_n
  simp only [mkERow, marks_len, mrks_len] at hnl_Cells hnn_Cells
  have hgn_Cells : (gat encRowR (mrks mkERow cntERow k a) i).Cells.n = (gat encRowR a i).Cells.n := by rw [hg]; rfl
  have hm_Cells : (gat encRowR (mrks mkERow cntERow k a) i).Cells.xs = marks mkCell 6 (k + cnts cntERow (a.take i)) (gat encRowR a i).Cells.xs.length := by rw [hg]; rfl
  refine WC.skip (hK4 _ _ (WC.seq (fun K6 hK6 => WC.block (WC.sr (WL.r 2 hs3 [] rfl ?_)))))
  refine WL.val rfl rfl rfl (Run.idxN Tryz.runUnderlying87 Tryz.sizeOf181 rfl rfl rfl ?_ ?_ ?_) ?_
  · exact SlF.some_ (SlF.st0 f_a.sl hs3)
  · omega
  · omega
  refine WL.val rfl rfl rfl (Run.fieldO Tryz.runUnderlying181 rfl rfl rfl Tryz.sizeOf74 rfl) (WL.val rfl rfl rfl (Run.load Tryz.isAgg74 rfl rfl (SlF.fld (SlF.st0 f_a.sl hs3) ?_ rfl)) ?_)
  · omega
  refine WL.r 1 hs3 [] rfl (WL.cl Tryz.call133 rfl (k174_ _ _ _ _ _ _ _ (SlF.st0 (SlN.nth f_a (by omega)).Cells hs3) hm_Cells ?_ ?_ ?_) ?_)
  iterate 3 first | assumption | rfl | omega
  rintro _ whs7 ⟨rfl, hs7⟩
  replace hs7 := hs3.call0 hs7
  refine ⟨_, rfl, WL.r 1 hs7 [] rfl (WL.nil (WC.r1 hs7 [] rfl ?_))⟩
  refine WC.condF rfl (by first | (simp [hg, mkERow]; done) | (simp [hg, mkERow]; omega)) (WC.skip (hK6 _ _ (WC.region (WL.r 3 hs7 [] rfl (WL.nil (tkN ?_))))))
  refine ⟨sbF rfl, hs7, _, ?_, i + 1, rfl, ?_, ⟨rfl, ?_, trivial⟩⟩
  · omega
  · omega
  · (refine congrArg some (congrArg (Value.int _) ?_); rw [cnts_take (F := encRowR) (by omega)]; simp only [cntERow]; omega)
 refine WC.exit (hK2 _ _ (WC.r1 hs3 [] rfl (WC.ret (rtv rfl rfl hs3 ?_))))
 rw [show i = a.length from by omega, List.take_of_length_le (Nat.le_refl _)]
set_option maxHeartbeats 16000000 in
set_option maxRecDepth 20000 in
theorem k181_ (v_a : Value) (a : List PaneR) (L_a : Hp) (k : Int) (w : World) (o_a : OwnN encPaneR ownPaneR 93 v_a a L_a) (h_a : Hh w L_a) (hd_ : ((L_a).map (·.1)).Nodup) (h1 : 0 ≤ k) (h2 : k + cnts cntEPane a ≤ 549755813888) (h3 : a.length ≤ 549755813888) (h4_Term_S_Back : ∀ x, x ∈ a → x.Term.S.Back.xs.length ≤ 549755813888) :
    Calls Tryz.prog 65 #[v_a, i64 k] w fun e w' => ∃ L1, e = .returned (.int .i64 (k + cnts cntEPane a)) ∧ St w (L_a.map (·.1)) L1 w' ∧ OwnN encPaneR ownPaneR 93 v_a (mrks mkEPane cntEPane k a) L1 := by
 obtain ⟨A_a, c_a, rfl⟩ := o_a.shape
 have hcn : ∀ x, 0 ≤ cntEPane x := cntEPane_ge
 refine enter 410 Tryz.func65 rfl Tryz.ntmps65 rfl rfl ?_
 have hs1 := St.takes1 w L_a h_a hd_
 refine WC.r1 hs1 [] rfl (WC.seq (fun K2 hK2 => WC.r1 hs1 [] rfl (WC.block ?_)))
 refine WC.lO [4] rfl hs1 (fun k_ f L_ => ∃ (i : Nat), k_ = a.length - i ∧ (i ≤ a.length) ∧ OwnN encPaneR ownPaneR 93 (.slice A_a (a.length) c_a) (mrkTo mkEPane cntEPane k a i) L_ ∧ Sub [(0, .slice A_a (a.length) c_a), (5, .int .i64 i), (1, .int .i64 (k + cnts cntEPane (a.take i)))] f) (((fun (i : Nat) => a.length - i) (0))) ?_ ?_
 ·refine ⟨0, rfl, ?_, (mrkTo_zero.symm ▸ o_a), ⟨rfl, rfl, ?_, trivial⟩⟩
  · exact Nat.zero_le _
  · (refine congrArg some (congrArg (Value.int _) ?_); simp [cnts])
 clear hs1
 rintro _ f w L5 ⟨i, rfl, p0, ho6, hG⟩ hF hs7
 refine WC.sub _ (hG.app hF) ?_
 clear hG hF
 have hfl : (mrkTo mkEPane cntEPane k a i).length = a.length := mrkTo_len p0
 have hq0 := cnts_nonneg (c := cntEPane) hcn (a.take i)
 have hq1 := cnts_take_le hcn a i
 refine WC.seq (fun K8 hK8 => WC.r1 hs7 [] rfl ?_)
 refine WC.cq rfl (fun h9 qh9 => ?_) (fun h9 qh9 => ?_)
 ·have hnn_Term_S_Back := cnts_nonneg (c := cntERow) cntERow_ge ((gat encPaneR (mrkTo mkEPane cntEPane k a i) i).Term.S.Back.xs)
  have hg := mrkTo_gat (mk := mkEPane) (c := cntEPane) (F := encPaneR) (k := k) (xs := a) (i := i) (by omega)
  have hq2 := cnts_take (c := cntEPane) (F := encPaneR) (xs := a) (i := i) (by omega)
  have hq3 := cnts_take_le hcn a (i + 1)
  have hq4 := hq2
  simp only [cntEPane, ← hg] at hq4
  have hb4_Term_S_Back := h4_Term_S_Back _ (gat_mem (F := encPaneR) (show i < a.length by omega))
  rw [← hg] at hb4_Term_S_Back
  refine WC.skip (hK8 _ _ (WC.seq (fun K10 hK10 => WC.block (WC.sr (WL.r 3 hs7 [] rfl ?_)))))
  refine WL.val rfl rfl rfl (Run.idxN Tryz.runUnderlying29 Tryz.sizeOf93 rfl rfl rfl ?_ ?_ ?_) ?_
  · exact SlF.some_ (OwnN.sl ho6 (hs7.ow L5))
  · omega
  · omega
  refine WL.val rfl rfl rfl (Run.fieldO Tryz.runUnderlying93 rfl rfl rfl Tryz.sizeOf3 rfl) ?_
  obtain ⟨L11, L12, hs15, ho13, ho14⟩ := OwnN.open_ hs7 ho6
  obtain ⟨y_1, hy_1⟩ : ∃ z_, z_ = ({ (gat encPaneR (mrkTo mkEPane cntEPane k a i) i) with Id := (k + cnts cntEPane (a.take i)) } : PaneR) := ⟨_, rfl⟩
  refine WL.storeF (x' := y_1) hs15 ho13 Tryz.sizeOf3 rfl rfl rfl rfl rfl rfl rfl rfl rfl ?_ (by rw [hy_1]; rfl) (fun L16 whs17 hs17 ho18 _ => ?_)
  · omega
  refine WL.nil (WC.r1 hs17 [] rfl (WC.sr (WL.r 3 hs17 [] rfl (WL.cl Tryz.call127 rfl (k170_ _ _ ?_) ?_))))
  · first | assumption | rfl | omega
  rintro _ whs19 ⟨rfl, hs19⟩
  replace hs19 := hs17.call0 hs19
  refine ⟨_, rfl, WL.val rfl rfl rfl (Run.idxN Tryz.runUnderlying29 Tryz.sizeOf93 rfl rfl rfl ?_ ?_ ?_) ?_⟩
  · exact SlF.some_ (SlF.ofOwn ho18 (hs19.ow L16))
  · omega
  · omega
  refine WL.val rfl rfl rfl (Run.fieldO Tryz.runUnderlying93 rfl rfl rfl Tryz.sizeOf9 rfl) ?_
  obtain ⟨y_2, hy_2⟩ : ∃ z_, z_ = ({ y_1 with Cmd := markText ((k + cnts cntEPane (a.take i)) + 1) } : PaneR) := ⟨_, rfl⟩
  refine WL.storeF (x' := y_2) hs19 ho18 Tryz.sizeOf9 rfl rfl rfl rfl rfl rfl rfl rfl rfl ?_ (by first | (rw [hy_2, gat_set (by (try simp only [List.length_set]); omega) rfl]; rfl) | (rw [hy_2]; rfl)) (fun L20 whs21 hs21 ho22 _ => ?_)
  · omega
  refine WL.nil (WC.r1 hs21 [] rfl (WC.sr (WL.r 3 hs21 [] rfl (WL.cl Tryz.call127 rfl (k170_ _ _ ?_) ?_))))
  · first | assumption | rfl | omega
  rintro _ whs23 ⟨rfl, hs23⟩
  replace hs23 := hs21.call0 hs23
  refine ⟨_, rfl, WL.val rfl rfl rfl (Run.idxN Tryz.runUnderlying29 Tryz.sizeOf93 rfl rfl rfl ?_ ?_ ?_) ?_⟩
  · exact SlF.some_ (SlF.ofOwn ho22 (hs23.ow L20))
  · omega
  · omega
  refine WL.val rfl rfl rfl (Run.fieldO Tryz.runUnderlying93 rfl rfl rfl Tryz.sizeOf9 rfl) ?_
  obtain ⟨y_3, hy_3⟩ : ∃ z_, z_ = ({ y_2 with Dir := markText (((k + cnts cntEPane (a.take i)) + 1) + 1) } : PaneR) := ⟨_, rfl⟩
  refine WL.storeF (x' := y_3) hs23 ho22 Tryz.sizeOf9 rfl rfl rfl rfl rfl rfl rfl rfl rfl ?_ (by first | (rw [hy_3, gat_set (by (try simp only [List.length_set]); omega) rfl]; rfl) | (rw [hy_3]; rfl)) (fun L24 whs25 hs25 ho26 _ => ?_)
  · omega
  refine WL.nil (WC.r1 hs25 [] rfl (WC.sr (WL.r 3 hs25 [] rfl (WL.val rfl rfl rfl (Run.idxN Tryz.runUnderlying29 Tryz.sizeOf93 rfl rfl rfl ?_ ?_ ?_) ?_))))
  · exact SlF.some_ (SlF.ofOwn ho26 (hs25.ow L24))
  · omega
  · omega
  refine WL.val rfl rfl rfl (Run.fieldO Tryz.runUnderlying93 rfl rfl rfl Tryz.sizeOf3 rfl) ?_
  obtain ⟨y_4, hy_4⟩ : ∃ z_, z_ = ({ y_3 with Life := ((((k + cnts cntEPane (a.take i)) + 1) + 1) + 1) } : PaneR) := ⟨_, rfl⟩
  refine WL.storeF (x' := y_4) hs25 ho26 Tryz.sizeOf3 rfl rfl rfl rfl rfl rfl rfl rfl rfl ?_ (by first | (rw [hy_4, gat_set (by (try simp only [List.length_set]); omega) rfl]; rfl) | (rw [hy_4]; rfl)) (fun L27 whs28 hs28 ho29 _ => ?_)
  · omega
  refine WL.nil (WC.r1 hs28 [] rfl (WC.sr (WL.r 3 hs28 [] rfl (WL.val rfl rfl rfl (Run.idxN Tryz.runUnderlying29 Tryz.sizeOf93 rfl rfl rfl ?_ ?_ ?_) ?_))))
  · exact SlF.some_ (SlF.ofOwn ho29 (hs28.ow L27))
  · omega
  · omega
  refine WL.val rfl rfl rfl (Run.fieldO Tryz.runUnderlying93 rfl rfl rfl Tryz.sizeOf3 rfl) ?_
  obtain ⟨y_5, hy_5⟩ : ∃ z_, z_ = ({ y_4 with Code := (((((k + cnts cntEPane (a.take i)) + 1) + 1) + 1) + 1) } : PaneR) := ⟨_, rfl⟩
  refine WL.storeF (x' := y_5) hs28 ho29 Tryz.sizeOf3 rfl rfl rfl rfl rfl rfl rfl rfl rfl ?_ (by first | (rw [hy_5, gat_set (by (try simp only [List.length_set]); omega) rfl]; rfl) | (rw [hy_5]; rfl)) (fun L30 whs31 hs31 ho32 _ => ?_)
  · omega
  refine WL.nil (WC.r1 hs31 [] rfl (WC.sr (WL.r 3 hs31 [] rfl (WL.val rfl rfl rfl (Run.idxN Tryz.runUnderlying29 Tryz.sizeOf93 rfl rfl rfl ?_ ?_ ?_) ?_))))
  · exact SlF.some_ (SlF.ofOwn ho32 (hs31.ow L30))
  · omega
  · omega
  refine WL.val rfl rfl rfl (Run.fieldO Tryz.runUnderlying93 rfl rfl rfl Tryz.sizeOf3 rfl) ?_
  obtain ⟨y_6, hy_6⟩ : ∃ z_, z_ = ({ y_5 with Pid := ((((((k + cnts cntEPane (a.take i)) + 1) + 1) + 1) + 1) + 1) } : PaneR) := ⟨_, rfl⟩
  refine WL.storeF (x' := y_6) hs31 ho32 Tryz.sizeOf3 rfl rfl rfl rfl rfl rfl rfl rfl rfl ?_ (by first | (rw [hy_6, gat_set (by (try simp only [List.length_set]); omega) rfl]; rfl) | (rw [hy_6]; rfl)) (fun L33 whs34 hs34 ho35 _ => ?_)
  · omega
  refine WL.nil (WC.r1 hs34 [] rfl (WC.sr (WL.r 3 hs34 [] rfl (WL.val rfl rfl rfl (Run.idxN Tryz.runUnderlying29 Tryz.sizeOf93 rfl rfl rfl ?_ ?_ ?_) ?_))))
  · exact SlF.some_ (SlF.ofOwn ho35 (hs34.ow L33))
  · omega
  · omega
  refine WL.val rfl rfl rfl (Run.fieldO Tryz.runUnderlying93 rfl rfl rfl Tryz.sizeOf91 rfl) (WL.val rfl rfl rfl (Run.fieldE Tryz.runUnderlying91 rfl rfl rfl Tryz.sizeOf84 rfl) (WL.val rfl rfl rfl (Run.fieldE Tryz.runUnderlying84 rfl rfl rfl Tryz.sizeOf3 rfl) ?_))
  obtain ⟨y_7, hy_7⟩ : ∃ z_, z_ = ({ y_6 with Term.P.State := (((((((k + cnts cntEPane (a.take i)) + 1) + 1) + 1) + 1) + 1) + 1) } : PaneR) := ⟨_, rfl⟩
  refine WL.storeF (x' := y_7) hs34 ho35 Tryz.sizeOf3 rfl rfl rfl rfl rfl rfl rfl rfl rfl ?_ (by first | (rw [hy_7, gat_set (by (try simp only [List.length_set]); omega) rfl]; rfl) | (rw [hy_7]; rfl)) (fun L36 whs37 hs37 ho38 _ => ?_)
  · omega
  refine WL.nil (WC.r1 hs37 [] rfl (WC.sr (WL.r 3 hs37 [] rfl (WL.val rfl rfl rfl (Run.rem rfl rfl rfl ?_ ?_) ?_))))
  · omega
  · omega
  refine WL.r 1 hs37 [] rfl (WL.val rfl rfl rfl (Run.idxN Tryz.runUnderlying29 Tryz.sizeOf93 rfl rfl rfl ?_ ?_ ?_) ?_)
  · exact SlF.some_ (SlF.ofOwn ho38 (hs37.ow L36))
  · omega
  · omega
  refine WL.val rfl rfl rfl (Run.fieldO Tryz.runUnderlying93 rfl rfl rfl Tryz.sizeOf91 rfl) (WL.val rfl rfl rfl (Run.fieldE Tryz.runUnderlying91 rfl rfl rfl Tryz.sizeOf84 rfl) (WL.val rfl rfl rfl (Run.fieldE Tryz.runUnderlying84 rfl rfl rfl Tryz.sizeOf4 rfl) ?_))
  obtain ⟨y_8, hy_8⟩ : ∃ z_, z_ = ({ y_7 with Term.P.Mark := decide (((((((((k + cnts cntEPane (a.take i)) + 1) + 1) + 1) + 1) + 1) + 1) + 1) % 3 = 0) } : PaneR) := ⟨_, rfl⟩
  refine WL.storeF (x' := y_8) hs37 ho38 Tryz.sizeOf4 rfl rfl rfl rfl rfl rfl rfl rfl rfl ?_ (by first | (rw [hy_8, gat_set (by (try simp only [List.length_set]); omega) rfl]; rfl) | (rw [hy_8]; rfl)) (fun L39 whs40 hs40 ho41 _ => ?_)
  · omega
  refine WL.nil (WC.r1 hs40 [] rfl (WC.sr (WL.r 2 hs40 [] rfl (WL.val rfl rfl rfl (Run.idxN Tryz.runUnderlying29 Tryz.sizeOf93 rfl rfl rfl ?_ ?_ ?_) ?_))))
  · exact SlF.some_ (SlF.ofOwn ho41 (hs40.ow L39))
  · omega
  · omega
  refine WL.val rfl rfl rfl (Run.fieldO Tryz.runUnderlying93 rfl rfl rfl Tryz.sizeOf91 rfl) (WL.val rfl rfl rfl (Run.fieldE Tryz.runUnderlying91 rfl rfl rfl Tryz.sizeOf84 rfl) (WL.val rfl rfl rfl (Run.fieldE Tryz.runUnderlying84 rfl rfl rfl Tryz.sizeOf60 rfl) (WL.val rfl rfl rfl (Run.load Tryz.isAgg60 rfl rfl (SlF.fld (v := .slice (gat encPaneR (mrkTo mkEPane cntEPane k a i) i).Term.P.Args.A (gat encPaneR (mrkTo mkEPane cntEPane k a i) i).Term.P.Args.n (gat encPaneR (mrkTo mkEPane cntEPane k a i) i).Term.P.Args.c) (SlF.ofOwn ho41 (hs40.ow L39)) ?_ ?_)) ?_)))
  · omega
  · first | (rw [gat_set (by (try simp only [List.length_set]); omega) rfl]; simp only [hy_8, hy_7, hy_6, hy_5, hy_4, hy_3, hy_2, hy_1]; done) | (rw [gat_set (by (try simp only [List.length_set]); omega) rfl]; simp only [hy_8, hy_7, hy_6, hy_5, hy_4, hy_3, hy_2, hy_1]; rfl) | rfl
  refine WL.r 1 hs40 [] rfl ?_
  obtain ⟨L43, L44, L45, hs46, ho47, hp48⟩ := Bag.out (F := encPaneR) (i := i) (hs40.fr L12) ho14 (by rw [mrkTo_len (by omega)]; omega)
  obtain ⟨L49, L50, L51, L52, L53, L54, hs61, ho55, ho56, ho57, ho58, ho59, ho60⟩ := ownPaneR.op hs46 ho47
  refine WL.cl Tryz.call128 rfl (k175_ _ _ _ _ _ ho55 (hs61.ow L49) ?_ ?_ ?_) ?_
  iterate 3 first | assumption | rfl | omega
  rintro _ whs42 ⟨L1_62, rfl, hs42, ho63⟩
  replace hs42 := St.lend hs61 hs42
  refine ⟨_, rfl, WL.r 1 hs42 [] rfl (WL.nil (WC.sr (WL.r 2 hs42 [] rfl (WL.val rfl rfl rfl (Run.idxN Tryz.runUnderlying29 Tryz.sizeOf93 rfl rfl rfl ?_ ?_ ?_) ?_))))⟩
  · exact SlF.some_ (SlF.ofOwn ho41 (hs42.ow L39))
  · omega
  · omega
  refine WL.val rfl rfl rfl (Run.fieldO Tryz.runUnderlying93 rfl rfl rfl Tryz.sizeOf91 rfl) (WL.val rfl rfl rfl (Run.fieldE Tryz.runUnderlying91 rfl rfl rfl Tryz.sizeOf84 rfl) (WL.val rfl rfl rfl (Run.fieldE Tryz.runUnderlying84 rfl rfl rfl Tryz.sizeOf44 rfl) (WL.val rfl rfl rfl (Run.load Tryz.isAgg44 rfl rfl (SlF.fld (v := .slice (gat encPaneR (mrkTo mkEPane cntEPane k a i) i).Term.P.Part.A (gat encPaneR (mrkTo mkEPane cntEPane k a i) i).Term.P.Part.n (gat encPaneR (mrkTo mkEPane cntEPane k a i) i).Term.P.Part.c) (SlF.ofOwn ho41 (hs42.ow L39)) ?_ ?_)) ?_)))
  · omega
  · first | (rw [gat_set (by (try simp only [List.length_set]); omega) rfl]; simp only [hy_8, hy_7, hy_6, hy_5, hy_4, hy_3, hy_2, hy_1]; done) | (rw [gat_set (by (try simp only [List.length_set]); omega) rfl]; simp only [hy_8, hy_7, hy_6, hy_5, hy_4, hy_3, hy_2, hy_1]; rfl) | rfl
  refine WL.r 1 hs42 [] rfl (WL.cl Tryz.call27 rfl (k171_ _ _ _ _ _ ho56 (hs42.ow L50) ?_ ?_ ?_) ?_)
  iterate 3 first | assumption | rfl | omega
  rintro _ whs64 ⟨L1_65, rfl, hs64, ho66⟩
  replace hs64 := St.lend (hs42.fr L50) hs64
  refine ⟨_, rfl, WL.r 1 hs64 [] rfl (WL.nil (WC.sr (WL.r 3 hs64 [] rfl (WL.val rfl rfl rfl (Run.idxN Tryz.runUnderlying29 Tryz.sizeOf93 rfl rfl rfl ?_ ?_ ?_) ?_))))⟩
  · exact SlF.some_ (SlF.ofOwn ho41 (hs64.ow L39))
  · omega
  · omega
  refine WL.val rfl rfl rfl (Run.fieldO Tryz.runUnderlying93 rfl rfl rfl Tryz.sizeOf91 rfl) (WL.val rfl rfl rfl (Run.fieldE Tryz.runUnderlying91 rfl rfl rfl Tryz.sizeOf89 rfl) (WL.val rfl rfl rfl (Run.fieldE Tryz.runUnderlying89 rfl rfl rfl Tryz.sizeOf3 rfl) ?_))
  obtain ⟨y_9, hy_9⟩ : ∃ z_, z_ = ({ y_8 with Term.S.W := (((((((((((k + cnts cntEPane (a.take i)) + 1) + 1) + 1) + 1) + 1) + 1) + 1) + 1) + 1 * ((gat encPaneR (mrkTo mkEPane cntEPane k a i) i).Term.P.Args.xs.length : Int)) + 1 * ((gat encPaneR (mrkTo mkEPane cntEPane k a i) i).Term.P.Part.xs.length : Int)) } : PaneR) := ⟨_, rfl⟩
  refine WL.storeF (x' := y_9) (hs64.fr L39) ho41 Tryz.sizeOf3 rfl rfl rfl rfl rfl rfl rfl rfl rfl ?_ (by first | (rw [hy_9, gat_set (by (try simp only [List.length_set]); omega) rfl]; rfl) | (rw [hy_9]; rfl)) (fun L67 whs68 hs68 ho69 _ => ?_)
  · omega
  refine WL.nil (WC.r1 hs68 [] rfl (WC.sr (WL.r 3 hs68 [] rfl (WL.val rfl rfl rfl (Run.idxN Tryz.runUnderlying29 Tryz.sizeOf93 rfl rfl rfl ?_ ?_ ?_) ?_))))
  · exact SlF.some_ (SlF.ofOwn ho69 (hs68.ow L67))
  · omega
  · omega
  refine WL.val rfl rfl rfl (Run.fieldO Tryz.runUnderlying93 rfl rfl rfl Tryz.sizeOf91 rfl) (WL.val rfl rfl rfl (Run.fieldE Tryz.runUnderlying91 rfl rfl rfl Tryz.sizeOf89 rfl) (WL.val rfl rfl rfl (Run.fieldE Tryz.runUnderlying89 rfl rfl rfl Tryz.sizeOf3 rfl) ?_))
  obtain ⟨y_10, hy_10⟩ : ∃ z_, z_ = ({ y_9 with Term.S.H := ((((((((((((k + cnts cntEPane (a.take i)) + 1) + 1) + 1) + 1) + 1) + 1) + 1) + 1) + 1 * ((gat encPaneR (mrkTo mkEPane cntEPane k a i) i).Term.P.Args.xs.length : Int)) + 1 * ((gat encPaneR (mrkTo mkEPane cntEPane k a i) i).Term.P.Part.xs.length : Int)) + 1) } : PaneR) := ⟨_, rfl⟩
  refine WL.storeF (x' := y_10) hs68 ho69 Tryz.sizeOf3 rfl rfl rfl rfl rfl rfl rfl rfl rfl ?_ (by first | (rw [hy_10, gat_set (by (try simp only [List.length_set]); omega) rfl]; rfl) | (rw [hy_10]; rfl)) (fun L70 whs71 hs71 ho72 _ => ?_)
  · omega
  refine WL.nil (WC.r1 hs71 [] rfl (WC.sr (WL.r 3 hs71 [] rfl (WL.val rfl rfl rfl (Run.idxN Tryz.runUnderlying29 Tryz.sizeOf93 rfl rfl rfl ?_ ?_ ?_) ?_))))
  · exact SlF.some_ (SlF.ofOwn ho72 (hs71.ow L70))
  · omega
  · omega
  refine WL.val rfl rfl rfl (Run.fieldO Tryz.runUnderlying93 rfl rfl rfl Tryz.sizeOf91 rfl) (WL.val rfl rfl rfl (Run.fieldE Tryz.runUnderlying91 rfl rfl rfl Tryz.sizeOf89 rfl) (WL.val rfl rfl rfl (Run.fieldE Tryz.runUnderlying89 rfl rfl rfl Tryz.sizeOf76 rfl) (WL.val rfl rfl rfl (Run.fieldE Tryz.runUnderlying76 rfl rfl rfl Tryz.sizeOf3 rfl) ?_)))
  obtain ⟨y_11, hy_11⟩ : ∃ z_, z_ = ({ y_10 with Term.S.Main.W := (((((((((((((k + cnts cntEPane (a.take i)) + 1) + 1) + 1) + 1) + 1) + 1) + 1) + 1) + 1 * ((gat encPaneR (mrkTo mkEPane cntEPane k a i) i).Term.P.Args.xs.length : Int)) + 1 * ((gat encPaneR (mrkTo mkEPane cntEPane k a i) i).Term.P.Part.xs.length : Int)) + 1) + 1) } : PaneR) := ⟨_, rfl⟩
  refine WL.storeF (x' := y_11) hs71 ho72 Tryz.sizeOf3 rfl rfl rfl rfl rfl rfl rfl rfl rfl ?_ (by first | (rw [hy_11, gat_set (by (try simp only [List.length_set]); omega) rfl]; rfl) | (rw [hy_11]; rfl)) (fun L73 whs74 hs74 ho75 _ => ?_)
  · omega
  refine WL.nil (WC.r1 hs74 [] rfl (WC.sr (WL.r 3 hs74 [] rfl (WL.val rfl rfl rfl (Run.idxN Tryz.runUnderlying29 Tryz.sizeOf93 rfl rfl rfl ?_ ?_ ?_) ?_))))
  · exact SlF.some_ (SlF.ofOwn ho75 (hs74.ow L73))
  · omega
  · omega
  refine WL.val rfl rfl rfl (Run.fieldO Tryz.runUnderlying93 rfl rfl rfl Tryz.sizeOf91 rfl) (WL.val rfl rfl rfl (Run.fieldE Tryz.runUnderlying91 rfl rfl rfl Tryz.sizeOf89 rfl) (WL.val rfl rfl rfl (Run.fieldE Tryz.runUnderlying89 rfl rfl rfl Tryz.sizeOf76 rfl) (WL.val rfl rfl rfl (Run.fieldE Tryz.runUnderlying76 rfl rfl rfl Tryz.sizeOf3 rfl) ?_)))
  obtain ⟨y_12, hy_12⟩ : ∃ z_, z_ = ({ y_11 with Term.S.Main.H := ((((((((((((((k + cnts cntEPane (a.take i)) + 1) + 1) + 1) + 1) + 1) + 1) + 1) + 1) + 1 * ((gat encPaneR (mrkTo mkEPane cntEPane k a i) i).Term.P.Args.xs.length : Int)) + 1 * ((gat encPaneR (mrkTo mkEPane cntEPane k a i) i).Term.P.Part.xs.length : Int)) + 1) + 1) + 1) } : PaneR) := ⟨_, rfl⟩
  refine WL.storeF (x' := y_12) hs74 ho75 Tryz.sizeOf3 rfl rfl rfl rfl rfl rfl rfl rfl rfl ?_ (by first | (rw [hy_12, gat_set (by (try simp only [List.length_set]); omega) rfl]; rfl) | (rw [hy_12]; rfl)) (fun L76 whs77 hs77 ho78 _ => ?_)
  · omega
  refine WL.nil (WC.r1 hs77 [] rfl (WC.sr (WL.r 2 hs77 [] rfl (WL.val rfl rfl rfl (Run.idxN Tryz.runUnderlying29 Tryz.sizeOf93 rfl rfl rfl ?_ ?_ ?_) ?_))))
  · exact SlF.some_ (SlF.ofOwn ho78 (hs77.ow L76))
  · omega
  · omega
  refine WL.val rfl rfl rfl (Run.fieldO Tryz.runUnderlying93 rfl rfl rfl Tryz.sizeOf91 rfl) (WL.val rfl rfl rfl (Run.fieldE Tryz.runUnderlying91 rfl rfl rfl Tryz.sizeOf89 rfl) (WL.val rfl rfl rfl (Run.fieldE Tryz.runUnderlying89 rfl rfl rfl Tryz.sizeOf76 rfl) (WL.val rfl rfl rfl (Run.fieldE Tryz.runUnderlying76 rfl rfl rfl Tryz.sizeOf74 rfl) (WL.val rfl rfl rfl (Run.load Tryz.isAgg74 rfl rfl (SlF.fld (v := .slice (gat encPaneR (mrkTo mkEPane cntEPane k a i) i).Term.S.Main.Cells.A (gat encPaneR (mrkTo mkEPane cntEPane k a i) i).Term.S.Main.Cells.n (gat encPaneR (mrkTo mkEPane cntEPane k a i) i).Term.S.Main.Cells.c) (SlF.ofOwn ho78 (hs77.ow L76)) ?_ ?_)) ?_))))
  · omega
  · first | (rw [gat_set (by (try simp only [List.length_set]); omega) rfl]; simp only [hy_12, hy_11, hy_10, hy_9, hy_8, hy_7, hy_6, hy_5, hy_4, hy_3, hy_2, hy_1]; done) | (rw [gat_set (by (try simp only [List.length_set]); omega) rfl]; simp only [hy_12, hy_11, hy_10, hy_9, hy_8, hy_7, hy_6, hy_5, hy_4, hy_3, hy_2, hy_1]; rfl) | rfl
  refine WL.r 1 hs77 [] rfl (WL.cl Tryz.call129 rfl (k173_ _ _ _ _ _ ho57 (hs77.ow L51) ?_ ?_ ?_) ?_)
  iterate 3 first | assumption | rfl | omega
  rintro _ whs79 ⟨L1_80, rfl, hs79, ho81⟩
  replace hs79 := St.lend (hs77.fr L51) hs79
  refine ⟨_, rfl, WL.r 1 hs79 [] rfl (WL.nil (WC.sr (WL.r 3 hs79 [] rfl (WL.val rfl rfl rfl (Run.idxN Tryz.runUnderlying29 Tryz.sizeOf93 rfl rfl rfl ?_ ?_ ?_) ?_))))⟩
  · exact SlF.some_ (SlF.ofOwn ho78 (hs79.ow L76))
  · omega
  · omega
  refine WL.val rfl rfl rfl (Run.fieldO Tryz.runUnderlying93 rfl rfl rfl Tryz.sizeOf91 rfl) (WL.val rfl rfl rfl (Run.fieldE Tryz.runUnderlying91 rfl rfl rfl Tryz.sizeOf89 rfl) (WL.val rfl rfl rfl (Run.fieldE Tryz.runUnderlying89 rfl rfl rfl Tryz.sizeOf76 rfl) (WL.val rfl rfl rfl (Run.fieldE Tryz.runUnderlying76 rfl rfl rfl Tryz.sizeOf3 rfl) ?_)))
  obtain ⟨y_13, hy_13⟩ : ∃ z_, z_ = ({ y_12 with Term.S.Alt.W := ((((((((((((((((k + cnts cntEPane (a.take i)) + 1) + 1) + 1) + 1) + 1) + 1) + 1) + 1) + 1 * ((gat encPaneR (mrkTo mkEPane cntEPane k a i) i).Term.P.Args.xs.length : Int)) + 1 * ((gat encPaneR (mrkTo mkEPane cntEPane k a i) i).Term.P.Part.xs.length : Int)) + 1) + 1) + 1) + 1) + 6 * ((gat encPaneR (mrkTo mkEPane cntEPane k a i) i).Term.S.Main.Cells.xs.length : Int)) } : PaneR) := ⟨_, rfl⟩
  refine WL.storeF (x' := y_13) (hs79.fr L76) ho78 Tryz.sizeOf3 rfl rfl rfl rfl rfl rfl rfl rfl rfl ?_ (by first | (rw [hy_13, gat_set (by (try simp only [List.length_set]); omega) rfl]; rfl) | (rw [hy_13]; rfl)) (fun L82 whs83 hs83 ho84 _ => ?_)
  · omega
  refine WL.nil (WC.r1 hs83 [] rfl (WC.sr (WL.r 3 hs83 [] rfl (WL.val rfl rfl rfl (Run.idxN Tryz.runUnderlying29 Tryz.sizeOf93 rfl rfl rfl ?_ ?_ ?_) ?_))))
  · exact SlF.some_ (SlF.ofOwn ho84 (hs83.ow L82))
  · omega
  · omega
  refine WL.val rfl rfl rfl (Run.fieldO Tryz.runUnderlying93 rfl rfl rfl Tryz.sizeOf91 rfl) (WL.val rfl rfl rfl (Run.fieldE Tryz.runUnderlying91 rfl rfl rfl Tryz.sizeOf89 rfl) (WL.val rfl rfl rfl (Run.fieldE Tryz.runUnderlying89 rfl rfl rfl Tryz.sizeOf76 rfl) (WL.val rfl rfl rfl (Run.fieldE Tryz.runUnderlying76 rfl rfl rfl Tryz.sizeOf3 rfl) ?_)))
  obtain ⟨y_14, hy_14⟩ : ∃ z_, z_ = ({ y_13 with Term.S.Alt.H := (((((((((((((((((k + cnts cntEPane (a.take i)) + 1) + 1) + 1) + 1) + 1) + 1) + 1) + 1) + 1 * ((gat encPaneR (mrkTo mkEPane cntEPane k a i) i).Term.P.Args.xs.length : Int)) + 1 * ((gat encPaneR (mrkTo mkEPane cntEPane k a i) i).Term.P.Part.xs.length : Int)) + 1) + 1) + 1) + 1) + 6 * ((gat encPaneR (mrkTo mkEPane cntEPane k a i) i).Term.S.Main.Cells.xs.length : Int)) + 1) } : PaneR) := ⟨_, rfl⟩
  refine WL.storeF (x' := y_14) hs83 ho84 Tryz.sizeOf3 rfl rfl rfl rfl rfl rfl rfl rfl rfl ?_ (by first | (rw [hy_14, gat_set (by (try simp only [List.length_set]); omega) rfl]; rfl) | (rw [hy_14]; rfl)) (fun L85 whs86 hs86 ho87 _ => ?_)
  · omega
  refine WL.nil (WC.r1 hs86 [] rfl (WC.sr (WL.r 2 hs86 [] rfl (WL.val rfl rfl rfl (Run.idxN Tryz.runUnderlying29 Tryz.sizeOf93 rfl rfl rfl ?_ ?_ ?_) ?_))))
  · exact SlF.some_ (SlF.ofOwn ho87 (hs86.ow L85))
  · omega
  · omega
  refine WL.val rfl rfl rfl (Run.fieldO Tryz.runUnderlying93 rfl rfl rfl Tryz.sizeOf91 rfl) (WL.val rfl rfl rfl (Run.fieldE Tryz.runUnderlying91 rfl rfl rfl Tryz.sizeOf89 rfl) (WL.val rfl rfl rfl (Run.fieldE Tryz.runUnderlying89 rfl rfl rfl Tryz.sizeOf76 rfl) (WL.val rfl rfl rfl (Run.fieldE Tryz.runUnderlying76 rfl rfl rfl Tryz.sizeOf74 rfl) (WL.val rfl rfl rfl (Run.load Tryz.isAgg74 rfl rfl (SlF.fld (v := .slice (gat encPaneR (mrkTo mkEPane cntEPane k a i) i).Term.S.Alt.Cells.A (gat encPaneR (mrkTo mkEPane cntEPane k a i) i).Term.S.Alt.Cells.n (gat encPaneR (mrkTo mkEPane cntEPane k a i) i).Term.S.Alt.Cells.c) (SlF.ofOwn ho87 (hs86.ow L85)) ?_ ?_)) ?_))))
  · omega
  · first | (rw [gat_set (by (try simp only [List.length_set]); omega) rfl]; simp only [hy_14, hy_13, hy_12, hy_11, hy_10, hy_9, hy_8, hy_7, hy_6, hy_5, hy_4, hy_3, hy_2, hy_1]; done) | (rw [gat_set (by (try simp only [List.length_set]); omega) rfl]; simp only [hy_14, hy_13, hy_12, hy_11, hy_10, hy_9, hy_8, hy_7, hy_6, hy_5, hy_4, hy_3, hy_2, hy_1]; rfl) | rfl
  refine WL.r 1 hs86 [] rfl (WL.cl Tryz.call129 rfl (k173_ _ _ _ _ _ ho58 (hs86.ow L52) ?_ ?_ ?_) ?_)
  iterate 3 first | assumption | rfl | omega
  rintro _ whs88 ⟨L1_89, rfl, hs88, ho90⟩
  replace hs88 := St.lend (hs86.fr L52) hs88
  refine ⟨_, rfl, WL.r 1 hs88 [] rfl (WL.nil (WC.sr (WL.r 3 hs88 [] rfl (WL.val rfl rfl rfl (Run.rem rfl rfl rfl ?_ ?_) ?_))))⟩
  · omega
  · omega
  refine WL.r 1 hs88 [] rfl (WL.val rfl rfl rfl (Run.idxN Tryz.runUnderlying29 Tryz.sizeOf93 rfl rfl rfl ?_ ?_ ?_) ?_)
  · exact SlF.some_ (SlF.ofOwn ho87 (hs88.ow L85))
  · omega
  · omega
  refine WL.val rfl rfl rfl (Run.fieldO Tryz.runUnderlying93 rfl rfl rfl Tryz.sizeOf91 rfl) (WL.val rfl rfl rfl (Run.fieldE Tryz.runUnderlying91 rfl rfl rfl Tryz.sizeOf89 rfl) (WL.val rfl rfl rfl (Run.fieldE Tryz.runUnderlying89 rfl rfl rfl Tryz.sizeOf4 rfl) ?_))
  obtain ⟨y_15, hy_15⟩ : ∃ z_, z_ = ({ y_14 with Term.S.OnAlt := decide ((((((((((((((((((((k + cnts cntEPane (a.take i)) + 1) + 1) + 1) + 1) + 1) + 1) + 1) + 1) + 1 * ((gat encPaneR (mrkTo mkEPane cntEPane k a i) i).Term.P.Args.xs.length : Int)) + 1 * ((gat encPaneR (mrkTo mkEPane cntEPane k a i) i).Term.P.Part.xs.length : Int)) + 1) + 1) + 1) + 1) + 6 * ((gat encPaneR (mrkTo mkEPane cntEPane k a i) i).Term.S.Main.Cells.xs.length : Int)) + 1) + 1) + 6 * ((gat encPaneR (mrkTo mkEPane cntEPane k a i) i).Term.S.Alt.Cells.xs.length : Int)) % 3 = 0) } : PaneR) := ⟨_, rfl⟩
  refine WL.storeF (x' := y_15) (hs88.fr L85) ho87 Tryz.sizeOf4 rfl rfl rfl rfl rfl rfl rfl rfl rfl ?_ (by first | (rw [hy_15, gat_set (by (try simp only [List.length_set]); omega) rfl]; rfl) | (rw [hy_15]; rfl)) (fun L91 whs92 hs92 ho93 _ => ?_)
  · omega
  refine WL.nil (WC.r1 hs92 [] rfl (WC.sr (WL.r 3 hs92 [] rfl (WL.val rfl rfl rfl (Run.idxN Tryz.runUnderlying29 Tryz.sizeOf93 rfl rfl rfl ?_ ?_ ?_) ?_))))
  · exact SlF.some_ (SlF.ofOwn ho93 (hs92.ow L91))
  · omega
  · omega
  refine WL.val rfl rfl rfl (Run.fieldO Tryz.runUnderlying93 rfl rfl rfl Tryz.sizeOf91 rfl) (WL.val rfl rfl rfl (Run.fieldE Tryz.runUnderlying91 rfl rfl rfl Tryz.sizeOf89 rfl) (WL.val rfl rfl rfl (Run.fieldE Tryz.runUnderlying89 rfl rfl rfl Tryz.sizeOf3 rfl) ?_))
  obtain ⟨y_16, hy_16⟩ : ∃ z_, z_ = ({ y_15 with Term.S.X := ((((((((((((((((((((k + cnts cntEPane (a.take i)) + 1) + 1) + 1) + 1) + 1) + 1) + 1) + 1) + 1 * ((gat encPaneR (mrkTo mkEPane cntEPane k a i) i).Term.P.Args.xs.length : Int)) + 1 * ((gat encPaneR (mrkTo mkEPane cntEPane k a i) i).Term.P.Part.xs.length : Int)) + 1) + 1) + 1) + 1) + 6 * ((gat encPaneR (mrkTo mkEPane cntEPane k a i) i).Term.S.Main.Cells.xs.length : Int)) + 1) + 1) + 6 * ((gat encPaneR (mrkTo mkEPane cntEPane k a i) i).Term.S.Alt.Cells.xs.length : Int)) + 1) } : PaneR) := ⟨_, rfl⟩
  refine WL.storeF (x' := y_16) hs92 ho93 Tryz.sizeOf3 rfl rfl rfl rfl rfl rfl rfl rfl rfl ?_ (by first | (rw [hy_16, gat_set (by (try simp only [List.length_set]); omega) rfl]; rfl) | (rw [hy_16]; rfl)) (fun L94 whs95 hs95 ho96 _ => ?_)
  · omega
  refine WL.nil (WC.r1 hs95 [] rfl (WC.sr (WL.r 3 hs95 [] rfl (WL.val rfl rfl rfl (Run.idxN Tryz.runUnderlying29 Tryz.sizeOf93 rfl rfl rfl ?_ ?_ ?_) ?_))))
  · exact SlF.some_ (SlF.ofOwn ho96 (hs95.ow L94))
  · omega
  · omega
  refine WL.val rfl rfl rfl (Run.fieldO Tryz.runUnderlying93 rfl rfl rfl Tryz.sizeOf91 rfl) (WL.val rfl rfl rfl (Run.fieldE Tryz.runUnderlying91 rfl rfl rfl Tryz.sizeOf89 rfl) (WL.val rfl rfl rfl (Run.fieldE Tryz.runUnderlying89 rfl rfl rfl Tryz.sizeOf3 rfl) ?_))
  obtain ⟨y_17, hy_17⟩ : ∃ z_, z_ = ({ y_16 with Term.S.Y := (((((((((((((((((((((k + cnts cntEPane (a.take i)) + 1) + 1) + 1) + 1) + 1) + 1) + 1) + 1) + 1 * ((gat encPaneR (mrkTo mkEPane cntEPane k a i) i).Term.P.Args.xs.length : Int)) + 1 * ((gat encPaneR (mrkTo mkEPane cntEPane k a i) i).Term.P.Part.xs.length : Int)) + 1) + 1) + 1) + 1) + 6 * ((gat encPaneR (mrkTo mkEPane cntEPane k a i) i).Term.S.Main.Cells.xs.length : Int)) + 1) + 1) + 6 * ((gat encPaneR (mrkTo mkEPane cntEPane k a i) i).Term.S.Alt.Cells.xs.length : Int)) + 1) + 1) } : PaneR) := ⟨_, rfl⟩
  refine WL.storeF (x' := y_17) hs95 ho96 Tryz.sizeOf3 rfl rfl rfl rfl rfl rfl rfl rfl rfl ?_ (by first | (rw [hy_17, gat_set (by (try simp only [List.length_set]); omega) rfl]; rfl) | (rw [hy_17]; rfl)) (fun L97 whs98 hs98 ho99 _ => ?_)
  · omega
  refine WL.nil (WC.r1 hs98 [] rfl (WC.sr (WL.r 3 hs98 [] rfl (WL.val rfl rfl rfl (Run.rem rfl rfl rfl ?_ ?_) ?_))))
  · omega
  · omega
  refine WL.r 1 hs98 [] rfl (WL.val rfl rfl rfl (Run.idxN Tryz.runUnderlying29 Tryz.sizeOf93 rfl rfl rfl ?_ ?_ ?_) ?_)
  · exact SlF.some_ (SlF.ofOwn ho99 (hs98.ow L97))
  · omega
  · omega
  refine WL.val rfl rfl rfl (Run.fieldO Tryz.runUnderlying93 rfl rfl rfl Tryz.sizeOf91 rfl) (WL.val rfl rfl rfl (Run.fieldE Tryz.runUnderlying91 rfl rfl rfl Tryz.sizeOf89 rfl) (WL.val rfl rfl rfl (Run.fieldE Tryz.runUnderlying89 rfl rfl rfl Tryz.sizeOf4 rfl) ?_))
  obtain ⟨y_18, hy_18⟩ : ∃ z_, z_ = ({ y_17 with Term.S.Wrap := decide (((((((((((((((((((((((k + cnts cntEPane (a.take i)) + 1) + 1) + 1) + 1) + 1) + 1) + 1) + 1) + 1 * ((gat encPaneR (mrkTo mkEPane cntEPane k a i) i).Term.P.Args.xs.length : Int)) + 1 * ((gat encPaneR (mrkTo mkEPane cntEPane k a i) i).Term.P.Part.xs.length : Int)) + 1) + 1) + 1) + 1) + 6 * ((gat encPaneR (mrkTo mkEPane cntEPane k a i) i).Term.S.Main.Cells.xs.length : Int)) + 1) + 1) + 6 * ((gat encPaneR (mrkTo mkEPane cntEPane k a i) i).Term.S.Alt.Cells.xs.length : Int)) + 1) + 1) + 1) % 3 = 0) } : PaneR) := ⟨_, rfl⟩
  refine WL.storeF (x' := y_18) hs98 ho99 Tryz.sizeOf4 rfl rfl rfl rfl rfl rfl rfl rfl rfl ?_ (by first | (rw [hy_18, gat_set (by (try simp only [List.length_set]); omega) rfl]; rfl) | (rw [hy_18]; rfl)) (fun L100 whs101 hs101 ho102 _ => ?_)
  · omega
  refine WL.nil (WC.r1 hs101 [] rfl (WC.sr (WL.r 3 hs101 [] rfl (WL.val rfl rfl rfl (Run.idxN Tryz.runUnderlying29 Tryz.sizeOf93 rfl rfl rfl ?_ ?_ ?_) ?_))))
  · exact SlF.some_ (SlF.ofOwn ho102 (hs101.ow L100))
  · omega
  · omega
  refine WL.val rfl rfl rfl (Run.fieldO Tryz.runUnderlying93 rfl rfl rfl Tryz.sizeOf91 rfl) (WL.val rfl rfl rfl (Run.fieldE Tryz.runUnderlying91 rfl rfl rfl Tryz.sizeOf89 rfl) (WL.val rfl rfl rfl (Run.fieldE Tryz.runUnderlying89 rfl rfl rfl Tryz.sizeOf86 rfl) (WL.val rfl rfl rfl (Run.fieldE Tryz.runUnderlying86 rfl rfl rfl Tryz.sizeOf3 rfl) ?_)))
  obtain ⟨y_19, hy_19⟩ : ∃ z_, z_ = ({ y_18 with Term.S.A.Fg := (((((((((((((((((((((((k + cnts cntEPane (a.take i)) + 1) + 1) + 1) + 1) + 1) + 1) + 1) + 1) + 1 * ((gat encPaneR (mrkTo mkEPane cntEPane k a i) i).Term.P.Args.xs.length : Int)) + 1 * ((gat encPaneR (mrkTo mkEPane cntEPane k a i) i).Term.P.Part.xs.length : Int)) + 1) + 1) + 1) + 1) + 6 * ((gat encPaneR (mrkTo mkEPane cntEPane k a i) i).Term.S.Main.Cells.xs.length : Int)) + 1) + 1) + 6 * ((gat encPaneR (mrkTo mkEPane cntEPane k a i) i).Term.S.Alt.Cells.xs.length : Int)) + 1) + 1) + 1) + 1) } : PaneR) := ⟨_, rfl⟩
  refine WL.storeF (x' := y_19) hs101 ho102 Tryz.sizeOf3 rfl rfl rfl rfl rfl rfl rfl rfl rfl ?_ (by first | (rw [hy_19, gat_set (by (try simp only [List.length_set]); omega) rfl]; rfl) | (rw [hy_19]; rfl)) (fun L103 whs104 hs104 ho105 _ => ?_)
  · omega
  refine WL.nil (WC.r1 hs104 [] rfl (WC.sr (WL.r 3 hs104 [] rfl (WL.val rfl rfl rfl (Run.idxN Tryz.runUnderlying29 Tryz.sizeOf93 rfl rfl rfl ?_ ?_ ?_) ?_))))
  · exact SlF.some_ (SlF.ofOwn ho105 (hs104.ow L103))
  · omega
  · omega
  refine WL.val rfl rfl rfl (Run.fieldO Tryz.runUnderlying93 rfl rfl rfl Tryz.sizeOf91 rfl) (WL.val rfl rfl rfl (Run.fieldE Tryz.runUnderlying91 rfl rfl rfl Tryz.sizeOf89 rfl) (WL.val rfl rfl rfl (Run.fieldE Tryz.runUnderlying89 rfl rfl rfl Tryz.sizeOf86 rfl) (WL.val rfl rfl rfl (Run.fieldE Tryz.runUnderlying86 rfl rfl rfl Tryz.sizeOf3 rfl) ?_)))
  obtain ⟨y_20, hy_20⟩ : ∃ z_, z_ = ({ y_19 with Term.S.A.Bg := ((((((((((((((((((((((((k + cnts cntEPane (a.take i)) + 1) + 1) + 1) + 1) + 1) + 1) + 1) + 1) + 1 * ((gat encPaneR (mrkTo mkEPane cntEPane k a i) i).Term.P.Args.xs.length : Int)) + 1 * ((gat encPaneR (mrkTo mkEPane cntEPane k a i) i).Term.P.Part.xs.length : Int)) + 1) + 1) + 1) + 1) + 6 * ((gat encPaneR (mrkTo mkEPane cntEPane k a i) i).Term.S.Main.Cells.xs.length : Int)) + 1) + 1) + 6 * ((gat encPaneR (mrkTo mkEPane cntEPane k a i) i).Term.S.Alt.Cells.xs.length : Int)) + 1) + 1) + 1) + 1) + 1) } : PaneR) := ⟨_, rfl⟩
  refine WL.storeF (x' := y_20) hs104 ho105 Tryz.sizeOf3 rfl rfl rfl rfl rfl rfl rfl rfl rfl ?_ (by first | (rw [hy_20, gat_set (by (try simp only [List.length_set]); omega) rfl]; rfl) | (rw [hy_20]; rfl)) (fun L106 whs107 hs107 ho108 _ => ?_)
  · omega
  refine WL.nil (WC.r1 hs107 [] rfl (WC.sr (WL.r 3 hs107 [] rfl (WL.val rfl rfl rfl (Run.rem rfl rfl rfl ?_ ?_) ?_))))
  · omega
  · omega
  refine WL.r 1 hs107 [] rfl (WL.val rfl rfl rfl (Run.idxN Tryz.runUnderlying29 Tryz.sizeOf93 rfl rfl rfl ?_ ?_ ?_) ?_)
  · exact SlF.some_ (SlF.ofOwn ho108 (hs107.ow L106))
  · omega
  · omega
  refine WL.val rfl rfl rfl (Run.fieldO Tryz.runUnderlying93 rfl rfl rfl Tryz.sizeOf91 rfl) (WL.val rfl rfl rfl (Run.fieldE Tryz.runUnderlying91 rfl rfl rfl Tryz.sizeOf89 rfl) (WL.val rfl rfl rfl (Run.fieldE Tryz.runUnderlying89 rfl rfl rfl Tryz.sizeOf86 rfl) (WL.val rfl rfl rfl (Run.fieldE Tryz.runUnderlying86 rfl rfl rfl Tryz.sizeOf4 rfl) ?_)))
  obtain ⟨y_21, hy_21⟩ : ∃ z_, z_ = ({ y_20 with Term.S.A.Bold := decide ((((((((((((((((((((((((((k + cnts cntEPane (a.take i)) + 1) + 1) + 1) + 1) + 1) + 1) + 1) + 1) + 1 * ((gat encPaneR (mrkTo mkEPane cntEPane k a i) i).Term.P.Args.xs.length : Int)) + 1 * ((gat encPaneR (mrkTo mkEPane cntEPane k a i) i).Term.P.Part.xs.length : Int)) + 1) + 1) + 1) + 1) + 6 * ((gat encPaneR (mrkTo mkEPane cntEPane k a i) i).Term.S.Main.Cells.xs.length : Int)) + 1) + 1) + 6 * ((gat encPaneR (mrkTo mkEPane cntEPane k a i) i).Term.S.Alt.Cells.xs.length : Int)) + 1) + 1) + 1) + 1) + 1) + 1) % 3 = 0) } : PaneR) := ⟨_, rfl⟩
  refine WL.storeF (x' := y_21) hs107 ho108 Tryz.sizeOf4 rfl rfl rfl rfl rfl rfl rfl rfl rfl ?_ (by first | (rw [hy_21, gat_set (by (try simp only [List.length_set]); omega) rfl]; rfl) | (rw [hy_21]; rfl)) (fun L109 whs110 hs110 ho111 _ => ?_)
  · omega
  refine WL.nil (WC.r1 hs110 [] rfl (WC.sr (WL.r 3 hs110 [] rfl (WL.val rfl rfl rfl (Run.rem rfl rfl rfl ?_ ?_) ?_))))
  · omega
  · omega
  refine WL.r 1 hs110 [] rfl (WL.val rfl rfl rfl (Run.idxN Tryz.runUnderlying29 Tryz.sizeOf93 rfl rfl rfl ?_ ?_ ?_) ?_)
  · exact SlF.some_ (SlF.ofOwn ho111 (hs110.ow L109))
  · omega
  · omega
  refine WL.val rfl rfl rfl (Run.fieldO Tryz.runUnderlying93 rfl rfl rfl Tryz.sizeOf91 rfl) (WL.val rfl rfl rfl (Run.fieldE Tryz.runUnderlying91 rfl rfl rfl Tryz.sizeOf89 rfl) (WL.val rfl rfl rfl (Run.fieldE Tryz.runUnderlying89 rfl rfl rfl Tryz.sizeOf86 rfl) (WL.val rfl rfl rfl (Run.fieldE Tryz.runUnderlying86 rfl rfl rfl Tryz.sizeOf4 rfl) ?_)))
  obtain ⟨y_22, hy_22⟩ : ∃ z_, z_ = ({ y_21 with Term.S.A.Under := decide (((((((((((((((((((((((((((k + cnts cntEPane (a.take i)) + 1) + 1) + 1) + 1) + 1) + 1) + 1) + 1) + 1 * ((gat encPaneR (mrkTo mkEPane cntEPane k a i) i).Term.P.Args.xs.length : Int)) + 1 * ((gat encPaneR (mrkTo mkEPane cntEPane k a i) i).Term.P.Part.xs.length : Int)) + 1) + 1) + 1) + 1) + 6 * ((gat encPaneR (mrkTo mkEPane cntEPane k a i) i).Term.S.Main.Cells.xs.length : Int)) + 1) + 1) + 6 * ((gat encPaneR (mrkTo mkEPane cntEPane k a i) i).Term.S.Alt.Cells.xs.length : Int)) + 1) + 1) + 1) + 1) + 1) + 1) + 1) % 3 = 0) } : PaneR) := ⟨_, rfl⟩
  refine WL.storeF (x' := y_22) hs110 ho111 Tryz.sizeOf4 rfl rfl rfl rfl rfl rfl rfl rfl rfl ?_ (by first | (rw [hy_22, gat_set (by (try simp only [List.length_set]); omega) rfl]; rfl) | (rw [hy_22]; rfl)) (fun L112 whs113 hs113 ho114 _ => ?_)
  · omega
  refine WL.nil (WC.r1 hs113 [] rfl (WC.sr (WL.r 3 hs113 [] rfl (WL.val rfl rfl rfl (Run.rem rfl rfl rfl ?_ ?_) ?_))))
  · omega
  · omega
  refine WL.r 1 hs113 [] rfl (WL.val rfl rfl rfl (Run.idxN Tryz.runUnderlying29 Tryz.sizeOf93 rfl rfl rfl ?_ ?_ ?_) ?_)
  · exact SlF.some_ (SlF.ofOwn ho114 (hs113.ow L112))
  · omega
  · omega
  refine WL.val rfl rfl rfl (Run.fieldO Tryz.runUnderlying93 rfl rfl rfl Tryz.sizeOf91 rfl) (WL.val rfl rfl rfl (Run.fieldE Tryz.runUnderlying91 rfl rfl rfl Tryz.sizeOf89 rfl) (WL.val rfl rfl rfl (Run.fieldE Tryz.runUnderlying89 rfl rfl rfl Tryz.sizeOf86 rfl) (WL.val rfl rfl rfl (Run.fieldE Tryz.runUnderlying86 rfl rfl rfl Tryz.sizeOf4 rfl) ?_)))
  obtain ⟨y_23, hy_23⟩ : ∃ z_, z_ = ({ y_22 with Term.S.A.Turn := decide ((((((((((((((((((((((((((((k + cnts cntEPane (a.take i)) + 1) + 1) + 1) + 1) + 1) + 1) + 1) + 1) + 1 * ((gat encPaneR (mrkTo mkEPane cntEPane k a i) i).Term.P.Args.xs.length : Int)) + 1 * ((gat encPaneR (mrkTo mkEPane cntEPane k a i) i).Term.P.Part.xs.length : Int)) + 1) + 1) + 1) + 1) + 6 * ((gat encPaneR (mrkTo mkEPane cntEPane k a i) i).Term.S.Main.Cells.xs.length : Int)) + 1) + 1) + 6 * ((gat encPaneR (mrkTo mkEPane cntEPane k a i) i).Term.S.Alt.Cells.xs.length : Int)) + 1) + 1) + 1) + 1) + 1) + 1) + 1) + 1) % 3 = 0) } : PaneR) := ⟨_, rfl⟩
  refine WL.storeF (x' := y_23) hs113 ho114 Tryz.sizeOf4 rfl rfl rfl rfl rfl rfl rfl rfl rfl ?_ (by first | (rw [hy_23, gat_set (by (try simp only [List.length_set]); omega) rfl]; rfl) | (rw [hy_23]; rfl)) (fun L115 whs116 hs116 ho117 _ => ?_)
  · omega
  refine WL.nil (WC.r1 hs116 [] rfl (WC.sr (WL.r 3 hs116 [] rfl (WL.val rfl rfl rfl (Run.idxN Tryz.runUnderlying29 Tryz.sizeOf93 rfl rfl rfl ?_ ?_ ?_) ?_))))
  · exact SlF.some_ (SlF.ofOwn ho117 (hs116.ow L115))
  · omega
  · omega
  refine WL.val rfl rfl rfl (Run.fieldO Tryz.runUnderlying93 rfl rfl rfl Tryz.sizeOf91 rfl) (WL.val rfl rfl rfl (Run.fieldE Tryz.runUnderlying91 rfl rfl rfl Tryz.sizeOf89 rfl) (WL.val rfl rfl rfl (Run.fieldE Tryz.runUnderlying89 rfl rfl rfl Tryz.sizeOf3 rfl) ?_))
  obtain ⟨y_24, hy_24⟩ : ∃ z_, z_ = ({ y_23 with Term.S.Top := ((((((((((((((((((((((((((((k + cnts cntEPane (a.take i)) + 1) + 1) + 1) + 1) + 1) + 1) + 1) + 1) + 1 * ((gat encPaneR (mrkTo mkEPane cntEPane k a i) i).Term.P.Args.xs.length : Int)) + 1 * ((gat encPaneR (mrkTo mkEPane cntEPane k a i) i).Term.P.Part.xs.length : Int)) + 1) + 1) + 1) + 1) + 6 * ((gat encPaneR (mrkTo mkEPane cntEPane k a i) i).Term.S.Main.Cells.xs.length : Int)) + 1) + 1) + 6 * ((gat encPaneR (mrkTo mkEPane cntEPane k a i) i).Term.S.Alt.Cells.xs.length : Int)) + 1) + 1) + 1) + 1) + 1) + 1) + 1) + 1) + 1) } : PaneR) := ⟨_, rfl⟩
  refine WL.storeF (x' := y_24) hs116 ho117 Tryz.sizeOf3 rfl rfl rfl rfl rfl rfl rfl rfl rfl ?_ (by first | (rw [hy_24, gat_set (by (try simp only [List.length_set]); omega) rfl]; rfl) | (rw [hy_24]; rfl)) (fun L118 whs119 hs119 ho120 _ => ?_)
  · omega
  refine WL.nil (WC.r1 hs119 [] rfl (WC.sr (WL.r 3 hs119 [] rfl (WL.val rfl rfl rfl (Run.idxN Tryz.runUnderlying29 Tryz.sizeOf93 rfl rfl rfl ?_ ?_ ?_) ?_))))
  · exact SlF.some_ (SlF.ofOwn ho120 (hs119.ow L118))
  · omega
  · omega
  refine WL.val rfl rfl rfl (Run.fieldO Tryz.runUnderlying93 rfl rfl rfl Tryz.sizeOf91 rfl) (WL.val rfl rfl rfl (Run.fieldE Tryz.runUnderlying91 rfl rfl rfl Tryz.sizeOf89 rfl) (WL.val rfl rfl rfl (Run.fieldE Tryz.runUnderlying89 rfl rfl rfl Tryz.sizeOf3 rfl) ?_))
  obtain ⟨y_25, hy_25⟩ : ∃ z_, z_ = ({ y_24 with Term.S.Bot := (((((((((((((((((((((((((((((k + cnts cntEPane (a.take i)) + 1) + 1) + 1) + 1) + 1) + 1) + 1) + 1) + 1 * ((gat encPaneR (mrkTo mkEPane cntEPane k a i) i).Term.P.Args.xs.length : Int)) + 1 * ((gat encPaneR (mrkTo mkEPane cntEPane k a i) i).Term.P.Part.xs.length : Int)) + 1) + 1) + 1) + 1) + 6 * ((gat encPaneR (mrkTo mkEPane cntEPane k a i) i).Term.S.Main.Cells.xs.length : Int)) + 1) + 1) + 6 * ((gat encPaneR (mrkTo mkEPane cntEPane k a i) i).Term.S.Alt.Cells.xs.length : Int)) + 1) + 1) + 1) + 1) + 1) + 1) + 1) + 1) + 1) + 1) } : PaneR) := ⟨_, rfl⟩
  refine WL.storeF (x' := y_25) hs119 ho120 Tryz.sizeOf3 rfl rfl rfl rfl rfl rfl rfl rfl rfl ?_ (by first | (rw [hy_25, gat_set (by (try simp only [List.length_set]); omega) rfl]; rfl) | (rw [hy_25]; rfl)) (fun L121 whs122 hs122 ho123 _ => ?_)
  · omega
  refine WL.nil (WC.r1 hs122 [] rfl (WC.sr (WL.r 3 hs122 [] rfl (WL.val rfl rfl rfl (Run.rem rfl rfl rfl ?_ ?_) ?_))))
  · omega
  · omega
  refine WL.r 1 hs122 [] rfl (WL.val rfl rfl rfl (Run.idxN Tryz.runUnderlying29 Tryz.sizeOf93 rfl rfl rfl ?_ ?_ ?_) ?_)
  · exact SlF.some_ (SlF.ofOwn ho123 (hs122.ow L121))
  · omega
  · omega
  refine WL.val rfl rfl rfl (Run.fieldO Tryz.runUnderlying93 rfl rfl rfl Tryz.sizeOf91 rfl) (WL.val rfl rfl rfl (Run.fieldE Tryz.runUnderlying91 rfl rfl rfl Tryz.sizeOf89 rfl) (WL.val rfl rfl rfl (Run.fieldE Tryz.runUnderlying89 rfl rfl rfl Tryz.sizeOf4 rfl) ?_))
  obtain ⟨y_26, hy_26⟩ : ∃ z_, z_ = ({ y_25 with Term.S.NoWrap := decide (((((((((((((((((((((((((((((((k + cnts cntEPane (a.take i)) + 1) + 1) + 1) + 1) + 1) + 1) + 1) + 1) + 1 * ((gat encPaneR (mrkTo mkEPane cntEPane k a i) i).Term.P.Args.xs.length : Int)) + 1 * ((gat encPaneR (mrkTo mkEPane cntEPane k a i) i).Term.P.Part.xs.length : Int)) + 1) + 1) + 1) + 1) + 6 * ((gat encPaneR (mrkTo mkEPane cntEPane k a i) i).Term.S.Main.Cells.xs.length : Int)) + 1) + 1) + 6 * ((gat encPaneR (mrkTo mkEPane cntEPane k a i) i).Term.S.Alt.Cells.xs.length : Int)) + 1) + 1) + 1) + 1) + 1) + 1) + 1) + 1) + 1) + 1) + 1) % 3 = 0) } : PaneR) := ⟨_, rfl⟩
  refine WL.storeF (x' := y_26) hs122 ho123 Tryz.sizeOf4 rfl rfl rfl rfl rfl rfl rfl rfl rfl ?_ (by first | (rw [hy_26, gat_set (by (try simp only [List.length_set]); omega) rfl]; rfl) | (rw [hy_26]; rfl)) (fun L124 whs125 hs125 ho126 _ => ?_)
  · omega
  refine WL.nil (WC.r1 hs125 [] rfl (WC.sr (WL.r 3 hs125 [] rfl (WL.val rfl rfl rfl (Run.rem rfl rfl rfl ?_ ?_) ?_))))
  · omega
  · omega
  refine WL.r 1 hs125 [] rfl (WL.val rfl rfl rfl (Run.idxN Tryz.runUnderlying29 Tryz.sizeOf93 rfl rfl rfl ?_ ?_ ?_) ?_)
  · exact SlF.some_ (SlF.ofOwn ho126 (hs125.ow L124))
  · omega
  · omega
  refine WL.val rfl rfl rfl (Run.fieldO Tryz.runUnderlying93 rfl rfl rfl Tryz.sizeOf91 rfl) (WL.val rfl rfl rfl (Run.fieldE Tryz.runUnderlying91 rfl rfl rfl Tryz.sizeOf89 rfl) (WL.val rfl rfl rfl (Run.fieldE Tryz.runUnderlying89 rfl rfl rfl Tryz.sizeOf4 rfl) ?_))
  obtain ⟨y_27, hy_27⟩ : ∃ z_, z_ = ({ y_26 with Term.S.Hide := decide ((((((((((((((((((((((((((((((((k + cnts cntEPane (a.take i)) + 1) + 1) + 1) + 1) + 1) + 1) + 1) + 1) + 1 * ((gat encPaneR (mrkTo mkEPane cntEPane k a i) i).Term.P.Args.xs.length : Int)) + 1 * ((gat encPaneR (mrkTo mkEPane cntEPane k a i) i).Term.P.Part.xs.length : Int)) + 1) + 1) + 1) + 1) + 6 * ((gat encPaneR (mrkTo mkEPane cntEPane k a i) i).Term.S.Main.Cells.xs.length : Int)) + 1) + 1) + 6 * ((gat encPaneR (mrkTo mkEPane cntEPane k a i) i).Term.S.Alt.Cells.xs.length : Int)) + 1) + 1) + 1) + 1) + 1) + 1) + 1) + 1) + 1) + 1) + 1) + 1) % 3 = 0) } : PaneR) := ⟨_, rfl⟩
  refine WL.storeF (x' := y_27) hs125 ho126 Tryz.sizeOf4 rfl rfl rfl rfl rfl rfl rfl rfl rfl ?_ (by first | (rw [hy_27, gat_set (by (try simp only [List.length_set]); omega) rfl]; rfl) | (rw [hy_27]; rfl)) (fun L127 whs128 hs128 ho129 _ => ?_)
  · omega
  refine WL.nil (WC.r1 hs128 [] rfl (WC.sr (WL.r 3 hs128 [] rfl (WL.val rfl rfl rfl (Run.idxN Tryz.runUnderlying29 Tryz.sizeOf93 rfl rfl rfl ?_ ?_ ?_) ?_))))
  · exact SlF.some_ (SlF.ofOwn ho129 (hs128.ow L127))
  · omega
  · omega
  refine WL.val rfl rfl rfl (Run.fieldO Tryz.runUnderlying93 rfl rfl rfl Tryz.sizeOf91 rfl) (WL.val rfl rfl rfl (Run.fieldE Tryz.runUnderlying91 rfl rfl rfl Tryz.sizeOf89 rfl) (WL.val rfl rfl rfl (Run.fieldE Tryz.runUnderlying89 rfl rfl rfl Tryz.sizeOf3 rfl) ?_))
  obtain ⟨y_28, hy_28⟩ : ∃ z_, z_ = ({ y_27 with Term.S.SaveX := ((((((((((((((((((((((((((((((((k + cnts cntEPane (a.take i)) + 1) + 1) + 1) + 1) + 1) + 1) + 1) + 1) + 1 * ((gat encPaneR (mrkTo mkEPane cntEPane k a i) i).Term.P.Args.xs.length : Int)) + 1 * ((gat encPaneR (mrkTo mkEPane cntEPane k a i) i).Term.P.Part.xs.length : Int)) + 1) + 1) + 1) + 1) + 6 * ((gat encPaneR (mrkTo mkEPane cntEPane k a i) i).Term.S.Main.Cells.xs.length : Int)) + 1) + 1) + 6 * ((gat encPaneR (mrkTo mkEPane cntEPane k a i) i).Term.S.Alt.Cells.xs.length : Int)) + 1) + 1) + 1) + 1) + 1) + 1) + 1) + 1) + 1) + 1) + 1) + 1) + 1) } : PaneR) := ⟨_, rfl⟩
  refine WL.storeF (x' := y_28) hs128 ho129 Tryz.sizeOf3 rfl rfl rfl rfl rfl rfl rfl rfl rfl ?_ (by first | (rw [hy_28, gat_set (by (try simp only [List.length_set]); omega) rfl]; rfl) | (rw [hy_28]; rfl)) (fun L130 whs131 hs131 ho132 _ => ?_)
  · omega
  refine WL.nil (WC.r1 hs131 [] rfl (WC.sr (WL.r 3 hs131 [] rfl (WL.val rfl rfl rfl (Run.idxN Tryz.runUnderlying29 Tryz.sizeOf93 rfl rfl rfl ?_ ?_ ?_) ?_))))
  · exact SlF.some_ (SlF.ofOwn ho132 (hs131.ow L130))
  · omega
  · omega
  refine WL.val rfl rfl rfl (Run.fieldO Tryz.runUnderlying93 rfl rfl rfl Tryz.sizeOf91 rfl) (WL.val rfl rfl rfl (Run.fieldE Tryz.runUnderlying91 rfl rfl rfl Tryz.sizeOf89 rfl) (WL.val rfl rfl rfl (Run.fieldE Tryz.runUnderlying89 rfl rfl rfl Tryz.sizeOf3 rfl) ?_))
  obtain ⟨y_29, hy_29⟩ : ∃ z_, z_ = ({ y_28 with Term.S.SaveY := (((((((((((((((((((((((((((((((((k + cnts cntEPane (a.take i)) + 1) + 1) + 1) + 1) + 1) + 1) + 1) + 1) + 1 * ((gat encPaneR (mrkTo mkEPane cntEPane k a i) i).Term.P.Args.xs.length : Int)) + 1 * ((gat encPaneR (mrkTo mkEPane cntEPane k a i) i).Term.P.Part.xs.length : Int)) + 1) + 1) + 1) + 1) + 6 * ((gat encPaneR (mrkTo mkEPane cntEPane k a i) i).Term.S.Main.Cells.xs.length : Int)) + 1) + 1) + 6 * ((gat encPaneR (mrkTo mkEPane cntEPane k a i) i).Term.S.Alt.Cells.xs.length : Int)) + 1) + 1) + 1) + 1) + 1) + 1) + 1) + 1) + 1) + 1) + 1) + 1) + 1) + 1) } : PaneR) := ⟨_, rfl⟩
  refine WL.storeF (x' := y_29) hs131 ho132 Tryz.sizeOf3 rfl rfl rfl rfl rfl rfl rfl rfl rfl ?_ (by first | (rw [hy_29, gat_set (by (try simp only [List.length_set]); omega) rfl]; rfl) | (rw [hy_29]; rfl)) (fun L133 whs134 hs134 ho135 _ => ?_)
  · omega
  refine WL.nil (WC.r1 hs134 [] rfl (WC.sr (WL.r 3 hs134 [] rfl (WL.val rfl rfl rfl (Run.idxN Tryz.runUnderlying29 Tryz.sizeOf93 rfl rfl rfl ?_ ?_ ?_) ?_))))
  · exact SlF.some_ (SlF.ofOwn ho135 (hs134.ow L133))
  · omega
  · omega
  refine WL.val rfl rfl rfl (Run.fieldO Tryz.runUnderlying93 rfl rfl rfl Tryz.sizeOf91 rfl) (WL.val rfl rfl rfl (Run.fieldE Tryz.runUnderlying91 rfl rfl rfl Tryz.sizeOf89 rfl) (WL.val rfl rfl rfl (Run.fieldE Tryz.runUnderlying89 rfl rfl rfl Tryz.sizeOf86 rfl) (WL.val rfl rfl rfl (Run.fieldE Tryz.runUnderlying86 rfl rfl rfl Tryz.sizeOf3 rfl) ?_)))
  obtain ⟨y_30, hy_30⟩ : ∃ z_, z_ = ({ y_29 with Term.S.SaveA.Fg := ((((((((((((((((((((((((((((((((((k + cnts cntEPane (a.take i)) + 1) + 1) + 1) + 1) + 1) + 1) + 1) + 1) + 1 * ((gat encPaneR (mrkTo mkEPane cntEPane k a i) i).Term.P.Args.xs.length : Int)) + 1 * ((gat encPaneR (mrkTo mkEPane cntEPane k a i) i).Term.P.Part.xs.length : Int)) + 1) + 1) + 1) + 1) + 6 * ((gat encPaneR (mrkTo mkEPane cntEPane k a i) i).Term.S.Main.Cells.xs.length : Int)) + 1) + 1) + 6 * ((gat encPaneR (mrkTo mkEPane cntEPane k a i) i).Term.S.Alt.Cells.xs.length : Int)) + 1) + 1) + 1) + 1) + 1) + 1) + 1) + 1) + 1) + 1) + 1) + 1) + 1) + 1) + 1) } : PaneR) := ⟨_, rfl⟩
  refine WL.storeF (x' := y_30) hs134 ho135 Tryz.sizeOf3 rfl rfl rfl rfl rfl rfl rfl rfl rfl ?_ (by first | (rw [hy_30, gat_set (by (try simp only [List.length_set]); omega) rfl]; rfl) | (rw [hy_30]; rfl)) (fun L136 whs137 hs137 ho138 _ => ?_)
  · omega
  refine WL.nil (WC.r1 hs137 [] rfl (WC.sr (WL.r 3 hs137 [] rfl (WL.val rfl rfl rfl (Run.idxN Tryz.runUnderlying29 Tryz.sizeOf93 rfl rfl rfl ?_ ?_ ?_) ?_))))
  · exact SlF.some_ (SlF.ofOwn ho138 (hs137.ow L136))
  · omega
  · omega
  refine WL.val rfl rfl rfl (Run.fieldO Tryz.runUnderlying93 rfl rfl rfl Tryz.sizeOf91 rfl) (WL.val rfl rfl rfl (Run.fieldE Tryz.runUnderlying91 rfl rfl rfl Tryz.sizeOf89 rfl) (WL.val rfl rfl rfl (Run.fieldE Tryz.runUnderlying89 rfl rfl rfl Tryz.sizeOf86 rfl) (WL.val rfl rfl rfl (Run.fieldE Tryz.runUnderlying86 rfl rfl rfl Tryz.sizeOf3 rfl) ?_)))
  obtain ⟨y_31, hy_31⟩ : ∃ z_, z_ = ({ y_30 with Term.S.SaveA.Bg := (((((((((((((((((((((((((((((((((((k + cnts cntEPane (a.take i)) + 1) + 1) + 1) + 1) + 1) + 1) + 1) + 1) + 1 * ((gat encPaneR (mrkTo mkEPane cntEPane k a i) i).Term.P.Args.xs.length : Int)) + 1 * ((gat encPaneR (mrkTo mkEPane cntEPane k a i) i).Term.P.Part.xs.length : Int)) + 1) + 1) + 1) + 1) + 6 * ((gat encPaneR (mrkTo mkEPane cntEPane k a i) i).Term.S.Main.Cells.xs.length : Int)) + 1) + 1) + 6 * ((gat encPaneR (mrkTo mkEPane cntEPane k a i) i).Term.S.Alt.Cells.xs.length : Int)) + 1) + 1) + 1) + 1) + 1) + 1) + 1) + 1) + 1) + 1) + 1) + 1) + 1) + 1) + 1) + 1) } : PaneR) := ⟨_, rfl⟩
  refine WL.storeF (x' := y_31) hs137 ho138 Tryz.sizeOf3 rfl rfl rfl rfl rfl rfl rfl rfl rfl ?_ (by first | (rw [hy_31, gat_set (by (try simp only [List.length_set]); omega) rfl]; rfl) | (rw [hy_31]; rfl)) (fun L139 whs140 hs140 ho141 _ => ?_)
  · omega
  refine WL.nil (WC.r1 hs140 [] rfl (WC.sr (WL.r 3 hs140 [] rfl (WL.val rfl rfl rfl (Run.rem rfl rfl rfl ?_ ?_) ?_))))
  · omega
  · omega
  refine WL.r 1 hs140 [] rfl (WL.val rfl rfl rfl (Run.idxN Tryz.runUnderlying29 Tryz.sizeOf93 rfl rfl rfl ?_ ?_ ?_) ?_)
  · exact SlF.some_ (SlF.ofOwn ho141 (hs140.ow L139))
  · omega
  · omega
  refine WL.val rfl rfl rfl (Run.fieldO Tryz.runUnderlying93 rfl rfl rfl Tryz.sizeOf91 rfl) (WL.val rfl rfl rfl (Run.fieldE Tryz.runUnderlying91 rfl rfl rfl Tryz.sizeOf89 rfl) (WL.val rfl rfl rfl (Run.fieldE Tryz.runUnderlying89 rfl rfl rfl Tryz.sizeOf86 rfl) (WL.val rfl rfl rfl (Run.fieldE Tryz.runUnderlying86 rfl rfl rfl Tryz.sizeOf4 rfl) ?_)))
  obtain ⟨y_32, hy_32⟩ : ∃ z_, z_ = ({ y_31 with Term.S.SaveA.Bold := decide (((((((((((((((((((((((((((((((((((((k + cnts cntEPane (a.take i)) + 1) + 1) + 1) + 1) + 1) + 1) + 1) + 1) + 1 * ((gat encPaneR (mrkTo mkEPane cntEPane k a i) i).Term.P.Args.xs.length : Int)) + 1 * ((gat encPaneR (mrkTo mkEPane cntEPane k a i) i).Term.P.Part.xs.length : Int)) + 1) + 1) + 1) + 1) + 6 * ((gat encPaneR (mrkTo mkEPane cntEPane k a i) i).Term.S.Main.Cells.xs.length : Int)) + 1) + 1) + 6 * ((gat encPaneR (mrkTo mkEPane cntEPane k a i) i).Term.S.Alt.Cells.xs.length : Int)) + 1) + 1) + 1) + 1) + 1) + 1) + 1) + 1) + 1) + 1) + 1) + 1) + 1) + 1) + 1) + 1) + 1) % 3 = 0) } : PaneR) := ⟨_, rfl⟩
  refine WL.storeF (x' := y_32) hs140 ho141 Tryz.sizeOf4 rfl rfl rfl rfl rfl rfl rfl rfl rfl ?_ (by first | (rw [hy_32, gat_set (by (try simp only [List.length_set]); omega) rfl]; rfl) | (rw [hy_32]; rfl)) (fun L142 whs143 hs143 ho144 _ => ?_)
  · omega
  refine WL.nil (WC.r1 hs143 [] rfl (WC.sr (WL.r 3 hs143 [] rfl (WL.val rfl rfl rfl (Run.rem rfl rfl rfl ?_ ?_) ?_))))
  · omega
  · omega
  refine WL.r 1 hs143 [] rfl (WL.val rfl rfl rfl (Run.idxN Tryz.runUnderlying29 Tryz.sizeOf93 rfl rfl rfl ?_ ?_ ?_) ?_)
  · exact SlF.some_ (SlF.ofOwn ho144 (hs143.ow L142))
  · omega
  · omega
  refine WL.val rfl rfl rfl (Run.fieldO Tryz.runUnderlying93 rfl rfl rfl Tryz.sizeOf91 rfl) (WL.val rfl rfl rfl (Run.fieldE Tryz.runUnderlying91 rfl rfl rfl Tryz.sizeOf89 rfl) (WL.val rfl rfl rfl (Run.fieldE Tryz.runUnderlying89 rfl rfl rfl Tryz.sizeOf86 rfl) (WL.val rfl rfl rfl (Run.fieldE Tryz.runUnderlying86 rfl rfl rfl Tryz.sizeOf4 rfl) ?_)))
  obtain ⟨y_33, hy_33⟩ : ∃ z_, z_ = ({ y_32 with Term.S.SaveA.Under := decide ((((((((((((((((((((((((((((((((((((((k + cnts cntEPane (a.take i)) + 1) + 1) + 1) + 1) + 1) + 1) + 1) + 1) + 1 * ((gat encPaneR (mrkTo mkEPane cntEPane k a i) i).Term.P.Args.xs.length : Int)) + 1 * ((gat encPaneR (mrkTo mkEPane cntEPane k a i) i).Term.P.Part.xs.length : Int)) + 1) + 1) + 1) + 1) + 6 * ((gat encPaneR (mrkTo mkEPane cntEPane k a i) i).Term.S.Main.Cells.xs.length : Int)) + 1) + 1) + 6 * ((gat encPaneR (mrkTo mkEPane cntEPane k a i) i).Term.S.Alt.Cells.xs.length : Int)) + 1) + 1) + 1) + 1) + 1) + 1) + 1) + 1) + 1) + 1) + 1) + 1) + 1) + 1) + 1) + 1) + 1) + 1) % 3 = 0) } : PaneR) := ⟨_, rfl⟩
  refine WL.storeF (x' := y_33) hs143 ho144 Tryz.sizeOf4 rfl rfl rfl rfl rfl rfl rfl rfl rfl ?_ (by first | (rw [hy_33, gat_set (by (try simp only [List.length_set]); omega) rfl]; rfl) | (rw [hy_33]; rfl)) (fun L145 whs146 hs146 ho147 _ => ?_)
  · omega
  refine WL.nil (WC.r1 hs146 [] rfl (WC.sr (WL.r 3 hs146 [] rfl (WL.val rfl rfl rfl (Run.rem rfl rfl rfl ?_ ?_) ?_))))
  · omega
  · omega
  refine WL.r 1 hs146 [] rfl (WL.val rfl rfl rfl (Run.idxN Tryz.runUnderlying29 Tryz.sizeOf93 rfl rfl rfl ?_ ?_ ?_) ?_)
  · exact SlF.some_ (SlF.ofOwn ho147 (hs146.ow L145))
  · omega
  · omega
  refine WL.val rfl rfl rfl (Run.fieldO Tryz.runUnderlying93 rfl rfl rfl Tryz.sizeOf91 rfl) (WL.val rfl rfl rfl (Run.fieldE Tryz.runUnderlying91 rfl rfl rfl Tryz.sizeOf89 rfl) (WL.val rfl rfl rfl (Run.fieldE Tryz.runUnderlying89 rfl rfl rfl Tryz.sizeOf86 rfl) (WL.val rfl rfl rfl (Run.fieldE Tryz.runUnderlying86 rfl rfl rfl Tryz.sizeOf4 rfl) ?_)))
  obtain ⟨y_34, hy_34⟩ : ∃ z_, z_ = ({ y_33 with Term.S.SaveA.Turn := decide (((((((((((((((((((((((((((((((((((((((k + cnts cntEPane (a.take i)) + 1) + 1) + 1) + 1) + 1) + 1) + 1) + 1) + 1 * ((gat encPaneR (mrkTo mkEPane cntEPane k a i) i).Term.P.Args.xs.length : Int)) + 1 * ((gat encPaneR (mrkTo mkEPane cntEPane k a i) i).Term.P.Part.xs.length : Int)) + 1) + 1) + 1) + 1) + 6 * ((gat encPaneR (mrkTo mkEPane cntEPane k a i) i).Term.S.Main.Cells.xs.length : Int)) + 1) + 1) + 6 * ((gat encPaneR (mrkTo mkEPane cntEPane k a i) i).Term.S.Alt.Cells.xs.length : Int)) + 1) + 1) + 1) + 1) + 1) + 1) + 1) + 1) + 1) + 1) + 1) + 1) + 1) + 1) + 1) + 1) + 1) + 1) + 1) % 3 = 0) } : PaneR) := ⟨_, rfl⟩
  refine WL.storeF (x' := y_34) hs146 ho147 Tryz.sizeOf4 rfl rfl rfl rfl rfl rfl rfl rfl rfl ?_ (by first | (rw [hy_34, gat_set (by (try simp only [List.length_set]); omega) rfl]; rfl) | (rw [hy_34]; rfl)) (fun L148 whs149 hs149 ho150 _ => ?_)
  · omega
  refine WL.nil (WC.r1 hs149 [] rfl (WC.sr (WL.r 2 hs149 [] rfl (WL.val rfl rfl rfl (Run.idxN Tryz.runUnderlying29 Tryz.sizeOf93 rfl rfl rfl ?_ ?_ ?_) ?_))))
  · exact SlF.some_ (SlF.ofOwn ho150 (hs149.ow L148))
  · omega
  · omega
  refine WL.val rfl rfl rfl (Run.fieldO Tryz.runUnderlying93 rfl rfl rfl Tryz.sizeOf91 rfl) (WL.val rfl rfl rfl (Run.fieldE Tryz.runUnderlying91 rfl rfl rfl Tryz.sizeOf89 rfl) (WL.val rfl rfl rfl (Run.fieldE Tryz.runUnderlying89 rfl rfl rfl Tryz.sizeOf60 rfl) (WL.val rfl rfl rfl (Run.load Tryz.isAgg60 rfl rfl (SlF.fld (v := .slice (gat encPaneR (mrkTo mkEPane cntEPane k a i) i).Term.S.Tabs.A (gat encPaneR (mrkTo mkEPane cntEPane k a i) i).Term.S.Tabs.n (gat encPaneR (mrkTo mkEPane cntEPane k a i) i).Term.S.Tabs.c) (SlF.ofOwn ho150 (hs149.ow L148)) ?_ ?_)) ?_)))
  · omega
  · first | (rw [gat_set (by (try simp only [List.length_set]); omega) rfl]; simp only [hy_34, hy_33, hy_32, hy_31, hy_30, hy_29, hy_28, hy_27, hy_26, hy_25, hy_24, hy_23, hy_22, hy_21, hy_20, hy_19, hy_18, hy_17, hy_16, hy_15, hy_14, hy_13, hy_12, hy_11, hy_10, hy_9, hy_8, hy_7, hy_6, hy_5, hy_4, hy_3, hy_2, hy_1]; done) | (rw [gat_set (by (try simp only [List.length_set]); omega) rfl]; simp only [hy_34, hy_33, hy_32, hy_31, hy_30, hy_29, hy_28, hy_27, hy_26, hy_25, hy_24, hy_23, hy_22, hy_21, hy_20, hy_19, hy_18, hy_17, hy_16, hy_15, hy_14, hy_13, hy_12, hy_11, hy_10, hy_9, hy_8, hy_7, hy_6, hy_5, hy_4, hy_3, hy_2, hy_1]; rfl) | rfl
  refine WL.r 1 hs149 [] rfl (WL.cl Tryz.call128 rfl (k175_ _ _ _ _ _ ho59 (hs149.ow L53) ?_ ?_ ?_) ?_)
  iterate 3 first | assumption | rfl | omega
  rintro _ whs151 ⟨L1_152, rfl, hs151, ho153⟩
  replace hs151 := St.lend (hs149.fr L53) hs151
  refine ⟨_, rfl, WL.r 1 hs151 [] rfl (WL.nil (WC.sr (WL.r 3 hs151 [] rfl (WL.val rfl rfl rfl (Run.idxN Tryz.runUnderlying29 Tryz.sizeOf93 rfl rfl rfl ?_ ?_ ?_) ?_))))⟩
  · exact SlF.some_ (SlF.ofOwn ho150 (hs151.ow L148))
  · omega
  · omega
  refine WL.val rfl rfl rfl (Run.fieldO Tryz.runUnderlying93 rfl rfl rfl Tryz.sizeOf91 rfl) (WL.val rfl rfl rfl (Run.fieldE Tryz.runUnderlying91 rfl rfl rfl Tryz.sizeOf89 rfl) (WL.val rfl rfl rfl (Run.fieldE Tryz.runUnderlying89 rfl rfl rfl Tryz.sizeOf3 rfl) ?_))
  obtain ⟨y_35, hy_35⟩ : ∃ z_, z_ = ({ y_34 with Term.S.Limit := ((((((((((((((((((((((((((((((((((((((((k + cnts cntEPane (a.take i)) + 1) + 1) + 1) + 1) + 1) + 1) + 1) + 1) + 1 * ((gat encPaneR (mrkTo mkEPane cntEPane k a i) i).Term.P.Args.xs.length : Int)) + 1 * ((gat encPaneR (mrkTo mkEPane cntEPane k a i) i).Term.P.Part.xs.length : Int)) + 1) + 1) + 1) + 1) + 6 * ((gat encPaneR (mrkTo mkEPane cntEPane k a i) i).Term.S.Main.Cells.xs.length : Int)) + 1) + 1) + 6 * ((gat encPaneR (mrkTo mkEPane cntEPane k a i) i).Term.S.Alt.Cells.xs.length : Int)) + 1) + 1) + 1) + 1) + 1) + 1) + 1) + 1) + 1) + 1) + 1) + 1) + 1) + 1) + 1) + 1) + 1) + 1) + 1) + 1) + 1 * ((gat encPaneR (mrkTo mkEPane cntEPane k a i) i).Term.S.Tabs.xs.length : Int)) } : PaneR) := ⟨_, rfl⟩
  refine WL.storeF (x' := y_35) (hs151.fr L148) ho150 Tryz.sizeOf3 rfl rfl rfl rfl rfl rfl rfl rfl rfl ?_ (by first | (rw [hy_35, gat_set (by (try simp only [List.length_set]); omega) rfl]; rfl) | (rw [hy_35]; rfl)) (fun L154 whs155 hs155 ho156 _ => ?_)
  · omega
  refine WL.nil (WC.r1 hs155 [] rfl (WC.region (WL.r 2 hs155 [] rfl (WL.val rfl rfl rfl (Run.idxN Tryz.runUnderlying29 Tryz.sizeOf93 rfl rfl rfl ?_ ?_ ?_) ?_))))
  · exact SlF.some_ (SlF.ofOwn ho156 (hs155.ow L154))
  · omega
  · omega
  refine WL.val rfl rfl rfl (Run.fieldO Tryz.runUnderlying93 rfl rfl rfl Tryz.sizeOf91 rfl) (WL.val rfl rfl rfl (Run.fieldE Tryz.runUnderlying91 rfl rfl rfl Tryz.sizeOf89 rfl) (WL.val rfl rfl rfl (Run.fieldE Tryz.runUnderlying89 rfl rfl rfl Tryz.sizeOf87 rfl) (WL.val rfl rfl rfl (Run.load Tryz.isAgg87 rfl rfl (SlF.fld (v := .slice (gat encPaneR (mrkTo mkEPane cntEPane k a i) i).Term.S.Back.A (gat encPaneR (mrkTo mkEPane cntEPane k a i) i).Term.S.Back.n (gat encPaneR (mrkTo mkEPane cntEPane k a i) i).Term.S.Back.c) (SlF.ofOwn ho156 (hs155.ow L154)) ?_ ?_)) ?_)))
  · omega
  · first | (rw [gat_set (by (try simp only [List.length_set]); omega) rfl]; simp only [hy_35, hy_34, hy_33, hy_32, hy_31, hy_30, hy_29, hy_28, hy_27, hy_26, hy_25, hy_24, hy_23, hy_22, hy_21, hy_20, hy_19, hy_18, hy_17, hy_16, hy_15, hy_14, hy_13, hy_12, hy_11, hy_10, hy_9, hy_8, hy_7, hy_6, hy_5, hy_4, hy_3, hy_2, hy_1]; done) | (rw [gat_set (by (try simp only [List.length_set]); omega) rfl]; simp only [hy_35, hy_34, hy_33, hy_32, hy_31, hy_30, hy_29, hy_28, hy_27, hy_26, hy_25, hy_24, hy_23, hy_22, hy_21, hy_20, hy_19, hy_18, hy_17, hy_16, hy_15, hy_14, hy_13, hy_12, hy_11, hy_10, hy_9, hy_8, hy_7, hy_6, hy_5, hy_4, hy_3, hy_2, hy_1]; rfl) | rfl
  refine WL.r 1 hs155 [] rfl (WL.cl Tryz.call130 rfl (k179_ _ _ _ _ _ ho60 (hs155.ow L54) (St.nodupL (hs155.fr L54)) ?_ ?_ ?_) ?_)
  iterate 3 first | assumption | omega
  rintro _ whs157 ⟨L1_158, rfl, hs157, ho159⟩
  replace hs157 := St.lend (hs155.fr L54) hs157
  refine ⟨_, rfl, WL.r 1 hs157 [] rfl (WL.nil (hK10 _ _ (WC.region (WL.r 3 hs157 [] rfl (WL.nil (tkN ?_))))))⟩
  obtain ⟨L161, hs160, ho162⟩ := ownPaneR.fl hs157 ho63 ho66 ho81 ho90 ho153 ho159
  obtain ⟨L163, hs164, hb165⟩ := hp48 (mkEPane (k + cnts cntEPane (a.take i)) (gat encPaneR a i)) _ ((hs160.fr (L43 ++ L45)).fr L161) (by have h_ := ho162; first | exact h_ | (simp only [hg] at h_; exact h_))
  rw [mrkTo_set (F := encPaneR) (by omega) rfl] at hb165
  have ho166 := OwnF.recast (ys := mrkTo mkEPane cntEPane k a (i + 1)) ho156 (by rw [mrkTo_len (by omega)]; (try simp only [List.length_set]); exact hfl.symm) (by rw [← mrkTo_set (F := encPaneR) (i := i) (by omega) rfl]; try simp only [List.set_set]; exact rows_set_enc (by simp only [hy_35, hy_34, hy_33, hy_32, hy_31, hy_30, hy_29, hy_28, hy_27, hy_26, hy_25, hy_24, hy_23, hy_22, hy_21, hy_20, hy_19, hy_18, hy_17, hy_16, hy_15, hy_14, hy_13, hy_12, hy_11, hy_10, hy_9, hy_8, hy_7, hy_6, hy_5, hy_4, hy_3, hy_2, hy_1, hg]; rfl))
  obtain ⟨L168, hs167, ho169⟩ := OwnN.fold (hs164.fr L154) ho166 hb165
  refine ⟨sbF rfl, _, hs167, _, ?_, i + 1, rfl, ?_, ho169, ⟨rfl, rfl, ?_, trivial⟩⟩
  · omega
  · omega
  · (refine congrArg some (congrArg (Value.int _) ?_); rw [cnts_take (F := encPaneR) (by omega)]; simp only [cntEPane, hg]; omega)
 refine WC.exit (hK2 _ _ (WC.r1 hs7 [] rfl (WC.ret (retV1 rfl (resV.tmp rfl) ?_))))
 have hi_ : i = a.length := by omega
 have hx_ := ho6
 rw [mrkTo_full (by omega)] at hx_
 refine ⟨_, ?_, (St.keep1 hs7), hx_⟩
 rw [hi_, List.take_of_length_le (Nat.le_refl _)]
set_option maxHeartbeats 16000000 in
set_option maxRecDepth 20000 in
theorem k182_ (A_a : Option Addr) (n_a c_a : Nat) (a : List PaneR) (k : Int) (w : World) (f_a : SlN encPaneR (okPaneR 549755813888) w A_a n_a (mrks mkEPane cntEPane k a)) (h1 : 0 ≤ k) (h2 : k + cnts cntEPane a ≤ 549755813888) (h3 : n_a ≤ 549755813888) :
    Calls Tryz.prog 68 #[.slice A_a n_a c_a, i64 k] w fun e w' => e = .returned (.int .i64 (k + cnts cntEPane a)) ∧ St w [] [] w' := by
 have hl : a.length = n_a := by have h_ := f_a.sl.len; simpa [mrks_len] using h_
 have hcn : ∀ x, 0 ≤ cntEPane x := cntEPane_ge
 refine enter 492 Tryz.func68 rfl Tryz.ntmps68 rfl rfl ?_
 have hs1 := St.init w
 refine WC.r1 hs1 [] rfl (WC.seq (fun K2 hK2 => WC.r1 hs1 [] rfl (WC.block ?_)))
 refine WC.lS [0] rfl hs1 (fun k_ f w' => ∃ (i : Nat), k_ = n_a - i ∧ (i ≤ n_a) ∧ Sub [(5, .int .i64 i), (1, .int .i64 (k + cnts cntEPane (a.take i)))] f) ((fun (i : Nat) => n_a - i) (0)) ?_ ?_
 ·refine ⟨0, rfl, ?_, ⟨rfl, ?_, trivial⟩⟩
  · exact Nat.zero_le _
  · (refine congrArg some (congrArg (Value.int _) ?_); simp [cnts])
 clear hs1
 rintro _ f w ⟨i, rfl, p0, hG⟩ hF hs3
 refine WC.sub _ (hG.app hF) ?_
 clear hG hF
 have hq0 := cnts_nonneg (c := cntEPane) hcn (a.take i)
 have hq1 := cnts_take_le hcn a i
 refine WC.seq (fun K4 hK4 => WC.r1 hs3 [] rfl ?_)
 refine WC.cD rfl (fun qh5 => ?_) (fun qh5 => ?_)
 ·have hg := mrks_gat (mk := mkEPane) (c := cntEPane) (F := encPaneR) (k := k) (xs := a) (i := i) (by omega)
  have hq2 := cnts_take (c := cntEPane) (F := encPaneR) (xs := a) (i := i) (by omega)
  have hq3 := cnts_take_le hcn a (i + 1)
  simp only [cntEPane] at hq2
  have hng := (SlN.nth f_a (show i < n_a by omega))
  rw [hg] at hng
  have hnl_Term_P_Args := hng.Term.P.Args.len
  have hnl_Term_P_Part := hng.Term.P.Part.len
  have hnl_Term_S_Main_Cells := hng.Term.S.Main.Cells.len
  have hnl_Term_S_Alt_Cells := hng.Term.S.Alt.Cells.len
  have hnl_Term_S_Tabs := hng.Term.S.Tabs.len
  have hnl_Term_S_Back := hng.Term.S.Back.sl.len
  have hnn_Term_P_Args := hng.Term.P.Args_n
  have hnn_Term_P_Part := hng.Term.P.Part_n
  have hnn_Term_S_Main_Cells := hng.Term.S.Main.Cells_n
  have hnn_Term_S_Alt_Cells := hng.Term.S.Alt.Cells_n
  have hnn_Term_S_Tabs := hng.Term.S.Tabs_n
  have hnn_Term_S_Back := hng.Term.S.Back_n
  simp only [mkEPane, marks_len, mrks_len] at hnl_Term_P_Args hnn_Term_P_Args hnl_Term_P_Part hnn_Term_P_Part hnl_Term_S_Main_Cells hnn_Term_S_Main_Cells hnl_Term_S_Alt_Cells hnn_Term_S_Alt_Cells hnl_Term_S_Tabs hnn_Term_S_Tabs hnl_Term_S_Back hnn_Term_S_Back
  have hnn9_Term_S_Back := cnts_nonneg (c := cntERow) cntERow_ge (gat encPaneR a i).Term.S.Back.xs
  have hgn_Term_P_Args : (gat encPaneR (mrks mkEPane cntEPane k a) i).Term.P.Args.n = (gat encPaneR a i).Term.P.Args.n := by rw [hg]; rfl
  have hgn_Term_P_Part : (gat encPaneR (mrks mkEPane cntEPane k a) i).Term.P.Part.n = (gat encPaneR a i).Term.P.Part.n := by rw [hg]; rfl
  have hgn_Term_S_Main_Cells : (gat encPaneR (mrks mkEPane cntEPane k a) i).Term.S.Main.Cells.n = (gat encPaneR a i).Term.S.Main.Cells.n := by rw [hg]; rfl
  have hgn_Term_S_Alt_Cells : (gat encPaneR (mrks mkEPane cntEPane k a) i).Term.S.Alt.Cells.n = (gat encPaneR a i).Term.S.Alt.Cells.n := by rw [hg]; rfl
  have hgn_Term_S_Tabs : (gat encPaneR (mrks mkEPane cntEPane k a) i).Term.S.Tabs.n = (gat encPaneR a i).Term.S.Tabs.n := by rw [hg]; rfl
  have hgn_Term_S_Back : (gat encPaneR (mrks mkEPane cntEPane k a) i).Term.S.Back.n = (gat encPaneR a i).Term.S.Back.n := by rw [hg]; rfl
  have hm_Term_P_Args : (gat encPaneR (mrks mkEPane cntEPane k a) i).Term.P.Args.xs = marks (fun k => k) 1 (((((((((k + cnts cntEPane (a.take i)) + 1) + 1) + 1) + 1) + 1) + 1) + 1) + 1) (gat encPaneR a i).Term.P.Args.xs.length := by rw [hg]; rfl
  have hm_Term_P_Part : (gat encPaneR (mrks mkEPane cntEPane k a) i).Term.P.Part.xs = marks ub 1 ((((((((((k + cnts cntEPane (a.take i)) + 1) + 1) + 1) + 1) + 1) + 1) + 1) + 1) + 1 * ((gat encPaneR a i).Term.P.Args.xs.length : Int)) (gat encPaneR a i).Term.P.Part.xs.length := by rw [hg]; rfl
  have hm_Term_S_Main_Cells : (gat encPaneR (mrks mkEPane cntEPane k a) i).Term.S.Main.Cells.xs = marks mkCell 6 (((((((((((((((k + cnts cntEPane (a.take i)) + 1) + 1) + 1) + 1) + 1) + 1) + 1) + 1) + 1 * ((gat encPaneR a i).Term.P.Args.xs.length : Int)) + 1 * ((gat encPaneR a i).Term.P.Part.xs.length : Int)) + 1) + 1) + 1) + 1) (gat encPaneR a i).Term.S.Main.Cells.xs.length := by rw [hg]; rfl
  have hm_Term_S_Alt_Cells : (gat encPaneR (mrks mkEPane cntEPane k a) i).Term.S.Alt.Cells.xs = marks mkCell 6 ((((((((((((((((((k + cnts cntEPane (a.take i)) + 1) + 1) + 1) + 1) + 1) + 1) + 1) + 1) + 1 * ((gat encPaneR a i).Term.P.Args.xs.length : Int)) + 1 * ((gat encPaneR a i).Term.P.Part.xs.length : Int)) + 1) + 1) + 1) + 1) + 6 * ((gat encPaneR a i).Term.S.Main.Cells.xs.length : Int)) + 1) + 1) (gat encPaneR a i).Term.S.Alt.Cells.xs.length := by rw [hg]; rfl
  have hm_Term_S_Tabs : (gat encPaneR (mrks mkEPane cntEPane k a) i).Term.S.Tabs.xs = marks (fun k => k) 1 (((((((((((((((((((((((((((((((((((((((k + cnts cntEPane (a.take i)) + 1) + 1) + 1) + 1) + 1) + 1) + 1) + 1) + 1 * ((gat encPaneR a i).Term.P.Args.xs.length : Int)) + 1 * ((gat encPaneR a i).Term.P.Part.xs.length : Int)) + 1) + 1) + 1) + 1) + 6 * ((gat encPaneR a i).Term.S.Main.Cells.xs.length : Int)) + 1) + 1) + 6 * ((gat encPaneR a i).Term.S.Alt.Cells.xs.length : Int)) + 1) + 1) + 1) + 1) + 1) + 1) + 1) + 1) + 1) + 1) + 1) + 1) + 1) + 1) + 1) + 1) + 1) + 1) + 1) + 1) (gat encPaneR a i).Term.S.Tabs.xs.length := by rw [hg]; rfl
  have hm_Term_S_Back : (gat encPaneR (mrks mkEPane cntEPane k a) i).Term.S.Back.xs = mrks mkERow cntERow (((((((((((((((((((((((((((((((((((((((((k + cnts cntEPane (a.take i)) + 1) + 1) + 1) + 1) + 1) + 1) + 1) + 1) + 1 * ((gat encPaneR a i).Term.P.Args.xs.length : Int)) + 1 * ((gat encPaneR a i).Term.P.Part.xs.length : Int)) + 1) + 1) + 1) + 1) + 6 * ((gat encPaneR a i).Term.S.Main.Cells.xs.length : Int)) + 1) + 1) + 6 * ((gat encPaneR a i).Term.S.Alt.Cells.xs.length : Int)) + 1) + 1) + 1) + 1) + 1) + 1) + 1) + 1) + 1) + 1) + 1) + 1) + 1) + 1) + 1) + 1) + 1) + 1) + 1) + 1) + 1 * ((gat encPaneR a i).Term.S.Tabs.xs.length : Int)) + 1) (gat encPaneR a i).Term.S.Back.xs := by rw [hg]; rfl
  have hfx_Term_S_Back := (SlN.nth f_a (show i < n_a by omega)).Term.S.Back
  rw [hm_Term_S_Back] at hfx_Term_S_Back
  refine WC.skip (hK4 _ _ (WC.seq (fun K6 hK6 => WC.block (WC.seq (fun K7 hK7 => WC.sr (WL.r 2 hs3 [] rfl ?_))))))
  refine WL.val rfl rfl rfl (Run.idxN Tryz.runUnderlying29 Tryz.sizeOf93 rfl rfl rfl ?_ ?_ ?_) ?_
  · exact SlF.some_ (SlF.st0 f_a.sl hs3)
  · omega
  · omega
  refine WL.val rfl rfl rfl (Run.fieldO Tryz.runUnderlying93 rfl rfl rfl Tryz.sizeOf3 rfl) (WL.val rfl rfl rfl (Run.load Tryz.isAgg3 rfl rfl (SlF.fld (SlF.st0 f_a.sl hs3) ?_ rfl)) ?_)
  · omega
  refine WL.r 2 hs3 [] rfl (WL.nil (WC.condF rfl (by simp [hg, mkEPane]) (WC.skip (hK7 _ _ (WC.r1 hs3 [] rfl (WC.seq (fun K9 hK9 => WC.sq1 hs3 ?_)))))))
  refine WQ.r 2 [] rfl ?_
  refine WQ.val rfl rfl rfl (fun w_ hs_ => (Run.idxN Tryz.runUnderlying29 Tryz.sizeOf93 rfl rfl rfl ?_ ?_ ?_)) ?_
  · exact SlF.some_ (SlF.st0 f_a.sl (hs_ : St _ _ _ _))
  · omega
  · omega
  refine WQ.val rfl rfl rfl (fun w_ hs_ => (Run.fieldO Tryz.runUnderlying93 rfl rfl rfl Tryz.sizeOf9 rfl)) ?_
  refine WQ.val rfl rfl rfl (fun w_ hs_ => (Run.load Tryz.isAgg9 rfl rfl (SlF.fld (SlF.st0 f_a.sl (hs_ : St _ _ _ _)) ?_ rfl))) ?_
  · omega
  refine WQ.r 1 [] rfl ?_
  refine WQ.call rfl rfl rfl (fun w_ hs_ => (Run.call Tryz.call127 rfl rfl rfl)) (fun w_ hs_ => (k170_ _ _ ?_).mono fun e_ w_ h_ => ⟨h_.1, (hs_ : St _ _ _ _).call0 h_.2⟩) ?_
  · first | assumption | rfl | omega
  refine WQ.r 1 [] rfl (WQ.nil (fun _ (hs10 : St _ _ _ _) => WC.condF rfl (by simp [hg, mkEPane]) (WC.skip (hK9 _ _ (WC.r1 hs10 [] rfl (WC.seq (fun K12 hK12 => WC.sq1 hs10 ?_)))))))
  refine WQ.r 2 [] rfl ?_
  refine WQ.val rfl rfl rfl (fun w_ hs_ => (Run.idxN Tryz.runUnderlying29 Tryz.sizeOf93 rfl rfl rfl ?_ ?_ ?_)) ?_
  · exact SlF.some_ (SlF.st0 f_a.sl (hs_ : St _ _ _ _))
  · omega
  · omega
  refine WQ.val rfl rfl rfl (fun w_ hs_ => (Run.fieldO Tryz.runUnderlying93 rfl rfl rfl Tryz.sizeOf9 rfl)) ?_
  refine WQ.val rfl rfl rfl (fun w_ hs_ => (Run.load Tryz.isAgg9 rfl rfl (SlF.fld (SlF.st0 f_a.sl (hs_ : St _ _ _ _)) ?_ rfl))) ?_
  · omega
  refine WQ.r 1 [] rfl ?_
  refine WQ.call rfl rfl rfl (fun w_ hs_ => (Run.call Tryz.call127 rfl rfl rfl)) (fun w_ hs_ => (k170_ _ _ ?_).mono fun e_ w_ h_ => ⟨h_.1, (hs_ : St _ _ _ _).call0 h_.2⟩) ?_
  · first | assumption | rfl | omega
  refine WQ.r 1 [] rfl (WQ.nil (fun _ (hs13 : St _ _ _ _) => WC.condF rfl (by simp [hg, mkEPane]) (WC.skip (hK12 _ _ (WC.r1 hs13 [] rfl (WC.seq (fun K15 hK15 => WC.sr ?_)))))))
  refine WL.r 2 hs13 [] rfl (WL.val rfl rfl rfl (Run.idxN Tryz.runUnderlying29 Tryz.sizeOf93 rfl rfl rfl ?_ ?_ ?_) ?_)
  · exact SlF.some_ (SlF.st0 f_a.sl hs13)
  · omega
  · omega
  refine WL.val rfl rfl rfl (Run.fieldO Tryz.runUnderlying93 rfl rfl rfl Tryz.sizeOf3 rfl) (WL.val rfl rfl rfl (Run.load Tryz.isAgg3 rfl rfl (SlF.fld (SlF.st0 f_a.sl hs13) ?_ rfl)) ?_)
  · omega
  refine WL.r 2 hs13 [] rfl (WL.nil (WC.condF rfl (by simp [hg, mkEPane]) (WC.skip (hK15 _ _ (WC.r1 hs13 [] rfl (WC.seq (fun K17 hK17 => WC.sr ?_)))))))
  refine WL.r 2 hs13 [] rfl (WL.val rfl rfl rfl (Run.idxN Tryz.runUnderlying29 Tryz.sizeOf93 rfl rfl rfl ?_ ?_ ?_) ?_)
  · exact SlF.some_ (SlF.st0 f_a.sl hs13)
  · omega
  · omega
  refine WL.val rfl rfl rfl (Run.fieldO Tryz.runUnderlying93 rfl rfl rfl Tryz.sizeOf3 rfl) (WL.val rfl rfl rfl (Run.load Tryz.isAgg3 rfl rfl (SlF.fld (SlF.st0 f_a.sl hs13) ?_ rfl)) ?_)
  · omega
  refine WL.r 2 hs13 [] rfl (WL.nil (WC.condF rfl (by simp [hg, mkEPane]) (WC.skip (hK17 _ _ (WC.r1 hs13 [] rfl (WC.seq (fun K19 hK19 => WC.sr ?_)))))))
  refine WL.r 2 hs13 [] rfl (WL.val rfl rfl rfl (Run.idxN Tryz.runUnderlying29 Tryz.sizeOf93 rfl rfl rfl ?_ ?_ ?_) ?_)
  · exact SlF.some_ (SlF.st0 f_a.sl hs13)
  · omega
  · omega
  refine WL.val rfl rfl rfl (Run.fieldO Tryz.runUnderlying93 rfl rfl rfl Tryz.sizeOf3 rfl) (WL.val rfl rfl rfl (Run.load Tryz.isAgg3 rfl rfl (SlF.fld (SlF.st0 f_a.sl hs13) ?_ rfl)) ?_)
  · omega
  refine WL.r 2 hs13 [] rfl (WL.nil (WC.condF rfl (by simp [hg, mkEPane]) (WC.skip (hK19 _ _ (WC.r1 hs13 [] rfl (WC.seq (fun K21 hK21 => WC.sr ?_)))))))
  refine WL.r 2 hs13 [] rfl (WL.val rfl rfl rfl (Run.idxN Tryz.runUnderlying29 Tryz.sizeOf93 rfl rfl rfl ?_ ?_ ?_) ?_)
  · exact SlF.some_ (SlF.st0 f_a.sl hs13)
  · omega
  · omega
  refine WL.val rfl rfl rfl (Run.fieldO Tryz.runUnderlying93 rfl rfl rfl Tryz.sizeOf91 rfl) (WL.val rfl rfl rfl (Run.fieldE Tryz.runUnderlying91 rfl rfl rfl Tryz.sizeOf84 rfl) (WL.val rfl rfl rfl (Run.fieldE Tryz.runUnderlying84 rfl rfl rfl Tryz.sizeOf3 rfl) (WL.val rfl rfl rfl (Run.load Tryz.isAgg3 rfl rfl (SlF.fld (SlF.st0 f_a.sl hs13) ?_ rfl)) ?_)))
  · omega
  refine WL.r 2 hs13 [] rfl (WL.nil (WC.condF rfl (by simp [hg, mkEPane]) (WC.skip (hK21 _ _ (WC.r1 hs13 [] rfl (WC.seq (fun K23 hK23 => WC.sr ?_)))))))
  refine WL.r 2 hs13 [] rfl (WL.val rfl rfl rfl (Run.idxN Tryz.runUnderlying29 Tryz.sizeOf93 rfl rfl rfl ?_ ?_ ?_) ?_)
  · exact SlF.some_ (SlF.st0 f_a.sl hs13)
  · omega
  · omega
  refine WL.val rfl rfl rfl (Run.fieldO Tryz.runUnderlying93 rfl rfl rfl Tryz.sizeOf91 rfl) (WL.val rfl rfl rfl (Run.fieldE Tryz.runUnderlying91 rfl rfl rfl Tryz.sizeOf84 rfl) (WL.val rfl rfl rfl (Run.fieldE Tryz.runUnderlying84 rfl rfl rfl Tryz.sizeOf4 rfl) (WL.val rfl rfl rfl (Run.load Tryz.isAgg4 rfl rfl (SlF.fld (SlF.st0 f_a.sl hs13) ?_ rfl)) ?_)))
  · omega
  refine WL.r 1 hs13 [] rfl (WL.val rfl rfl rfl (Run.rem rfl rfl rfl ?_ ?_) ?_)
  · omega
  · omega
  refine WL.r 2 hs13 [] rfl (WL.nil (WC.condF rfl (by simp [hg, mkEPane]) (WC.skip (hK23 _ _ (WC.r1 hs13 [] rfl (WC.sr (WL.r 2 hs13 [] rfl ?_)))))))
  refine WL.val rfl rfl rfl (Run.idxN Tryz.runUnderlying29 Tryz.sizeOf93 rfl rfl rfl ?_ ?_ ?_) ?_
  · exact SlF.some_ (SlF.st0 f_a.sl hs13)
  · omega
  · omega
  refine WL.val rfl rfl rfl (Run.fieldO Tryz.runUnderlying93 rfl rfl rfl Tryz.sizeOf91 rfl) (WL.val rfl rfl rfl (Run.fieldE Tryz.runUnderlying91 rfl rfl rfl Tryz.sizeOf84 rfl) (WL.val rfl rfl rfl (Run.fieldE Tryz.runUnderlying84 rfl rfl rfl Tryz.sizeOf60 rfl) (WL.val rfl rfl rfl (Run.load Tryz.isAgg60 rfl rfl (SlF.fld (SlF.st0 f_a.sl hs13) ?_ rfl)) ?_)))
  · omega
  refine WL.r 1 hs13 [] rfl (WL.cl Tryz.call132 rfl (k176_ _ _ _ _ _ _ _ (SlF.st0 (SlN.nth f_a (by omega)).Term.P.Args hs13) hm_Term_P_Args ?_ ?_ ?_) ?_)
  iterate 3 first | assumption | rfl | omega
  rintro _ whs25 ⟨rfl, hs25⟩
  replace hs25 := hs13.call0 hs25
  refine ⟨_, rfl, WL.r 1 hs25 [] rfl (WL.nil (WC.seq (fun K26 hK26 => WC.r1 hs25 [] rfl ?_)))⟩
  refine WC.condF rfl (by first | (simp [hg, mkEPane]; done) | (simp [hg, mkEPane]; omega)) (WC.skip (hK26 _ _ (WC.sr (WL.r 2 hs25 [] rfl ?_))))
  refine WL.val rfl rfl rfl (Run.idxN Tryz.runUnderlying29 Tryz.sizeOf93 rfl rfl rfl ?_ ?_ ?_) ?_
  · exact SlF.some_ (SlF.st0 f_a.sl hs25)
  · omega
  · omega
  refine WL.val rfl rfl rfl (Run.fieldO Tryz.runUnderlying93 rfl rfl rfl Tryz.sizeOf91 rfl) (WL.val rfl rfl rfl (Run.fieldE Tryz.runUnderlying91 rfl rfl rfl Tryz.sizeOf84 rfl) (WL.val rfl rfl rfl (Run.fieldE Tryz.runUnderlying84 rfl rfl rfl Tryz.sizeOf44 rfl) (WL.val rfl rfl rfl (Run.load Tryz.isAgg44 rfl rfl (SlF.fld (SlF.st0 f_a.sl hs25) ?_ rfl)) ?_)))
  · omega
  refine WL.r 1 hs25 [] rfl (WL.cl Tryz.call28 rfl (k172_ _ _ _ _ _ _ _ (SlF.st0 (SlN.nth f_a (by omega)).Term.P.Part hs25) hm_Term_P_Part ?_ ?_ ?_) ?_)
  iterate 3 first | assumption | rfl | omega
  rintro _ whs28 ⟨rfl, hs28⟩
  replace hs28 := hs25.call0 hs28
  refine ⟨_, rfl, WL.r 1 hs28 [] rfl (WL.nil (WC.seq (fun K29 hK29 => WC.r1 hs28 [] rfl ?_)))⟩
  refine WC.condF rfl (by first | (simp [hg, mkEPane]; done) | (simp [hg, mkEPane]; omega)) (WC.skip (hK29 _ _ (WC.seq (fun K31 hK31 => WC.sr (WL.r 2 hs28 [] rfl ?_)))))
  refine WL.val rfl rfl rfl (Run.idxN Tryz.runUnderlying29 Tryz.sizeOf93 rfl rfl rfl ?_ ?_ ?_) ?_
  · exact SlF.some_ (SlF.st0 f_a.sl hs28)
  · omega
  · omega
  refine WL.val rfl rfl rfl (Run.fieldO Tryz.runUnderlying93 rfl rfl rfl Tryz.sizeOf91 rfl) (WL.val rfl rfl rfl (Run.fieldE Tryz.runUnderlying91 rfl rfl rfl Tryz.sizeOf89 rfl) (WL.val rfl rfl rfl (Run.fieldE Tryz.runUnderlying89 rfl rfl rfl Tryz.sizeOf3 rfl) (WL.val rfl rfl rfl (Run.load Tryz.isAgg3 rfl rfl (SlF.fld (SlF.st0 f_a.sl hs28) ?_ rfl)) ?_)))
  · omega
  refine WL.r 2 hs28 [] rfl (WL.nil (WC.condF rfl (by simp [hg, mkEPane]) (WC.skip (hK31 _ _ (WC.r1 hs28 [] rfl (WC.seq (fun K33 hK33 => WC.sr ?_)))))))
  refine WL.r 2 hs28 [] rfl (WL.val rfl rfl rfl (Run.idxN Tryz.runUnderlying29 Tryz.sizeOf93 rfl rfl rfl ?_ ?_ ?_) ?_)
  · exact SlF.some_ (SlF.st0 f_a.sl hs28)
  · omega
  · omega
  refine WL.val rfl rfl rfl (Run.fieldO Tryz.runUnderlying93 rfl rfl rfl Tryz.sizeOf91 rfl) (WL.val rfl rfl rfl (Run.fieldE Tryz.runUnderlying91 rfl rfl rfl Tryz.sizeOf89 rfl) (WL.val rfl rfl rfl (Run.fieldE Tryz.runUnderlying89 rfl rfl rfl Tryz.sizeOf3 rfl) (WL.val rfl rfl rfl (Run.load Tryz.isAgg3 rfl rfl (SlF.fld (SlF.st0 f_a.sl hs28) ?_ rfl)) ?_)))
  · omega
  refine WL.r 2 hs28 [] rfl (WL.nil (WC.condF rfl (by simp [hg, mkEPane]) (WC.skip (hK33 _ _ (WC.r1 hs28 [] rfl (WC.seq (fun K35 hK35 => WC.sr ?_)))))))
  refine WL.r 2 hs28 [] rfl (WL.val rfl rfl rfl (Run.idxN Tryz.runUnderlying29 Tryz.sizeOf93 rfl rfl rfl ?_ ?_ ?_) ?_)
  · exact SlF.some_ (SlF.st0 f_a.sl hs28)
  · omega
  · omega
  refine WL.val rfl rfl rfl (Run.fieldO Tryz.runUnderlying93 rfl rfl rfl Tryz.sizeOf91 rfl) (WL.val rfl rfl rfl (Run.fieldE Tryz.runUnderlying91 rfl rfl rfl Tryz.sizeOf89 rfl) (WL.val rfl rfl rfl (Run.fieldE Tryz.runUnderlying89 rfl rfl rfl Tryz.sizeOf76 rfl) (WL.val rfl rfl rfl (Run.fieldE Tryz.runUnderlying76 rfl rfl rfl Tryz.sizeOf3 rfl) (WL.val rfl rfl rfl (Run.load Tryz.isAgg3 rfl rfl (SlF.fld (SlF.st0 f_a.sl hs28) ?_ rfl)) ?_))))
  · omega
  refine WL.r 2 hs28 [] rfl (WL.nil (WC.condF rfl (by simp [hg, mkEPane]) (WC.skip (hK35 _ _ (WC.r1 hs28 [] rfl (WC.seq (fun K37 hK37 => WC.sr ?_)))))))
  refine WL.r 2 hs28 [] rfl (WL.val rfl rfl rfl (Run.idxN Tryz.runUnderlying29 Tryz.sizeOf93 rfl rfl rfl ?_ ?_ ?_) ?_)
  · exact SlF.some_ (SlF.st0 f_a.sl hs28)
  · omega
  · omega
  refine WL.val rfl rfl rfl (Run.fieldO Tryz.runUnderlying93 rfl rfl rfl Tryz.sizeOf91 rfl) (WL.val rfl rfl rfl (Run.fieldE Tryz.runUnderlying91 rfl rfl rfl Tryz.sizeOf89 rfl) (WL.val rfl rfl rfl (Run.fieldE Tryz.runUnderlying89 rfl rfl rfl Tryz.sizeOf76 rfl) (WL.val rfl rfl rfl (Run.fieldE Tryz.runUnderlying76 rfl rfl rfl Tryz.sizeOf3 rfl) (WL.val rfl rfl rfl (Run.load Tryz.isAgg3 rfl rfl (SlF.fld (SlF.st0 f_a.sl hs28) ?_ rfl)) ?_))))
  · omega
  refine WL.r 2 hs28 [] rfl (WL.nil (WC.condF rfl (by simp [hg, mkEPane]) (WC.skip (hK37 _ _ (WC.r1 hs28 [] rfl (WC.sr (WL.r 2 hs28 [] rfl ?_)))))))
  refine WL.val rfl rfl rfl (Run.idxN Tryz.runUnderlying29 Tryz.sizeOf93 rfl rfl rfl ?_ ?_ ?_) ?_
  · exact SlF.some_ (SlF.st0 f_a.sl hs28)
  · omega
  · omega
  refine WL.val rfl rfl rfl (Run.fieldO Tryz.runUnderlying93 rfl rfl rfl Tryz.sizeOf91 rfl) (WL.val rfl rfl rfl (Run.fieldE Tryz.runUnderlying91 rfl rfl rfl Tryz.sizeOf89 rfl) (WL.val rfl rfl rfl (Run.fieldE Tryz.runUnderlying89 rfl rfl rfl Tryz.sizeOf76 rfl) (WL.val rfl rfl rfl (Run.fieldE Tryz.runUnderlying76 rfl rfl rfl Tryz.sizeOf74 rfl) (WL.val rfl rfl rfl (Run.load Tryz.isAgg74 rfl rfl (SlF.fld (SlF.st0 f_a.sl hs28) ?_ rfl)) ?_))))
  · omega
  refine WL.r 1 hs28 [] rfl (WL.cl Tryz.call133 rfl (k174_ _ _ _ _ _ _ _ (SlF.st0 (SlN.nth f_a (by omega)).Term.S.Main.Cells hs28) hm_Term_S_Main_Cells ?_ ?_ ?_) ?_)
  iterate 3 first | assumption | rfl | omega
  rintro _ whs39 ⟨rfl, hs39⟩
  replace hs39 := hs28.call0 hs39
  refine ⟨_, rfl, WL.r 1 hs39 [] rfl (WL.nil (WC.seq (fun K40 hK40 => WC.r1 hs39 [] rfl ?_)))⟩
  refine WC.condF rfl (by first | (simp [hg, mkEPane]; done) | (simp [hg, mkEPane]; omega)) (WC.skip (hK40 _ _ (WC.seq (fun K42 hK42 => WC.sr (WL.r 2 hs39 [] rfl ?_)))))
  refine WL.val rfl rfl rfl (Run.idxN Tryz.runUnderlying29 Tryz.sizeOf93 rfl rfl rfl ?_ ?_ ?_) ?_
  · exact SlF.some_ (SlF.st0 f_a.sl hs39)
  · omega
  · omega
  refine WL.val rfl rfl rfl (Run.fieldO Tryz.runUnderlying93 rfl rfl rfl Tryz.sizeOf91 rfl) (WL.val rfl rfl rfl (Run.fieldE Tryz.runUnderlying91 rfl rfl rfl Tryz.sizeOf89 rfl) (WL.val rfl rfl rfl (Run.fieldE Tryz.runUnderlying89 rfl rfl rfl Tryz.sizeOf76 rfl) (WL.val rfl rfl rfl (Run.fieldE Tryz.runUnderlying76 rfl rfl rfl Tryz.sizeOf3 rfl) (WL.val rfl rfl rfl (Run.load Tryz.isAgg3 rfl rfl (SlF.fld (SlF.st0 f_a.sl hs39) ?_ rfl)) ?_))))
  · omega
  refine WL.r 2 hs39 [] rfl (WL.nil (WC.condF rfl (by simp [hg, mkEPane]) (WC.skip (hK42 _ _ (WC.r1 hs39 [] rfl (WC.seq (fun K44 hK44 => WC.sr ?_)))))))
  refine WL.r 2 hs39 [] rfl (WL.val rfl rfl rfl (Run.idxN Tryz.runUnderlying29 Tryz.sizeOf93 rfl rfl rfl ?_ ?_ ?_) ?_)
  · exact SlF.some_ (SlF.st0 f_a.sl hs39)
  · omega
  · omega
  refine WL.val rfl rfl rfl (Run.fieldO Tryz.runUnderlying93 rfl rfl rfl Tryz.sizeOf91 rfl) (WL.val rfl rfl rfl (Run.fieldE Tryz.runUnderlying91 rfl rfl rfl Tryz.sizeOf89 rfl) (WL.val rfl rfl rfl (Run.fieldE Tryz.runUnderlying89 rfl rfl rfl Tryz.sizeOf76 rfl) (WL.val rfl rfl rfl (Run.fieldE Tryz.runUnderlying76 rfl rfl rfl Tryz.sizeOf3 rfl) (WL.val rfl rfl rfl (Run.load Tryz.isAgg3 rfl rfl (SlF.fld (SlF.st0 f_a.sl hs39) ?_ rfl)) ?_))))
  · omega
  refine WL.r 2 hs39 [] rfl (WL.nil (WC.condF rfl (by simp [hg, mkEPane]) (WC.skip (hK44 _ _ (WC.r1 hs39 [] rfl (WC.sr (WL.r 2 hs39 [] rfl ?_)))))))
  refine WL.val rfl rfl rfl (Run.idxN Tryz.runUnderlying29 Tryz.sizeOf93 rfl rfl rfl ?_ ?_ ?_) ?_
  · exact SlF.some_ (SlF.st0 f_a.sl hs39)
  · omega
  · omega
  refine WL.val rfl rfl rfl (Run.fieldO Tryz.runUnderlying93 rfl rfl rfl Tryz.sizeOf91 rfl) (WL.val rfl rfl rfl (Run.fieldE Tryz.runUnderlying91 rfl rfl rfl Tryz.sizeOf89 rfl) (WL.val rfl rfl rfl (Run.fieldE Tryz.runUnderlying89 rfl rfl rfl Tryz.sizeOf76 rfl) (WL.val rfl rfl rfl (Run.fieldE Tryz.runUnderlying76 rfl rfl rfl Tryz.sizeOf74 rfl) (WL.val rfl rfl rfl (Run.load Tryz.isAgg74 rfl rfl (SlF.fld (SlF.st0 f_a.sl hs39) ?_ rfl)) ?_))))
  · omega
  refine WL.r 1 hs39 [] rfl (WL.cl Tryz.call133 rfl (k174_ _ _ _ _ _ _ _ (SlF.st0 (SlN.nth f_a (by omega)).Term.S.Alt.Cells hs39) hm_Term_S_Alt_Cells ?_ ?_ ?_) ?_)
  iterate 3 first | assumption | rfl | omega
  rintro _ whs46 ⟨rfl, hs46⟩
  replace hs46 := hs39.call0 hs46
  refine ⟨_, rfl, WL.r 1 hs46 [] rfl (WL.nil (WC.seq (fun K47 hK47 => WC.r1 hs46 [] rfl ?_)))⟩
  refine WC.condF rfl (by first | (simp [hg, mkEPane]; done) | (simp [hg, mkEPane]; omega)) (WC.skip (hK47 _ _ (WC.seq (fun K49 hK49 => WC.sr (WL.r 2 hs46 [] rfl ?_)))))
  refine WL.val rfl rfl rfl (Run.idxN Tryz.runUnderlying29 Tryz.sizeOf93 rfl rfl rfl ?_ ?_ ?_) ?_
  · exact SlF.some_ (SlF.st0 f_a.sl hs46)
  · omega
  · omega
  refine WL.val rfl rfl rfl (Run.fieldO Tryz.runUnderlying93 rfl rfl rfl Tryz.sizeOf91 rfl) (WL.val rfl rfl rfl (Run.fieldE Tryz.runUnderlying91 rfl rfl rfl Tryz.sizeOf89 rfl) (WL.val rfl rfl rfl (Run.fieldE Tryz.runUnderlying89 rfl rfl rfl Tryz.sizeOf4 rfl) (WL.val rfl rfl rfl (Run.load Tryz.isAgg4 rfl rfl (SlF.fld (SlF.st0 f_a.sl hs46) ?_ rfl)) ?_)))
  · omega
  refine WL.r 1 hs46 [] rfl (WL.val rfl rfl rfl (Run.rem rfl rfl rfl ?_ ?_) ?_)
  · omega
  · omega
  refine WL.r 2 hs46 [] rfl (WL.nil (WC.condF rfl (by simp [hg, mkEPane]) (WC.skip (hK49 _ _ (WC.r1 hs46 [] rfl (WC.seq (fun K51 hK51 => WC.sr ?_)))))))
  refine WL.r 2 hs46 [] rfl (WL.val rfl rfl rfl (Run.idxN Tryz.runUnderlying29 Tryz.sizeOf93 rfl rfl rfl ?_ ?_ ?_) ?_)
  · exact SlF.some_ (SlF.st0 f_a.sl hs46)
  · omega
  · omega
  refine WL.val rfl rfl rfl (Run.fieldO Tryz.runUnderlying93 rfl rfl rfl Tryz.sizeOf91 rfl) (WL.val rfl rfl rfl (Run.fieldE Tryz.runUnderlying91 rfl rfl rfl Tryz.sizeOf89 rfl) (WL.val rfl rfl rfl (Run.fieldE Tryz.runUnderlying89 rfl rfl rfl Tryz.sizeOf3 rfl) (WL.val rfl rfl rfl (Run.load Tryz.isAgg3 rfl rfl (SlF.fld (SlF.st0 f_a.sl hs46) ?_ rfl)) ?_)))
  · omega
  refine WL.r 2 hs46 [] rfl (WL.nil (WC.condF rfl (by simp [hg, mkEPane]) (WC.skip (hK51 _ _ (WC.r1 hs46 [] rfl (WC.seq (fun K53 hK53 => WC.sr ?_)))))))
  refine WL.r 2 hs46 [] rfl (WL.val rfl rfl rfl (Run.idxN Tryz.runUnderlying29 Tryz.sizeOf93 rfl rfl rfl ?_ ?_ ?_) ?_)
  · exact SlF.some_ (SlF.st0 f_a.sl hs46)
  · omega
  · omega
  refine WL.val rfl rfl rfl (Run.fieldO Tryz.runUnderlying93 rfl rfl rfl Tryz.sizeOf91 rfl) (WL.val rfl rfl rfl (Run.fieldE Tryz.runUnderlying91 rfl rfl rfl Tryz.sizeOf89 rfl) (WL.val rfl rfl rfl (Run.fieldE Tryz.runUnderlying89 rfl rfl rfl Tryz.sizeOf3 rfl) (WL.val rfl rfl rfl (Run.load Tryz.isAgg3 rfl rfl (SlF.fld (SlF.st0 f_a.sl hs46) ?_ rfl)) ?_)))
  · omega
  refine WL.r 2 hs46 [] rfl (WL.nil (WC.condF rfl (by simp [hg, mkEPane]) (WC.skip (hK53 _ _ (WC.r1 hs46 [] rfl (WC.seq (fun K55 hK55 => WC.sr ?_)))))))
  refine WL.r 2 hs46 [] rfl (WL.val rfl rfl rfl (Run.idxN Tryz.runUnderlying29 Tryz.sizeOf93 rfl rfl rfl ?_ ?_ ?_) ?_)
  · exact SlF.some_ (SlF.st0 f_a.sl hs46)
  · omega
  · omega
  refine WL.val rfl rfl rfl (Run.fieldO Tryz.runUnderlying93 rfl rfl rfl Tryz.sizeOf91 rfl) (WL.val rfl rfl rfl (Run.fieldE Tryz.runUnderlying91 rfl rfl rfl Tryz.sizeOf89 rfl) (WL.val rfl rfl rfl (Run.fieldE Tryz.runUnderlying89 rfl rfl rfl Tryz.sizeOf4 rfl) (WL.val rfl rfl rfl (Run.load Tryz.isAgg4 rfl rfl (SlF.fld (SlF.st0 f_a.sl hs46) ?_ rfl)) ?_)))
  · omega
  refine WL.r 1 hs46 [] rfl (WL.val rfl rfl rfl (Run.rem rfl rfl rfl ?_ ?_) ?_)
  · omega
  · omega
  refine WL.r 2 hs46 [] rfl (WL.nil (WC.condF rfl (by simp [hg, mkEPane]) (WC.skip (hK55 _ _ (WC.r1 hs46 [] rfl (WC.seq (fun K57 hK57 => WC.sr ?_)))))))
  refine WL.r 2 hs46 [] rfl (WL.val rfl rfl rfl (Run.idxN Tryz.runUnderlying29 Tryz.sizeOf93 rfl rfl rfl ?_ ?_ ?_) ?_)
  · exact SlF.some_ (SlF.st0 f_a.sl hs46)
  · omega
  · omega
  refine WL.val rfl rfl rfl (Run.fieldO Tryz.runUnderlying93 rfl rfl rfl Tryz.sizeOf91 rfl) (WL.val rfl rfl rfl (Run.fieldE Tryz.runUnderlying91 rfl rfl rfl Tryz.sizeOf89 rfl) (WL.val rfl rfl rfl (Run.fieldE Tryz.runUnderlying89 rfl rfl rfl Tryz.sizeOf86 rfl) (WL.val rfl rfl rfl (Run.fieldE Tryz.runUnderlying86 rfl rfl rfl Tryz.sizeOf3 rfl) (WL.val rfl rfl rfl (Run.load Tryz.isAgg3 rfl rfl (SlF.fld (SlF.st0 f_a.sl hs46) ?_ rfl)) ?_))))
  · omega
  refine WL.r 2 hs46 [] rfl (WL.nil (WC.condF rfl (by simp [hg, mkEPane]) (WC.skip (hK57 _ _ (WC.r1 hs46 [] rfl (WC.seq (fun K59 hK59 => WC.sr ?_)))))))
  refine WL.r 2 hs46 [] rfl (WL.val rfl rfl rfl (Run.idxN Tryz.runUnderlying29 Tryz.sizeOf93 rfl rfl rfl ?_ ?_ ?_) ?_)
  · exact SlF.some_ (SlF.st0 f_a.sl hs46)
  · omega
  · omega
  refine WL.val rfl rfl rfl (Run.fieldO Tryz.runUnderlying93 rfl rfl rfl Tryz.sizeOf91 rfl) (WL.val rfl rfl rfl (Run.fieldE Tryz.runUnderlying91 rfl rfl rfl Tryz.sizeOf89 rfl) (WL.val rfl rfl rfl (Run.fieldE Tryz.runUnderlying89 rfl rfl rfl Tryz.sizeOf86 rfl) (WL.val rfl rfl rfl (Run.fieldE Tryz.runUnderlying86 rfl rfl rfl Tryz.sizeOf3 rfl) (WL.val rfl rfl rfl (Run.load Tryz.isAgg3 rfl rfl (SlF.fld (SlF.st0 f_a.sl hs46) ?_ rfl)) ?_))))
  · omega
  refine WL.r 2 hs46 [] rfl (WL.nil (WC.condF rfl (by simp [hg, mkEPane]) (WC.skip (hK59 _ _ (WC.r1 hs46 [] rfl (WC.seq (fun K61 hK61 => WC.sr ?_)))))))
  refine WL.r 2 hs46 [] rfl (WL.val rfl rfl rfl (Run.idxN Tryz.runUnderlying29 Tryz.sizeOf93 rfl rfl rfl ?_ ?_ ?_) ?_)
  · exact SlF.some_ (SlF.st0 f_a.sl hs46)
  · omega
  · omega
  refine WL.val rfl rfl rfl (Run.fieldO Tryz.runUnderlying93 rfl rfl rfl Tryz.sizeOf91 rfl) (WL.val rfl rfl rfl (Run.fieldE Tryz.runUnderlying91 rfl rfl rfl Tryz.sizeOf89 rfl) (WL.val rfl rfl rfl (Run.fieldE Tryz.runUnderlying89 rfl rfl rfl Tryz.sizeOf86 rfl) (WL.val rfl rfl rfl (Run.fieldE Tryz.runUnderlying86 rfl rfl rfl Tryz.sizeOf4 rfl) (WL.val rfl rfl rfl (Run.load Tryz.isAgg4 rfl rfl (SlF.fld (SlF.st0 f_a.sl hs46) ?_ rfl)) ?_))))
  · omega
  refine WL.r 1 hs46 [] rfl (WL.val rfl rfl rfl (Run.rem rfl rfl rfl ?_ ?_) ?_)
  · omega
  · omega
  refine WL.r 2 hs46 [] rfl (WL.nil (WC.condF rfl (by simp [hg, mkEPane]) (WC.skip (hK61 _ _ (WC.r1 hs46 [] rfl (WC.seq (fun K63 hK63 => WC.sr ?_)))))))
  refine WL.r 2 hs46 [] rfl (WL.val rfl rfl rfl (Run.idxN Tryz.runUnderlying29 Tryz.sizeOf93 rfl rfl rfl ?_ ?_ ?_) ?_)
  · exact SlF.some_ (SlF.st0 f_a.sl hs46)
  · omega
  · omega
  refine WL.val rfl rfl rfl (Run.fieldO Tryz.runUnderlying93 rfl rfl rfl Tryz.sizeOf91 rfl) (WL.val rfl rfl rfl (Run.fieldE Tryz.runUnderlying91 rfl rfl rfl Tryz.sizeOf89 rfl) (WL.val rfl rfl rfl (Run.fieldE Tryz.runUnderlying89 rfl rfl rfl Tryz.sizeOf86 rfl) (WL.val rfl rfl rfl (Run.fieldE Tryz.runUnderlying86 rfl rfl rfl Tryz.sizeOf4 rfl) (WL.val rfl rfl rfl (Run.load Tryz.isAgg4 rfl rfl (SlF.fld (SlF.st0 f_a.sl hs46) ?_ rfl)) ?_))))
  · omega
  refine WL.r 1 hs46 [] rfl (WL.val rfl rfl rfl (Run.rem rfl rfl rfl ?_ ?_) ?_)
  · omega
  · omega
  refine WL.r 2 hs46 [] rfl (WL.nil (WC.condF rfl (by simp [hg, mkEPane]) (WC.skip (hK63 _ _ (WC.r1 hs46 [] rfl (WC.seq (fun K65 hK65 => WC.sr ?_)))))))
  refine WL.r 2 hs46 [] rfl (WL.val rfl rfl rfl (Run.idxN Tryz.runUnderlying29 Tryz.sizeOf93 rfl rfl rfl ?_ ?_ ?_) ?_)
  · exact SlF.some_ (SlF.st0 f_a.sl hs46)
  · omega
  · omega
  refine WL.val rfl rfl rfl (Run.fieldO Tryz.runUnderlying93 rfl rfl rfl Tryz.sizeOf91 rfl) (WL.val rfl rfl rfl (Run.fieldE Tryz.runUnderlying91 rfl rfl rfl Tryz.sizeOf89 rfl) (WL.val rfl rfl rfl (Run.fieldE Tryz.runUnderlying89 rfl rfl rfl Tryz.sizeOf86 rfl) (WL.val rfl rfl rfl (Run.fieldE Tryz.runUnderlying86 rfl rfl rfl Tryz.sizeOf4 rfl) (WL.val rfl rfl rfl (Run.load Tryz.isAgg4 rfl rfl (SlF.fld (SlF.st0 f_a.sl hs46) ?_ rfl)) ?_))))
  · omega
  refine WL.r 1 hs46 [] rfl (WL.val rfl rfl rfl (Run.rem rfl rfl rfl ?_ ?_) ?_)
  · omega
  · omega
  refine WL.r 2 hs46 [] rfl (WL.nil (WC.condF rfl (by simp [hg, mkEPane]) (WC.skip (hK65 _ _ (WC.r1 hs46 [] rfl (WC.seq (fun K67 hK67 => WC.sr ?_)))))))
  refine WL.r 2 hs46 [] rfl (WL.val rfl rfl rfl (Run.idxN Tryz.runUnderlying29 Tryz.sizeOf93 rfl rfl rfl ?_ ?_ ?_) ?_)
  · exact SlF.some_ (SlF.st0 f_a.sl hs46)
  · omega
  · omega
  refine WL.val rfl rfl rfl (Run.fieldO Tryz.runUnderlying93 rfl rfl rfl Tryz.sizeOf91 rfl) (WL.val rfl rfl rfl (Run.fieldE Tryz.runUnderlying91 rfl rfl rfl Tryz.sizeOf89 rfl) (WL.val rfl rfl rfl (Run.fieldE Tryz.runUnderlying89 rfl rfl rfl Tryz.sizeOf3 rfl) (WL.val rfl rfl rfl (Run.load Tryz.isAgg3 rfl rfl (SlF.fld (SlF.st0 f_a.sl hs46) ?_ rfl)) ?_)))
  · omega
  refine WL.r 2 hs46 [] rfl (WL.nil (WC.condF rfl (by simp [hg, mkEPane]) (WC.skip (hK67 _ _ (WC.r1 hs46 [] rfl (WC.seq (fun K69 hK69 => WC.sr ?_)))))))
  refine WL.r 2 hs46 [] rfl (WL.val rfl rfl rfl (Run.idxN Tryz.runUnderlying29 Tryz.sizeOf93 rfl rfl rfl ?_ ?_ ?_) ?_)
  · exact SlF.some_ (SlF.st0 f_a.sl hs46)
  · omega
  · omega
  refine WL.val rfl rfl rfl (Run.fieldO Tryz.runUnderlying93 rfl rfl rfl Tryz.sizeOf91 rfl) (WL.val rfl rfl rfl (Run.fieldE Tryz.runUnderlying91 rfl rfl rfl Tryz.sizeOf89 rfl) (WL.val rfl rfl rfl (Run.fieldE Tryz.runUnderlying89 rfl rfl rfl Tryz.sizeOf3 rfl) (WL.val rfl rfl rfl (Run.load Tryz.isAgg3 rfl rfl (SlF.fld (SlF.st0 f_a.sl hs46) ?_ rfl)) ?_)))
  · omega
  refine WL.r 2 hs46 [] rfl (WL.nil (WC.condF rfl (by simp [hg, mkEPane]) (WC.skip (hK69 _ _ (WC.r1 hs46 [] rfl (WC.seq (fun K71 hK71 => WC.sr ?_)))))))
  refine WL.r 2 hs46 [] rfl (WL.val rfl rfl rfl (Run.idxN Tryz.runUnderlying29 Tryz.sizeOf93 rfl rfl rfl ?_ ?_ ?_) ?_)
  · exact SlF.some_ (SlF.st0 f_a.sl hs46)
  · omega
  · omega
  refine WL.val rfl rfl rfl (Run.fieldO Tryz.runUnderlying93 rfl rfl rfl Tryz.sizeOf91 rfl) (WL.val rfl rfl rfl (Run.fieldE Tryz.runUnderlying91 rfl rfl rfl Tryz.sizeOf89 rfl) (WL.val rfl rfl rfl (Run.fieldE Tryz.runUnderlying89 rfl rfl rfl Tryz.sizeOf4 rfl) (WL.val rfl rfl rfl (Run.load Tryz.isAgg4 rfl rfl (SlF.fld (SlF.st0 f_a.sl hs46) ?_ rfl)) ?_)))
  · omega
  refine WL.r 1 hs46 [] rfl (WL.val rfl rfl rfl (Run.rem rfl rfl rfl ?_ ?_) ?_)
  · omega
  · omega
  refine WL.r 2 hs46 [] rfl (WL.nil (WC.condF rfl (by simp [hg, mkEPane]) (WC.skip (hK71 _ _ (WC.r1 hs46 [] rfl (WC.seq (fun K73 hK73 => WC.sr ?_)))))))
  refine WL.r 2 hs46 [] rfl (WL.val rfl rfl rfl (Run.idxN Tryz.runUnderlying29 Tryz.sizeOf93 rfl rfl rfl ?_ ?_ ?_) ?_)
  · exact SlF.some_ (SlF.st0 f_a.sl hs46)
  · omega
  · omega
  refine WL.val rfl rfl rfl (Run.fieldO Tryz.runUnderlying93 rfl rfl rfl Tryz.sizeOf91 rfl) (WL.val rfl rfl rfl (Run.fieldE Tryz.runUnderlying91 rfl rfl rfl Tryz.sizeOf89 rfl) (WL.val rfl rfl rfl (Run.fieldE Tryz.runUnderlying89 rfl rfl rfl Tryz.sizeOf4 rfl) (WL.val rfl rfl rfl (Run.load Tryz.isAgg4 rfl rfl (SlF.fld (SlF.st0 f_a.sl hs46) ?_ rfl)) ?_)))
  · omega
  refine WL.r 1 hs46 [] rfl (WL.val rfl rfl rfl (Run.rem rfl rfl rfl ?_ ?_) ?_)
  · omega
  · omega
  refine WL.r 2 hs46 [] rfl (WL.nil (WC.condF rfl (by simp [hg, mkEPane]) (WC.skip (hK73 _ _ (WC.r1 hs46 [] rfl (WC.seq (fun K75 hK75 => WC.sr ?_)))))))
  refine WL.r 2 hs46 [] rfl (WL.val rfl rfl rfl (Run.idxN Tryz.runUnderlying29 Tryz.sizeOf93 rfl rfl rfl ?_ ?_ ?_) ?_)
  · exact SlF.some_ (SlF.st0 f_a.sl hs46)
  · omega
  · omega
  refine WL.val rfl rfl rfl (Run.fieldO Tryz.runUnderlying93 rfl rfl rfl Tryz.sizeOf91 rfl) (WL.val rfl rfl rfl (Run.fieldE Tryz.runUnderlying91 rfl rfl rfl Tryz.sizeOf89 rfl) (WL.val rfl rfl rfl (Run.fieldE Tryz.runUnderlying89 rfl rfl rfl Tryz.sizeOf3 rfl) (WL.val rfl rfl rfl (Run.load Tryz.isAgg3 rfl rfl (SlF.fld (SlF.st0 f_a.sl hs46) ?_ rfl)) ?_)))
  · omega
  refine WL.r 2 hs46 [] rfl (WL.nil (WC.condF rfl (by simp [hg, mkEPane]) (WC.skip (hK75 _ _ (WC.r1 hs46 [] rfl (WC.seq (fun K77 hK77 => WC.sr ?_)))))))
  refine WL.r 2 hs46 [] rfl (WL.val rfl rfl rfl (Run.idxN Tryz.runUnderlying29 Tryz.sizeOf93 rfl rfl rfl ?_ ?_ ?_) ?_)
  · exact SlF.some_ (SlF.st0 f_a.sl hs46)
  · omega
  · omega
  refine WL.val rfl rfl rfl (Run.fieldO Tryz.runUnderlying93 rfl rfl rfl Tryz.sizeOf91 rfl) (WL.val rfl rfl rfl (Run.fieldE Tryz.runUnderlying91 rfl rfl rfl Tryz.sizeOf89 rfl) (WL.val rfl rfl rfl (Run.fieldE Tryz.runUnderlying89 rfl rfl rfl Tryz.sizeOf3 rfl) (WL.val rfl rfl rfl (Run.load Tryz.isAgg3 rfl rfl (SlF.fld (SlF.st0 f_a.sl hs46) ?_ rfl)) ?_)))
  · omega
  refine WL.r 2 hs46 [] rfl (WL.nil (WC.condF rfl (by simp [hg, mkEPane]) (WC.skip (hK77 _ _ (WC.r1 hs46 [] rfl (WC.seq (fun K79 hK79 => WC.sr ?_)))))))
  refine WL.r 2 hs46 [] rfl (WL.val rfl rfl rfl (Run.idxN Tryz.runUnderlying29 Tryz.sizeOf93 rfl rfl rfl ?_ ?_ ?_) ?_)
  · exact SlF.some_ (SlF.st0 f_a.sl hs46)
  · omega
  · omega
  refine WL.val rfl rfl rfl (Run.fieldO Tryz.runUnderlying93 rfl rfl rfl Tryz.sizeOf91 rfl) (WL.val rfl rfl rfl (Run.fieldE Tryz.runUnderlying91 rfl rfl rfl Tryz.sizeOf89 rfl) (WL.val rfl rfl rfl (Run.fieldE Tryz.runUnderlying89 rfl rfl rfl Tryz.sizeOf86 rfl) (WL.val rfl rfl rfl (Run.fieldE Tryz.runUnderlying86 rfl rfl rfl Tryz.sizeOf3 rfl) (WL.val rfl rfl rfl (Run.load Tryz.isAgg3 rfl rfl (SlF.fld (SlF.st0 f_a.sl hs46) ?_ rfl)) ?_))))
  · omega
  refine WL.r 2 hs46 [] rfl (WL.nil (WC.condF rfl (by simp [hg, mkEPane]) (WC.skip (hK79 _ _ (WC.r1 hs46 [] rfl (WC.seq (fun K81 hK81 => WC.sr ?_)))))))
  refine WL.r 2 hs46 [] rfl (WL.val rfl rfl rfl (Run.idxN Tryz.runUnderlying29 Tryz.sizeOf93 rfl rfl rfl ?_ ?_ ?_) ?_)
  · exact SlF.some_ (SlF.st0 f_a.sl hs46)
  · omega
  · omega
  refine WL.val rfl rfl rfl (Run.fieldO Tryz.runUnderlying93 rfl rfl rfl Tryz.sizeOf91 rfl) (WL.val rfl rfl rfl (Run.fieldE Tryz.runUnderlying91 rfl rfl rfl Tryz.sizeOf89 rfl) (WL.val rfl rfl rfl (Run.fieldE Tryz.runUnderlying89 rfl rfl rfl Tryz.sizeOf86 rfl) (WL.val rfl rfl rfl (Run.fieldE Tryz.runUnderlying86 rfl rfl rfl Tryz.sizeOf3 rfl) (WL.val rfl rfl rfl (Run.load Tryz.isAgg3 rfl rfl (SlF.fld (SlF.st0 f_a.sl hs46) ?_ rfl)) ?_))))
  · omega
  refine WL.r 2 hs46 [] rfl (WL.nil (WC.condF rfl (by simp [hg, mkEPane]) (WC.skip (hK81 _ _ (WC.r1 hs46 [] rfl (WC.seq (fun K83 hK83 => WC.sr ?_)))))))
  refine WL.r 2 hs46 [] rfl (WL.val rfl rfl rfl (Run.idxN Tryz.runUnderlying29 Tryz.sizeOf93 rfl rfl rfl ?_ ?_ ?_) ?_)
  · exact SlF.some_ (SlF.st0 f_a.sl hs46)
  · omega
  · omega
  refine WL.val rfl rfl rfl (Run.fieldO Tryz.runUnderlying93 rfl rfl rfl Tryz.sizeOf91 rfl) (WL.val rfl rfl rfl (Run.fieldE Tryz.runUnderlying91 rfl rfl rfl Tryz.sizeOf89 rfl) (WL.val rfl rfl rfl (Run.fieldE Tryz.runUnderlying89 rfl rfl rfl Tryz.sizeOf86 rfl) (WL.val rfl rfl rfl (Run.fieldE Tryz.runUnderlying86 rfl rfl rfl Tryz.sizeOf4 rfl) (WL.val rfl rfl rfl (Run.load Tryz.isAgg4 rfl rfl (SlF.fld (SlF.st0 f_a.sl hs46) ?_ rfl)) ?_))))
  · omega
  refine WL.r 1 hs46 [] rfl (WL.val rfl rfl rfl (Run.rem rfl rfl rfl ?_ ?_) ?_)
  · omega
  · omega
  refine WL.r 2 hs46 [] rfl (WL.nil (WC.condF rfl (by simp [hg, mkEPane]) (WC.skip (hK83 _ _ (WC.r1 hs46 [] rfl (WC.seq (fun K85 hK85 => WC.sr ?_)))))))
  refine WL.r 2 hs46 [] rfl (WL.val rfl rfl rfl (Run.idxN Tryz.runUnderlying29 Tryz.sizeOf93 rfl rfl rfl ?_ ?_ ?_) ?_)
  · exact SlF.some_ (SlF.st0 f_a.sl hs46)
  · omega
  · omega
  refine WL.val rfl rfl rfl (Run.fieldO Tryz.runUnderlying93 rfl rfl rfl Tryz.sizeOf91 rfl) (WL.val rfl rfl rfl (Run.fieldE Tryz.runUnderlying91 rfl rfl rfl Tryz.sizeOf89 rfl) (WL.val rfl rfl rfl (Run.fieldE Tryz.runUnderlying89 rfl rfl rfl Tryz.sizeOf86 rfl) (WL.val rfl rfl rfl (Run.fieldE Tryz.runUnderlying86 rfl rfl rfl Tryz.sizeOf4 rfl) (WL.val rfl rfl rfl (Run.load Tryz.isAgg4 rfl rfl (SlF.fld (SlF.st0 f_a.sl hs46) ?_ rfl)) ?_))))
  · omega
  refine WL.r 1 hs46 [] rfl (WL.val rfl rfl rfl (Run.rem rfl rfl rfl ?_ ?_) ?_)
  · omega
  · omega
  refine WL.r 2 hs46 [] rfl (WL.nil (WC.condF rfl (by simp [hg, mkEPane]) (WC.skip (hK85 _ _ (WC.r1 hs46 [] rfl (WC.seq (fun K87 hK87 => WC.sr ?_)))))))
  refine WL.r 2 hs46 [] rfl (WL.val rfl rfl rfl (Run.idxN Tryz.runUnderlying29 Tryz.sizeOf93 rfl rfl rfl ?_ ?_ ?_) ?_)
  · exact SlF.some_ (SlF.st0 f_a.sl hs46)
  · omega
  · omega
  refine WL.val rfl rfl rfl (Run.fieldO Tryz.runUnderlying93 rfl rfl rfl Tryz.sizeOf91 rfl) (WL.val rfl rfl rfl (Run.fieldE Tryz.runUnderlying91 rfl rfl rfl Tryz.sizeOf89 rfl) (WL.val rfl rfl rfl (Run.fieldE Tryz.runUnderlying89 rfl rfl rfl Tryz.sizeOf86 rfl) (WL.val rfl rfl rfl (Run.fieldE Tryz.runUnderlying86 rfl rfl rfl Tryz.sizeOf4 rfl) (WL.val rfl rfl rfl (Run.load Tryz.isAgg4 rfl rfl (SlF.fld (SlF.st0 f_a.sl hs46) ?_ rfl)) ?_))))
  · omega
  refine WL.r 1 hs46 [] rfl (WL.val rfl rfl rfl (Run.rem rfl rfl rfl ?_ ?_) ?_)
  · omega
  · omega
  refine WL.r 2 hs46 [] rfl (WL.nil (WC.condF rfl (by simp [hg, mkEPane]) (WC.skip (hK87 _ _ (WC.r1 hs46 [] rfl (WC.sr (WL.r 2 hs46 [] rfl ?_)))))))
  refine WL.val rfl rfl rfl (Run.idxN Tryz.runUnderlying29 Tryz.sizeOf93 rfl rfl rfl ?_ ?_ ?_) ?_
  · exact SlF.some_ (SlF.st0 f_a.sl hs46)
  · omega
  · omega
  refine WL.val rfl rfl rfl (Run.fieldO Tryz.runUnderlying93 rfl rfl rfl Tryz.sizeOf91 rfl) (WL.val rfl rfl rfl (Run.fieldE Tryz.runUnderlying91 rfl rfl rfl Tryz.sizeOf89 rfl) (WL.val rfl rfl rfl (Run.fieldE Tryz.runUnderlying89 rfl rfl rfl Tryz.sizeOf60 rfl) (WL.val rfl rfl rfl (Run.load Tryz.isAgg60 rfl rfl (SlF.fld (SlF.st0 f_a.sl hs46) ?_ rfl)) ?_)))
  · omega
  refine WL.r 1 hs46 [] rfl (WL.cl Tryz.call132 rfl (k176_ _ _ _ _ _ _ _ (SlF.st0 (SlN.nth f_a (by omega)).Term.S.Tabs hs46) hm_Term_S_Tabs ?_ ?_ ?_) ?_)
  iterate 3 first | assumption | rfl | omega
  rintro _ whs89 ⟨rfl, hs89⟩
  replace hs89 := hs46.call0 hs89
  refine ⟨_, rfl, WL.r 1 hs89 [] rfl (WL.nil (WC.seq (fun K90 hK90 => WC.r1 hs89 [] rfl ?_)))⟩
  refine WC.condF rfl (by first | (simp [hg, mkEPane]; done) | (simp [hg, mkEPane]; omega)) (WC.skip (hK90 _ _ (WC.seq (fun K92 hK92 => WC.sr (WL.r 2 hs89 [] rfl ?_)))))
  refine WL.val rfl rfl rfl (Run.idxN Tryz.runUnderlying29 Tryz.sizeOf93 rfl rfl rfl ?_ ?_ ?_) ?_
  · exact SlF.some_ (SlF.st0 f_a.sl hs89)
  · omega
  · omega
  refine WL.val rfl rfl rfl (Run.fieldO Tryz.runUnderlying93 rfl rfl rfl Tryz.sizeOf91 rfl) (WL.val rfl rfl rfl (Run.fieldE Tryz.runUnderlying91 rfl rfl rfl Tryz.sizeOf89 rfl) (WL.val rfl rfl rfl (Run.fieldE Tryz.runUnderlying89 rfl rfl rfl Tryz.sizeOf3 rfl) (WL.val rfl rfl rfl (Run.load Tryz.isAgg3 rfl rfl (SlF.fld (SlF.st0 f_a.sl hs89) ?_ rfl)) ?_)))
  · omega
  refine WL.r 2 hs89 [] rfl (WL.nil (WC.condF rfl (by simp [hg, mkEPane]) (WC.skip (hK92 _ _ (WC.r1 hs89 [] rfl (WC.sr (WL.r 2 hs89 [] rfl ?_)))))))
  refine WL.val rfl rfl rfl (Run.idxN Tryz.runUnderlying29 Tryz.sizeOf93 rfl rfl rfl ?_ ?_ ?_) ?_
  · exact SlF.some_ (SlF.st0 f_a.sl hs89)
  · omega
  · omega
  refine WL.val rfl rfl rfl (Run.fieldO Tryz.runUnderlying93 rfl rfl rfl Tryz.sizeOf91 rfl) (WL.val rfl rfl rfl (Run.fieldE Tryz.runUnderlying91 rfl rfl rfl Tryz.sizeOf89 rfl) (WL.val rfl rfl rfl (Run.fieldE Tryz.runUnderlying89 rfl rfl rfl Tryz.sizeOf87 rfl) (WL.val rfl rfl rfl (Run.load Tryz.isAgg87 rfl rfl (SlF.fld (SlF.st0 f_a.sl hs89) ?_ rfl)) ?_)))
  · omega
  refine WL.r 1 hs89 [] rfl (WL.cl Tryz.call134 rfl (k180_ _ _ _ _ _ _ (SlN.st0 okRowR.st0 hfx_Term_S_Back hs89) ?_ ?_ ?_) ?_)
  iterate 3 first | assumption | omega
  rintro _ whs94 ⟨rfl, hs94⟩
  replace hs94 := hs89.call0 hs94
  refine ⟨_, rfl, WL.r 1 hs94 [] rfl (WL.nil (WC.r1 hs94 [] rfl ?_))⟩
  refine WC.condF rfl (by first | (simp [hg, mkEPane]; done) | (simp [hg, mkEPane]; omega)) (WC.skip (hK6 _ _ (WC.region (WL.r 3 hs94 [] rfl (WL.nil (tkN ?_))))))
  refine ⟨sbF rfl, hs94, _, ?_, i + 1, rfl, ?_, ⟨rfl, ?_, trivial⟩⟩
  · omega
  · omega
  · (refine congrArg some (congrArg (Value.int _) ?_); rw [cnts_take (F := encPaneR) (by omega)]; simp only [cntEPane]; omega)
 refine WC.exit (hK2 _ _ (WC.r1 hs3 [] rfl (WC.ret (rtv rfl rfl hs3 ?_))))
 rw [show i = a.length from by omega, List.take_of_length_le (Nat.le_refl _)]
set_option maxHeartbeats 16000000 in
set_option maxRecDepth 20000 in
theorem k183_ (v_a : Value) (a : List SessR) (L_a : Hp) (k : Int) (w : World) (o_a : OwnN encSessR ownSessR 106 v_a a L_a) (h_a : Hh w L_a) (hd_ : ((L_a).map (·.1)).Nodup) (h1 : 0 ≤ k) (h2 : k + cnts cntESess a ≤ 549755813888) (h3 : a.length ≤ 549755813888) :
    Calls Tryz.prog 67 #[v_a, i64 k] w fun e w' => ∃ L1, e = .returned (.int .i64 (k + cnts cntESess a)) ∧ St w (L_a.map (·.1)) L1 w' ∧ OwnN encSessR ownSessR 106 v_a (mrks mkESess cntESess k a) L1 := by
 obtain ⟨A_a, c_a, rfl⟩ := o_a.shape
 have hcn : ∀ x, 0 ≤ cntESess x := cntESess_ge
 refine enter 35 Tryz.func67 rfl Tryz.ntmps67 rfl rfl ?_
 have hs1 := St.takes1 w L_a h_a hd_
 refine WC.r1 hs1 [] rfl (WC.seq (fun K2 hK2 => WC.r1 hs1 [] rfl (WC.block ?_)))
 refine WC.lO [4] rfl hs1 (fun k_ f L_ => ∃ (i : Nat), k_ = a.length - i ∧ (i ≤ a.length) ∧ OwnN encSessR ownSessR 106 (.slice A_a (a.length) c_a) (mrkTo mkESess cntESess k a i) L_ ∧ Sub [(0, .slice A_a (a.length) c_a), (5, .int .i64 i), (1, .int .i64 (k + cnts cntESess (a.take i)))] f) (((fun (i : Nat) => a.length - i) (0))) ?_ ?_
 ·refine ⟨0, rfl, ?_, (mrkTo_zero.symm ▸ o_a), ⟨rfl, rfl, ?_, trivial⟩⟩
  · exact Nat.zero_le _
  · (refine congrArg some (congrArg (Value.int _) ?_); simp [cnts])
 clear hs1
 rintro _ f w L5 ⟨i, rfl, p0, ho6, hG⟩ hF hs7
 refine WC.sub _ (hG.app hF) ?_
 clear hG hF
 have hfl : (mrkTo mkESess cntESess k a i).length = a.length := mrkTo_len p0
 have hq0 := cnts_nonneg (c := cntESess) hcn (a.take i)
 have hq1 := cnts_take_le hcn a i
 refine WC.seq (fun K8 hK8 => WC.r1 hs7 [] rfl ?_)
 refine WC.cq rfl (fun h9 qh9 => ?_) (fun h9 qh9 => ?_)
 ·have hg := mrkTo_gat (mk := mkESess) (c := cntESess) (F := encSessR) (k := k) (xs := a) (i := i) (by omega)
  have hq2 := cnts_take (c := cntESess) (F := encSessR) (xs := a) (i := i) (by omega)
  have hq3 := cnts_take_le hcn a (i + 1)
  have hq4 := hq2
  simp only [cntESess, ← hg] at hq4
  refine WC.skip (hK8 _ _ (WC.seq (fun K10 hK10 => WC.block (WC.sr (WL.r 3 hs7 [] rfl ?_)))))
  refine WL.cl Tryz.call127 rfl (k170_ _ _ ?_) ?_
  · first | assumption | rfl | omega
  rintro _ whs11 ⟨rfl, hs11⟩
  replace hs11 := hs7.call0 hs11
  refine ⟨_, rfl, WL.val rfl rfl rfl (Run.idxN Tryz.runUnderlying31 Tryz.sizeOf106 rfl rfl rfl ?_ ?_ ?_) ?_⟩
  · exact SlF.some_ (OwnN.sl ho6 (hs11.ow L5))
  · omega
  · omega
  refine WL.val rfl rfl rfl (Run.fieldO Tryz.runUnderlying106 rfl rfl rfl Tryz.sizeOf9 rfl) ?_
  obtain ⟨L12, L13, hs16, ho14, ho15⟩ := OwnN.open_ hs11 ho6
  obtain ⟨y_1, hy_1⟩ : ∃ z_, z_ = ({ (gat encSessR (mrkTo mkESess cntESess k a i) i) with Name := markText (k + cnts cntESess (a.take i)) } : SessR) := ⟨_, rfl⟩
  refine WL.storeF (x' := y_1) hs16 ho14 Tryz.sizeOf9 rfl rfl rfl rfl rfl rfl rfl rfl rfl ?_ (by rw [hy_1]; rfl) (fun L17 whs18 hs18 ho19 _ => ?_)
  · omega
  refine WL.nil (WC.r1 hs18 [] rfl (WC.sr (WL.r 2 hs18 [] rfl (WL.val rfl rfl rfl (Run.idxN Tryz.runUnderlying31 Tryz.sizeOf106 rfl rfl rfl ?_ ?_ ?_) ?_))))
  · exact SlF.some_ (SlF.ofOwn ho19 (hs18.ow L17))
  · omega
  · omega
  refine WL.val rfl rfl rfl (Run.fieldO Tryz.runUnderlying106 rfl rfl rfl Tryz.sizeOf60 rfl) (WL.val rfl rfl rfl (Run.load Tryz.isAgg60 rfl rfl (SlF.fld (v := .slice (gat encSessR (mrkTo mkESess cntESess k a i) i).Wins.A (gat encSessR (mrkTo mkESess cntESess k a i) i).Wins.n (gat encSessR (mrkTo mkESess cntESess k a i) i).Wins.c) (SlF.ofOwn ho19 (hs18.ow L17)) ?_ ?_)) ?_)
  · omega
  · first | (rw [gat_set (by (try simp only [List.length_set]); omega) rfl]; simp only [hy_1]; done) | (rw [gat_set (by (try simp only [List.length_set]); omega) rfl]; simp only [hy_1]; rfl) | rfl
  refine WL.r 1 hs18 [] rfl ?_
  obtain ⟨L21, L22, L23, hs24, ho25, hp26⟩ := Bag.out (F := encSessR) (i := i) (hs18.fr L13) ho15 (by rw [mrkTo_len (by omega)]; omega)
  refine WL.cl Tryz.call128 rfl (k175_ _ _ _ _ _ ho25 (hs24.ow L22) ?_ ?_ ?_) ?_
  iterate 3 first | assumption | rfl | omega
  rintro _ whs20 ⟨L1_27, rfl, hs20, ho28⟩
  replace hs20 := St.lend hs24 hs20
  refine ⟨_, rfl, WL.r 1 hs20 [] rfl (WL.nil (WC.sr (WL.r 3 hs20 [] rfl (WL.val rfl rfl rfl (Run.idxN Tryz.runUnderlying31 Tryz.sizeOf106 rfl rfl rfl ?_ ?_ ?_) ?_))))⟩
  · exact SlF.some_ (SlF.ofOwn ho19 (hs20.ow L17))
  · omega
  · omega
  refine WL.val rfl rfl rfl (Run.fieldO Tryz.runUnderlying106 rfl rfl rfl Tryz.sizeOf3 rfl) ?_
  obtain ⟨y_2, hy_2⟩ : ∃ z_, z_ = ({ y_1 with Active := (((k + cnts cntESess (a.take i)) + 1) + 1 * ((gat encSessR (mrkTo mkESess cntESess k a i) i).Wins.xs.length : Int)) } : SessR) := ⟨_, rfl⟩
  refine WL.storeF (x' := y_2) (hs20.fr L17) ho19 Tryz.sizeOf3 rfl rfl rfl rfl rfl rfl rfl rfl rfl ?_ (by first | (rw [hy_2, gat_set (by (try simp only [List.length_set]); omega) rfl]; rfl) | (rw [hy_2]; rfl)) (fun L29 whs30 hs30 ho31 _ => ?_)
  · omega
  refine WL.nil (WC.region (WL.r 3 hs30 [] rfl (WL.nil (hK10 _ _ (WC.region (WL.r 3 hs30 [] rfl (WL.nil ?_)))))))
  refine tkN ?_
  obtain ⟨L32, hs33, hb34⟩ := hp26 (mkESess (k + cnts cntESess (a.take i)) (gat encSessR a i)) _ ((hs30.fr (L21 ++ L23)).fr L1_27) (by have h_ := ho28; first | exact h_ | (simp only [hg] at h_; exact h_))
  rw [mrkTo_set (F := encSessR) (by omega) rfl] at hb34
  have ho35 := OwnF.recast (ys := mrkTo mkESess cntESess k a (i + 1)) ho31 (by rw [mrkTo_len (by omega)]; (try simp only [List.length_set]); exact hfl.symm) (by rw [← mrkTo_set (F := encSessR) (i := i) (by omega) rfl]; try simp only [List.set_set]; exact rows_set_enc (by simp only [hy_2, hy_1, hg]; rfl))
  obtain ⟨L37, hs36, ho38⟩ := OwnN.fold (hs33.fr L29) ho35 hb34
  refine ⟨sbF rfl, _, hs36, _, ?_, i + 1, rfl, ?_, ho38, ⟨rfl, rfl, ?_, trivial⟩⟩
  · omega
  · omega
  · (refine congrArg some (congrArg (Value.int _) ?_); rw [cnts_take (F := encSessR) (by omega)]; simp only [cntESess, hg]; omega)
 refine WC.exit (hK2 _ _ (WC.r1 hs7 [] rfl (WC.ret (retV1 rfl (resV.tmp rfl) ?_))))
 have hi_ : i = a.length := by omega
 have hx_ := ho6
 rw [mrkTo_full (by omega)] at hx_
 refine ⟨_, ?_, (St.keep1 hs7), hx_⟩
 rw [hi_, List.take_of_length_le (Nat.le_refl _)]
theorem k184_ (A_a : Option Addr) (n_a c_a : Nat) (a : List SessR) (k : Int) (w : World) (f_a : SlN encSessR (okSessR 549755813888) w A_a n_a (mrks mkESess cntESess k a)) (h1 : 0 ≤ k) (h2 : k + cnts cntESess a ≤ 549755813888) (h3 : n_a ≤ 549755813888) :
    Calls Tryz.prog 70 #[.slice A_a n_a c_a, i64 k] w fun e w' => e = .returned (.int .i64 (k + cnts cntESess a)) ∧ St w [] [] w' := by
 have hl : a.length = n_a := by have h_ := f_a.sl.len; simpa [mrks_len] using h_
 have hcn : ∀ x, 0 ≤ cntESess x := fun x => by simp only [cntESess]; omega
 refine enter 41 Tryz.func70 rfl Tryz.ntmps70 rfl rfl ?_
 have hs1 := St.init w
 refine WC.r1 hs1 [] rfl (WC.seq (fun K2 hK2 => WC.r1 hs1 [] rfl (WC.block ?_)))
 refine WC.lS [0] rfl hs1 (fun k_ f w' => ∃ (i : Nat), k_ = n_a - i ∧ (i ≤ n_a) ∧ Sub [(5, .int .i64 i), (1, .int .i64 (k + cnts cntESess (a.take i)))] f) ((fun (i : Nat) => n_a - i) (0)) ?_ ?_
 ·refine ⟨0, rfl, ?_, ⟨rfl, ?_, trivial⟩⟩
  · exact Nat.zero_le _
  · (refine congrArg some (congrArg (Value.int _) ?_); simp [cnts])
 clear hs1
 rintro _ f w ⟨i, rfl, p0, hG⟩ hF hs3
 refine WC.sub _ (hG.app hF) ?_
 clear hG hF
 have hq0 := cnts_nonneg (c := cntESess) hcn (a.take i)
 have hq1 := cnts_take_le hcn a i
 refine WC.seq (fun K4 hK4 => WC.r1 hs3 [] rfl ?_)
 refine WC.cD rfl (fun qh5 => ?_) (fun qh5 => ?_)
 ·have hg := mrks_gat (mk := mkESess) (c := cntESess) (F := encSessR) (k := k) (xs := a) (i := i) (by omega)
  have hq2 := cnts_take (c := cntESess) (F := encSessR) (xs := a) (i := i) (by omega)
  have hq3 := cnts_take_le hcn a (i + 1)
  simp only [cntESess] at hq2
  have hng := (SlN.nth f_a (show i < n_a by omega))
  rw [hg] at hng
  have hnl_Wins := hng.Wins.len
  have hnn_Wins := hng.Wins_n
  simp only [mkESess, marks_len, mrks_len] at hnl_Wins hnn_Wins
  have hgn_Wins : (gat encSessR (mrks mkESess cntESess k a) i).Wins.n = (gat encSessR a i).Wins.n := by rw [hg]; rfl
  have hm_Wins : (gat encSessR (mrks mkESess cntESess k a) i).Wins.xs = marks (fun k => k) 1 ((k + cnts cntESess (a.take i)) + 1) (gat encSessR a i).Wins.xs.length := by rw [hg]; rfl
  refine WC.skip (hK4 _ _ (WC.seq (fun K6 hK6 => WC.block (WC.seq (fun K7 hK7 => WC.sq1 hs3 (WQ.r 2 [] rfl ?_))))))
  refine WQ.val rfl rfl rfl (fun w_ hs_ => (Run.idxN Tryz.runUnderlying31 Tryz.sizeOf106 rfl rfl rfl ?_ ?_ ?_)) ?_
  · exact SlF.some_ (SlF.st0 f_a.sl (hs_ : St _ _ _ _))
  · omega
  · omega
  refine WQ.val rfl rfl rfl (fun w_ hs_ => (Run.fieldO Tryz.runUnderlying106 rfl rfl rfl Tryz.sizeOf9 rfl)) ?_
  refine WQ.val rfl rfl rfl (fun w_ hs_ => (Run.load Tryz.isAgg9 rfl rfl (SlF.fld (SlF.st0 f_a.sl (hs_ : St _ _ _ _)) ?_ rfl))) ?_
  · omega
  refine WQ.r 1 [] rfl ?_
  refine WQ.call rfl rfl rfl (fun w_ hs_ => (Run.call Tryz.call127 rfl rfl rfl)) (fun w_ hs_ => (k170_ _ _ ?_).mono fun e_ w_ h_ => ⟨h_.1, (hs_ : St _ _ _ _).call0 h_.2⟩) ?_
  · first | assumption | rfl | omega
  refine WQ.r 1 [] rfl (WQ.nil (fun _ (hs8 : St _ _ _ _) => WC.condF rfl (by simp [hg, mkESess]) (WC.skip (hK7 _ _ (WC.r1 hs8 [] rfl (WC.sr (WL.r 2 hs8 [] rfl ?_)))))))
  refine WL.val rfl rfl rfl (Run.idxN Tryz.runUnderlying31 Tryz.sizeOf106 rfl rfl rfl ?_ ?_ ?_) ?_
  · exact SlF.some_ (SlF.st0 f_a.sl hs8)
  · omega
  · omega
  refine WL.val rfl rfl rfl (Run.fieldO Tryz.runUnderlying106 rfl rfl rfl Tryz.sizeOf60 rfl) (WL.val rfl rfl rfl (Run.load Tryz.isAgg60 rfl rfl (SlF.fld (SlF.st0 f_a.sl hs8) ?_ rfl)) ?_)
  · omega
  refine WL.r 1 hs8 [] rfl (WL.cl Tryz.call132 rfl (k176_ _ _ _ _ _ _ _ (SlF.st0 (SlN.nth f_a (by omega)).Wins hs8) hm_Wins ?_ ?_ ?_) ?_)
  iterate 3 first | assumption | rfl | omega
  rintro _ whs10 ⟨rfl, hs10⟩
  replace hs10 := hs8.call0 hs10
  refine ⟨_, rfl, WL.r 1 hs10 [] rfl (WL.nil (WC.seq (fun K11 hK11 => WC.r1 hs10 [] rfl ?_)))⟩
  refine WC.condF rfl (by first | (simp [hg, mkESess]; done) | (simp [hg, mkESess]; omega)) (WC.skip (hK11 _ _ (WC.seq (fun K13 hK13 => WC.sr (WL.r 2 hs10 [] rfl ?_)))))
  refine WL.val rfl rfl rfl (Run.idxN Tryz.runUnderlying31 Tryz.sizeOf106 rfl rfl rfl ?_ ?_ ?_) ?_
  · exact SlF.some_ (SlF.st0 f_a.sl hs10)
  · omega
  · omega
  refine WL.val rfl rfl rfl (Run.fieldO Tryz.runUnderlying106 rfl rfl rfl Tryz.sizeOf3 rfl) (WL.val rfl rfl rfl (Run.load Tryz.isAgg3 rfl rfl (SlF.fld (SlF.st0 f_a.sl hs10) ?_ rfl)) ?_)
  · omega
  refine WL.r 2 hs10 [] rfl (WL.nil (WC.condF rfl (by simp [hg, mkESess]) (WC.skip (hK13 _ _ (WC.region (WL.r 3 hs10 [] rfl (WL.nil ?_)))))))
  refine hK6 _ _ (WC.region (WL.r 3 hs10 [] rfl (WL.nil (tkN ?_))))
  refine ⟨sbF rfl, hs10, _, ?_, i + 1, rfl, ?_, ⟨rfl, ?_, trivial⟩⟩
  · omega
  · omega
  · (refine congrArg some (congrArg (Value.int _) ?_); rw [cnts_take (F := encSessR) (by omega)]; simp only [cntESess]; omega)
 refine WC.exit (hK2 _ _ (WC.r1 hs3 [] rfl (WC.ret (rtv rfl rfl hs3 ?_))))
 rw [show i = a.length from by omega, List.take_of_length_le (Nat.le_refl _)]
set_option maxHeartbeats 16000000 in
set_option maxRecDepth 20000 in
theorem k185_ (v_a : Value) (a : List WinR) (L_a : Hp) (k : Int) (w : World) (o_a : OwnN encWinR ownWinR 58 v_a a L_a) (h_a : Hh w L_a) (hd_ : ((L_a).map (·.1)).Nodup) (h1 : 0 ≤ k) (h2 : k + cnts cntEWin a ≤ 549755813888) (h3 : a.length ≤ 549755813888) :
    Calls Tryz.prog 66 #[v_a, i64 k] w fun e w' => ∃ L1, e = .returned (.int .i64 (k + cnts cntEWin a)) ∧ St w (L_a.map (·.1)) L1 w' ∧ OwnN encWinR ownWinR 58 v_a (mrks mkEWin cntEWin k a) L1 := by
 obtain ⟨A_a, c_a, rfl⟩ := o_a.shape
 have hcn : ∀ x, 0 ≤ cntEWin x := cntEWin_ge
 refine enter 51 Tryz.func66 rfl Tryz.ntmps66 rfl rfl ?_
 have hs1 := St.takes1 w L_a h_a hd_
 refine WC.r1 hs1 [] rfl (WC.seq (fun K2 hK2 => WC.r1 hs1 [] rfl (WC.block ?_)))
 refine WC.lO [4] rfl hs1 (fun k_ f L_ => ∃ (i : Nat), k_ = a.length - i ∧ (i ≤ a.length) ∧ OwnN encWinR ownWinR 58 (.slice A_a (a.length) c_a) (mrkTo mkEWin cntEWin k a i) L_ ∧ Sub [(0, .slice A_a (a.length) c_a), (5, .int .i64 i), (1, .int .i64 (k + cnts cntEWin (a.take i)))] f) (((fun (i : Nat) => a.length - i) (0))) ?_ ?_
 ·refine ⟨0, rfl, ?_, (mrkTo_zero.symm ▸ o_a), ⟨rfl, rfl, ?_, trivial⟩⟩
  · exact Nat.zero_le _
  · (refine congrArg some (congrArg (Value.int _) ?_); simp [cnts])
 clear hs1
 rintro _ f w L5 ⟨i, rfl, p0, ho6, hG⟩ hF hs7
 refine WC.sub _ (hG.app hF) ?_
 clear hG hF
 have hfl : (mrkTo mkEWin cntEWin k a i).length = a.length := mrkTo_len p0
 have hq0 := cnts_nonneg (c := cntEWin) hcn (a.take i)
 have hq1 := cnts_take_le hcn a i
 refine WC.seq (fun K8 hK8 => WC.r1 hs7 [] rfl ?_)
 refine WC.cq rfl (fun h9 qh9 => ?_) (fun h9 qh9 => ?_)
 ·have hg := mrkTo_gat (mk := mkEWin) (c := cntEWin) (F := encWinR) (k := k) (xs := a) (i := i) (by omega)
  have hq2 := cnts_take (c := cntEWin) (F := encWinR) (xs := a) (i := i) (by omega)
  have hq3 := cnts_take_le hcn a (i + 1)
  have hq4 := hq2
  simp only [cntEWin, ← hg] at hq4
  refine WC.skip (hK8 _ _ (WC.seq (fun K10 hK10 => WC.block (WC.sr (WL.r 3 hs7 [] rfl ?_)))))
  refine WL.val rfl rfl rfl (Run.idxN Tryz.runUnderlying30 Tryz.sizeOf58 rfl rfl rfl ?_ ?_ ?_) ?_
  · exact SlF.some_ (OwnN.sl ho6 (hs7.ow L5))
  · omega
  · omega
  refine WL.val rfl rfl rfl (Run.fieldO Tryz.runUnderlying58 rfl rfl rfl Tryz.sizeOf3 rfl) ?_
  obtain ⟨L11, L12, hs15, ho13, ho14⟩ := OwnN.open_ hs7 ho6
  obtain ⟨y_1, hy_1⟩ : ∃ z_, z_ = ({ (gat encWinR (mrkTo mkEWin cntEWin k a i) i) with Id := (k + cnts cntEWin (a.take i)) } : WinR) := ⟨_, rfl⟩
  refine WL.storeF (x' := y_1) hs15 ho13 Tryz.sizeOf3 rfl rfl rfl rfl rfl rfl rfl rfl rfl ?_ (by rw [hy_1]; rfl) (fun L16 whs17 hs17 ho18 _ => ?_)
  · omega
  refine WL.nil (WC.r1 hs17 [] rfl (WC.sr (WL.r 3 hs17 [] rfl (WL.cl Tryz.call127 rfl (k170_ _ _ ?_) ?_))))
  · first | assumption | rfl | omega
  rintro _ whs19 ⟨rfl, hs19⟩
  replace hs19 := hs17.call0 hs19
  refine ⟨_, rfl, WL.val rfl rfl rfl (Run.idxN Tryz.runUnderlying30 Tryz.sizeOf58 rfl rfl rfl ?_ ?_ ?_) ?_⟩
  · exact SlF.some_ (SlF.ofOwn ho18 (hs19.ow L16))
  · omega
  · omega
  refine WL.val rfl rfl rfl (Run.fieldO Tryz.runUnderlying58 rfl rfl rfl Tryz.sizeOf9 rfl) ?_
  obtain ⟨y_2, hy_2⟩ : ∃ z_, z_ = ({ y_1 with Name := markText ((k + cnts cntEWin (a.take i)) + 1) } : WinR) := ⟨_, rfl⟩
  refine WL.storeF (x' := y_2) hs19 ho18 Tryz.sizeOf9 rfl rfl rfl rfl rfl rfl rfl rfl rfl ?_ (by first | (rw [hy_2, gat_set (by (try simp only [List.length_set]); omega) rfl]; rfl) | (rw [hy_2]; rfl)) (fun L20 whs21 hs21 ho22 _ => ?_)
  · omega
  refine WL.nil (WC.r1 hs21 [] rfl (WC.sr (WL.r 2 hs21 [] rfl (WL.val rfl rfl rfl (Run.idxN Tryz.runUnderlying30 Tryz.sizeOf58 rfl rfl rfl ?_ ?_ ?_) ?_))))
  · exact SlF.some_ (SlF.ofOwn ho22 (hs21.ow L20))
  · omega
  · omega
  refine WL.val rfl rfl rfl (Run.fieldO Tryz.runUnderlying58 rfl rfl rfl Tryz.sizeOf56 rfl) (WL.val rfl rfl rfl (Run.load Tryz.isAgg56 rfl rfl (SlF.fld (v := .slice (gat encWinR (mrkTo mkEWin cntEWin k a i) i).Tree.A (gat encWinR (mrkTo mkEWin cntEWin k a i) i).Tree.n (gat encWinR (mrkTo mkEWin cntEWin k a i) i).Tree.c) (SlF.ofOwn ho22 (hs21.ow L20)) ?_ ?_)) ?_)
  · omega
  · first | (rw [gat_set (by (try simp only [List.length_set]); omega) rfl]; simp only [hy_2, hy_1]; done) | (rw [gat_set (by (try simp only [List.length_set]); omega) rfl]; simp only [hy_2, hy_1]; rfl) | rfl
  refine WL.r 1 hs21 [] rfl ?_
  obtain ⟨L24, L25, L26, hs27, ho28, hp29⟩ := Bag.out (F := encWinR) (i := i) (hs21.fr L12) ho14 (by rw [mrkTo_len (by omega)]; omega)
  refine WL.cl Tryz.call131 rfl (k177_ _ _ _ _ _ ho28 (hs27.ow L25) ?_ ?_ ?_) ?_
  iterate 3 first | assumption | rfl | omega
  rintro _ whs23 ⟨L1_30, rfl, hs23, ho31⟩
  replace hs23 := St.lend hs27 hs23
  refine ⟨_, rfl, WL.r 1 hs23 [] rfl (WL.nil (WC.sr (WL.r 3 hs23 [] rfl (WL.val rfl rfl rfl (Run.idxN Tryz.runUnderlying30 Tryz.sizeOf58 rfl rfl rfl ?_ ?_ ?_) ?_))))⟩
  · exact SlF.some_ (SlF.ofOwn ho22 (hs23.ow L20))
  · omega
  · omega
  refine WL.val rfl rfl rfl (Run.fieldO Tryz.runUnderlying58 rfl rfl rfl Tryz.sizeOf3 rfl) ?_
  obtain ⟨y_3, hy_3⟩ : ∃ z_, z_ = ({ y_2 with Active := ((((k + cnts cntEWin (a.take i)) + 1) + 1) + 3 * ((gat encWinR (mrkTo mkEWin cntEWin k a i) i).Tree.xs.length : Int)) } : WinR) := ⟨_, rfl⟩
  refine WL.storeF (x' := y_3) (hs23.fr L20) ho22 Tryz.sizeOf3 rfl rfl rfl rfl rfl rfl rfl rfl rfl ?_ (by first | (rw [hy_3, gat_set (by (try simp only [List.length_set]); omega) rfl]; rfl) | (rw [hy_3]; rfl)) (fun L32 whs33 hs33 ho34 _ => ?_)
  · omega
  refine WL.nil (WC.r1 hs33 [] rfl (WC.sr (WL.r 3 hs33 [] rfl (WL.val rfl rfl rfl (Run.rem rfl rfl rfl ?_ ?_) ?_))))
  · omega
  · omega
  refine WL.r 1 hs33 [] rfl (WL.val rfl rfl rfl (Run.idxN Tryz.runUnderlying30 Tryz.sizeOf58 rfl rfl rfl ?_ ?_ ?_) ?_)
  · exact SlF.some_ (SlF.ofOwn ho34 (hs33.ow L32))
  · omega
  · omega
  refine WL.val rfl rfl rfl (Run.fieldO Tryz.runUnderlying58 rfl rfl rfl Tryz.sizeOf4 rfl) ?_
  obtain ⟨y_4, hy_4⟩ : ∃ z_, z_ = ({ y_3 with Zoom := decide ((((((k + cnts cntEWin (a.take i)) + 1) + 1) + 3 * ((gat encWinR (mrkTo mkEWin cntEWin k a i) i).Tree.xs.length : Int)) + 1) % 3 = 0) } : WinR) := ⟨_, rfl⟩
  refine WL.storeF (x' := y_4) hs33 ho34 Tryz.sizeOf4 rfl rfl rfl rfl rfl rfl rfl rfl rfl ?_ (by first | (rw [hy_4, gat_set (by (try simp only [List.length_set]); omega) rfl]; rfl) | (rw [hy_4]; rfl)) (fun L35 whs36 hs36 ho37 _ => ?_)
  · omega
  refine WL.nil (WC.region (WL.r 3 hs36 [] rfl (WL.nil (hK10 _ _ (WC.region (WL.r 3 hs36 [] rfl (WL.nil ?_)))))))
  refine tkN ?_
  obtain ⟨L38, hs39, hb40⟩ := hp29 (mkEWin (k + cnts cntEWin (a.take i)) (gat encWinR a i)) _ ((hs36.fr (L24 ++ L26)).fr L1_30) (by have h_ := ho31; first | exact h_ | (simp only [hg] at h_; exact h_))
  rw [mrkTo_set (F := encWinR) (by omega) rfl] at hb40
  have ho41 := OwnF.recast (ys := mrkTo mkEWin cntEWin k a (i + 1)) ho37 (by rw [mrkTo_len (by omega)]; (try simp only [List.length_set]); exact hfl.symm) (by rw [← mrkTo_set (F := encWinR) (i := i) (by omega) rfl]; try simp only [List.set_set]; exact rows_set_enc (by simp only [hy_4, hy_3, hy_2, hy_1, hg]; rfl))
  obtain ⟨L43, hs42, ho44⟩ := OwnN.fold (hs39.fr L35) ho41 hb40
  refine ⟨sbF rfl, _, hs42, _, ?_, i + 1, rfl, ?_, ho44, ⟨rfl, rfl, ?_, trivial⟩⟩
  · omega
  · omega
  · (refine congrArg some (congrArg (Value.int _) ?_); rw [cnts_take (F := encWinR) (by omega)]; simp only [cntEWin, hg]; omega)
 refine WC.exit (hK2 _ _ (WC.r1 hs7 [] rfl (WC.ret (retV1 rfl (resV.tmp rfl) ?_))))
 have hi_ : i = a.length := by omega
 have hx_ := ho6
 rw [mrkTo_full (by omega)] at hx_
 refine ⟨_, ?_, (St.keep1 hs7), hx_⟩
 rw [hi_, List.take_of_length_le (Nat.le_refl _)]
theorem k186_ (A_a : Option Addr) (n_a c_a : Nat) (a : List WinR) (k : Int) (w : World) (f_a : SlN encWinR (okWinR 549755813888) w A_a n_a (mrks mkEWin cntEWin k a)) (h1 : 0 ≤ k) (h2 : k + cnts cntEWin a ≤ 549755813888) (h3 : n_a ≤ 549755813888) :
    Calls Tryz.prog 69 #[.slice A_a n_a c_a, i64 k] w fun e w' => e = .returned (.int .i64 (k + cnts cntEWin a)) ∧ St w [] [] w' := by
 have hl : a.length = n_a := by have h_ := f_a.sl.len; simpa [mrks_len] using h_
 have hcn : ∀ x, 0 ≤ cntEWin x := fun x => by simp only [cntEWin]; omega
 refine enter 61 Tryz.func69 rfl Tryz.ntmps69 rfl rfl ?_
 have hs1 := St.init w
 refine WC.r1 hs1 [] rfl (WC.seq (fun K2 hK2 => WC.r1 hs1 [] rfl (WC.block ?_)))
 refine WC.lS [0] rfl hs1 (fun k_ f w' => ∃ (i : Nat), k_ = n_a - i ∧ (i ≤ n_a) ∧ Sub [(5, .int .i64 i), (1, .int .i64 (k + cnts cntEWin (a.take i)))] f) ((fun (i : Nat) => n_a - i) (0)) ?_ ?_
 ·refine ⟨0, rfl, ?_, ⟨rfl, ?_, trivial⟩⟩
  · exact Nat.zero_le _
  · (refine congrArg some (congrArg (Value.int _) ?_); simp [cnts])
 clear hs1
 rintro _ f w ⟨i, rfl, p0, hG⟩ hF hs3
 refine WC.sub _ (hG.app hF) ?_
 clear hG hF
 have hq0 := cnts_nonneg (c := cntEWin) hcn (a.take i)
 have hq1 := cnts_take_le hcn a i
 refine WC.seq (fun K4 hK4 => WC.r1 hs3 [] rfl ?_)
 refine WC.cD rfl (fun qh5 => ?_) (fun qh5 => ?_)
 ·have hg := mrks_gat (mk := mkEWin) (c := cntEWin) (F := encWinR) (k := k) (xs := a) (i := i) (by omega)
  have hq2 := cnts_take (c := cntEWin) (F := encWinR) (xs := a) (i := i) (by omega)
  have hq3 := cnts_take_le hcn a (i + 1)
  simp only [cntEWin] at hq2
  have hng := (SlN.nth f_a (show i < n_a by omega))
  rw [hg] at hng
  have hnl_Tree := hng.Tree.len
  have hnn_Tree := hng.Tree_n
  simp only [mkEWin, marks_len, mrks_len] at hnl_Tree hnn_Tree
  have hgn_Tree : (gat encWinR (mrks mkEWin cntEWin k a) i).Tree.n = (gat encWinR a i).Tree.n := by rw [hg]; rfl
  have hm_Tree : (gat encWinR (mrks mkEWin cntEWin k a) i).Tree.xs = marks mkNode 3 (((k + cnts cntEWin (a.take i)) + 1) + 1) (gat encWinR a i).Tree.xs.length := by rw [hg]; rfl
  refine WC.skip (hK4 _ _ (WC.seq (fun K6 hK6 => WC.block (WC.seq (fun K7 hK7 => WC.sr (WL.r 2 hs3 [] rfl ?_))))))
  refine WL.val rfl rfl rfl (Run.idxN Tryz.runUnderlying30 Tryz.sizeOf58 rfl rfl rfl ?_ ?_ ?_) ?_
  · exact SlF.some_ (SlF.st0 f_a.sl hs3)
  · omega
  · omega
  refine WL.val rfl rfl rfl (Run.fieldO Tryz.runUnderlying58 rfl rfl rfl Tryz.sizeOf3 rfl) (WL.val rfl rfl rfl (Run.load Tryz.isAgg3 rfl rfl (SlF.fld (SlF.st0 f_a.sl hs3) ?_ rfl)) ?_)
  · omega
  refine WL.r 2 hs3 [] rfl (WL.nil (WC.condF rfl (by simp [hg, mkEWin]) (WC.skip (hK7 _ _ (WC.r1 hs3 [] rfl (WC.seq (fun K9 hK9 => WC.sq1 hs3 ?_)))))))
  refine WQ.r 2 [] rfl ?_
  refine WQ.val rfl rfl rfl (fun w_ hs_ => (Run.idxN Tryz.runUnderlying30 Tryz.sizeOf58 rfl rfl rfl ?_ ?_ ?_)) ?_
  · exact SlF.some_ (SlF.st0 f_a.sl (hs_ : St _ _ _ _))
  · omega
  · omega
  refine WQ.val rfl rfl rfl (fun w_ hs_ => (Run.fieldO Tryz.runUnderlying58 rfl rfl rfl Tryz.sizeOf9 rfl)) ?_
  refine WQ.val rfl rfl rfl (fun w_ hs_ => (Run.load Tryz.isAgg9 rfl rfl (SlF.fld (SlF.st0 f_a.sl (hs_ : St _ _ _ _)) ?_ rfl))) ?_
  · omega
  refine WQ.r 1 [] rfl ?_
  refine WQ.call rfl rfl rfl (fun w_ hs_ => (Run.call Tryz.call127 rfl rfl rfl)) (fun w_ hs_ => (k170_ _ _ ?_).mono fun e_ w_ h_ => ⟨h_.1, (hs_ : St _ _ _ _).call0 h_.2⟩) ?_
  · first | assumption | rfl | omega
  refine WQ.r 1 [] rfl (WQ.nil (fun _ (hs10 : St _ _ _ _) => WC.condF rfl (by simp [hg, mkEWin]) (WC.skip (hK9 _ _ (WC.r1 hs10 [] rfl (WC.sr (WL.r 2 hs10 [] rfl ?_)))))))
  refine WL.val rfl rfl rfl (Run.idxN Tryz.runUnderlying30 Tryz.sizeOf58 rfl rfl rfl ?_ ?_ ?_) ?_
  · exact SlF.some_ (SlF.st0 f_a.sl hs10)
  · omega
  · omega
  refine WL.val rfl rfl rfl (Run.fieldO Tryz.runUnderlying58 rfl rfl rfl Tryz.sizeOf56 rfl) (WL.val rfl rfl rfl (Run.load Tryz.isAgg56 rfl rfl (SlF.fld (SlF.st0 f_a.sl hs10) ?_ rfl)) ?_)
  · omega
  refine WL.r 1 hs10 [] rfl (WL.cl Tryz.call135 rfl (k178_ _ _ _ _ _ _ _ (SlF.st0 (SlN.nth f_a (by omega)).Tree hs10) hm_Tree ?_ ?_ ?_) ?_)
  iterate 3 first | assumption | rfl | omega
  rintro _ whs12 ⟨rfl, hs12⟩
  replace hs12 := hs10.call0 hs12
  refine ⟨_, rfl, WL.r 1 hs12 [] rfl (WL.nil (WC.seq (fun K13 hK13 => WC.r1 hs12 [] rfl ?_)))⟩
  refine WC.condF rfl (by first | (simp [hg, mkEWin]; done) | (simp [hg, mkEWin]; omega)) (WC.skip (hK13 _ _ (WC.seq (fun K15 hK15 => WC.sr (WL.r 2 hs12 [] rfl ?_)))))
  refine WL.val rfl rfl rfl (Run.idxN Tryz.runUnderlying30 Tryz.sizeOf58 rfl rfl rfl ?_ ?_ ?_) ?_
  · exact SlF.some_ (SlF.st0 f_a.sl hs12)
  · omega
  · omega
  refine WL.val rfl rfl rfl (Run.fieldO Tryz.runUnderlying58 rfl rfl rfl Tryz.sizeOf3 rfl) (WL.val rfl rfl rfl (Run.load Tryz.isAgg3 rfl rfl (SlF.fld (SlF.st0 f_a.sl hs12) ?_ rfl)) ?_)
  · omega
  refine WL.r 2 hs12 [] rfl (WL.nil (WC.condF rfl (by simp [hg, mkEWin]) (WC.skip (hK15 _ _ (WC.r1 hs12 [] rfl (WC.seq (fun K17 hK17 => WC.sr ?_)))))))
  refine WL.r 2 hs12 [] rfl (WL.val rfl rfl rfl (Run.idxN Tryz.runUnderlying30 Tryz.sizeOf58 rfl rfl rfl ?_ ?_ ?_) ?_)
  · exact SlF.some_ (SlF.st0 f_a.sl hs12)
  · omega
  · omega
  refine WL.val rfl rfl rfl (Run.fieldO Tryz.runUnderlying58 rfl rfl rfl Tryz.sizeOf4 rfl) (WL.val rfl rfl rfl (Run.load Tryz.isAgg4 rfl rfl (SlF.fld (SlF.st0 f_a.sl hs12) ?_ rfl)) ?_)
  · omega
  refine WL.r 1 hs12 [] rfl (WL.val rfl rfl rfl (Run.rem rfl rfl rfl ?_ ?_) ?_)
  · omega
  · omega
  refine WL.r 2 hs12 [] rfl (WL.nil (WC.condF rfl (by simp [hg, mkEWin]) (WC.skip (hK17 _ _ (WC.region (WL.r 3 hs12 [] rfl (WL.nil ?_)))))))
  refine hK6 _ _ (WC.region (WL.r 3 hs12 [] rfl (WL.nil (tkN ?_))))
  refine ⟨sbF rfl, hs12, _, ?_, i + 1, rfl, ?_, ⟨rfl, ?_, trivial⟩⟩
  · omega
  · omega
  · (refine congrArg some (congrArg (Value.int _) ?_); rw [cnts_take (F := encWinR) (by omega)]; simp only [cntEWin]; omega)
 refine WC.exit (hK2 _ _ (WC.r1 hs3 [] rfl (WC.ret (rtv rfl rfl hs3 ?_))))
 rw [show i = a.length from by omega, List.take_of_length_le (Nat.le_refl _)]
set_option maxHeartbeats 4000000 in
theorem k187_ (a : StateR) (L_a : Hp) (k : Int) (w : World) (o_a : ownStateR a L_a) (h_a : Hh w L_a) (hd_ : ((L_a).map (·.1)).Nodup) (h1 : 0 ≤ k) (h2 : endState k a ≤ 549755813888) (hb_Panes : a.Panes.xs.length ≤ 549755813888) (hb_Wins : a.Wins.xs.length ≤ 549755813888) (hb_Sess : a.Sess.xs.length ≤ 549755813888) (hd_Panes_Term_S_Back : ∀ x, x ∈ a.Panes.xs → x.Term.S.Back.xs.length ≤ 549755813888) :
    Calls Tryz.prog 22 #[.agg #[i64 a.W, i64 a.H, i64 a.Limit, i64 a.Next, .slice a.Panes.A a.Panes.n a.Panes.c, .slice a.Wins.A a.Wins.n a.Wins.c, .slice a.Sess.A a.Sess.n a.Sess.c], i64 k] w fun e w' => ∃ L1, e = .returned (.int .i64 (endState k a)) ∧ St w (L_a.map (·.1)) L1 w' ∧ ownStateR (markState k a) L1 := by
 have hq2 := h2
 simp only [endState] at hq2
 have hcn_Panes := cnts_nonneg (c := cntEPane) cntEPane_ge a.Panes.xs
 have hcn_Wins := cnts_nonneg (c := cntEWin) (fun x => by simp only [cntEWin]; omega) a.Wins.xs
 have hcn_Sess := cnts_nonneg (c := cntESess) (fun x => by simp only [cntESess]; omega) a.Sess.xs
 refine enter 18 Tryz.func22 rfl Tryz.ntmps22 rfl rfl ?_
 have hs1 := St.takes1 w L_a h_a hd_
 refine WC.sr (WL.bx hs1 rfl (fun b2 _ hs3 => WL.r 1 hs3 [] rfl (WL.nil (WC.sr (WL.r 3 hs3 [0] rfl ?_)))))
 obtain ⟨L5, L6, L7, hs11, ho8, ho9, ho10⟩ := ownStateR.op hs3 o_a
 have hs12 := (hs11.fb b2)
 refine WL.cl Tryz.call65 rfl (k181_ _ _ _ _ _ ho8 (hs12.ow L5) (St.nodupL (hs12.fr L5)) ?_ ?_ ?_ ?_) ?_
 iterate 4 first | assumption | omega | (simp only [endState]; omega)
 rintro _ whs4 ⟨L1_13, rfl, hs4, ho14⟩
 replace hs4 := St.lend (hs12.fr L5) hs4
 refine ⟨_, rfl, ?_⟩
 replace hs4 := St.back [_] hs4
 refine WL.r 1 hs4 [] rfl (WL.nil (WC.sr (WL.r 3 hs4 [0] rfl (WL.cl Tryz.call66 rfl (k185_ _ _ _ _ _ ho9 (hs4.ow L6) (St.nodupL (hs4.fr L6)) ?_ ?_ ?_) ?_))))
 iterate 3 first | assumption | omega | (simp only [endState]; omega)
 rintro _ whs15 ⟨L1_16, rfl, hs15, ho17⟩
 replace hs15 := St.lend (hs4.fr L6) hs15
 refine ⟨_, rfl, ?_⟩
 replace hs15 := St.back [_] hs15
 refine WL.r 1 hs15 [] rfl (WL.nil (WC.sr (WL.r 3 hs15 [0] rfl (WL.cl Tryz.call67 rfl (k183_ _ _ _ _ _ ho10 (hs15.ow L7) (St.nodupL (hs15.fr L7)) ?_ ?_ ?_) ?_))))
 iterate 3 first | assumption | omega | (simp only [endState]; omega)
 rintro _ whs18 ⟨L1_19, rfl, hs18, ho20⟩
 replace hs18 := St.lend (hs15.fr L7) hs18
 refine ⟨_, rfl, ?_⟩
 replace hs18 := St.back [_] hs18
 refine WL.r 1 hs18 [] rfl (WL.nil (WC.r1 hs18 [] rfl (WC.ret (retV1 rfl (resV.tmp rfl) ?_))))
 obtain ⟨L22, hs21, ho23⟩ := ownStateR.fl hs18 ho14 ho17 ho20
 have hs24 := (hs21.fb b2)
 refine ⟨_, congrArg Ending.returned ?_, (St.keep1 (hs24.fr L22)), (by exact ho23)⟩
 first | rfl | (simp [endState]; done) | (simp [endState]; omega)
set_option maxHeartbeats 4000000 in
theorem k188_ (a : StateR) (k : Int) (w : World) (f_a : okStateR 549755813888 w (markState k a)) (h1 : 0 ≤ k) (h2 : endState k a ≤ 549755813888) :
    Calls Tryz.prog 23 #[.agg #[i64 a.W, i64 a.H, i64 a.Limit, i64 a.Next, .slice a.Panes.A a.Panes.n a.Panes.c, .slice a.Wins.A a.Wins.n a.Wins.c, .slice a.Sess.A a.Sess.n a.Sess.c], i64 k] w fun e w' => e = .returned (.int .i64 (endState k a)) ∧ St w [] [] w' := by
 have nb_Panes : a.Panes.n ≤ 549755813888 := f_a.Panes_n
 have nl_Panes : a.Panes.xs.length = a.Panes.n := by have h_ := f_a.Panes.sl.len; simpa [markState, marks_len, mrks_len] using h_
 have nb_Wins : a.Wins.n ≤ 549755813888 := f_a.Wins_n
 have nl_Wins : a.Wins.xs.length = a.Wins.n := by have h_ := f_a.Wins.sl.len; simpa [markState, marks_len, mrks_len] using h_
 have nb_Sess : a.Sess.n ≤ 549755813888 := f_a.Sess_n
 have nl_Sess : a.Sess.xs.length = a.Sess.n := by have h_ := f_a.Sess.sl.len; simpa [markState, marks_len, mrks_len] using h_
 have nb_Panes : a.Panes.n ≤ 549755813888 := f_a.Panes_n
 have nl_Panes : a.Panes.xs.length = a.Panes.n := by have h_ := f_a.Panes.sl.len; simpa [markState, marks_len, mrks_len] using h_
 have nb_Wins : a.Wins.n ≤ 549755813888 := f_a.Wins_n
 have nl_Wins : a.Wins.xs.length = a.Wins.n := by have h_ := f_a.Wins.sl.len; simpa [markState, marks_len, mrks_len] using h_
 have nb_Sess : a.Sess.n ≤ 549755813888 := f_a.Sess_n
 have nl_Sess : a.Sess.xs.length = a.Sess.n := by have h_ := f_a.Sess.sl.len; simpa [markState, marks_len, mrks_len] using h_
 have hq2 := h2
 simp only [endState] at hq2
 have hcn_Panes := cnts_nonneg (c := cntEPane) cntEPane_ge a.Panes.xs
 have hcn_Wins := cnts_nonneg (c := cntEWin) (fun x => by simp only [cntEWin]; omega) a.Wins.xs
 have hcn_Sess := cnts_nonneg (c := cntESess) (fun x => by simp only [cntESess]; omega) a.Sess.xs
 refine enter 24 Tryz.func23 rfl Tryz.ntmps23 rfl rfl ?_
 have hs1 := St.init w
 refine WC.sr (WL.bx hs1 rfl (fun b2 _ hs3 => WL.r 1 hs3 [] rfl (WL.nil (WC.sr (WL.r 3 hs3 [0] rfl ?_)))))
 refine WL.cl Tryz.call68 rfl (k182_ _ _ _ _ _ _ (SlN.st0 okPaneR.st0 f_a.Panes hs3) ?_ ?_ ?_) ?_
 iterate 3 first | assumption | omega | (simp only [endState]; omega)
 rintro _ whs4 ⟨rfl, hs4⟩
 replace hs4 := hs3.call0 hs4
 refine ⟨_, rfl, WL.r 1 hs4 [] rfl (WL.nil (WC.seq (fun K5 hK5 => WC.r1 hs4 [] rfl ?_)))⟩
 refine WC.condF rfl (by first | (simp; omega) | (rw [decide_eq_false_iff_not]; simp only [endState]; omega)) (WC.skip (hK5 _ _ (WC.sr (WL.r 3 hs4 [0] rfl ?_))))
 refine WL.cl Tryz.call69 rfl (k186_ _ _ _ _ _ _ (SlN.st0 okWinR.st0 f_a.Wins hs4) ?_ ?_ ?_) ?_
 iterate 3 first | assumption | omega | (simp only [endState]; omega)
 rintro _ whs7 ⟨rfl, hs7⟩
 replace hs7 := hs4.call0 hs7
 refine ⟨_, rfl, WL.r 1 hs7 [] rfl (WL.nil (WC.seq (fun K8 hK8 => WC.r1 hs7 [] rfl ?_)))⟩
 refine WC.condF rfl (by first | (simp; omega) | (rw [decide_eq_false_iff_not]; simp only [endState]; omega)) (WC.skip (hK8 _ _ (WC.sr (WL.r 3 hs7 [0] rfl ?_))))
 refine WL.cl Tryz.call70 rfl (k184_ _ _ _ _ _ _ (SlN.st0 okSessR.st0 f_a.Sess hs7) ?_ ?_ ?_) ?_
 iterate 3 first | assumption | omega | (simp only [endState]; omega)
 rintro _ whs10 ⟨rfl, hs10⟩
 replace hs10 := hs7.call0 hs10
 refine ⟨_, rfl, WL.r 1 hs10 [] rfl (WL.nil (WC.seq (fun K11 hK11 => WC.r1 hs10 [] rfl ?_)))⟩
 refine WC.condF rfl (by first | (simp; omega) | (rw [decide_eq_false_iff_not]; simp only [endState]; omega)) (WC.skip (hK11 _ _ (WC.r1 hs10 [] rfl (WC.ret (rtv rfl rfl hs10 ?_)))))
 first | rfl | (simp [endState, *]; done) | (simp [endState, *]; omega)
end Go.Proofs.YthfhhldbglaieaaGreat
