/-
  The statement: for every input the law returns true. No condition. (And what it stands on, the last part.)
-/
import Derived.Test.YthfhhldbglaieaaGreatKW2
namespace Go.Proofs.YthfhhldbglaieaaGreat
open Go Go.RowKit
set_option linter.unusedVariables false
set_option linter.unusedSimpArgs false
theorem k47_ (q : WinR) (b_p : Nat) (p : Int) (w : World) (f_q : okWinR 549755813888 w q) (f_p : SlF encI w (some ⟨b_p, 0, none⟩) 1 [p]) (hq : q.Tree.n ≤ 1048576) :
    Calls Tryz.prog 45 #[.agg #[i64 q.Id, .string q.Name, .slice q.Tree.A q.Tree.n q.Tree.c, i64 q.Active, .bool q.Zoom], .pointer (some ⟨b_p, 0, none⟩)] w fun e w' => e = .returned (.bool (hasI (leavesL q.Tree.xs) p)) ∧ St w [] [] w' := by
 have nz_q_Name := f_q.Name_z
 have nb_q_Tree := f_q.Tree_n
 have nl_q_Tree := f_q.Tree.len
 have hll := leavesL_len q.Tree.xs
 refine enter 9 Tryz.func45 rfl Tryz.ntmps45 rfl rfl ?_
 have hs1 := St.init w
 refine WC.sr (WL.bx hs1 rfl (fun b2 _ hs3 => WL.r 1 hs3 [] rfl (WL.nil (WC.seq (fun K4 hK4 => WC.rH hs3 hs3 (fun _ hs5 => ?_))))))
 refine WH.rn [0, 1] hs5 [0] rfl rfl ?_
 refine WH.take 3 rfl (by kernel_rfl) rfl rfl rfl hs5 (fun w_ hs_ => (Run.load Tryz.isAgg3 rfl rfl (SlF.var (SlF.st0 f_p (hs_ : St _ _ _ _)) rfl))) ?_
 refine WH.o1 2 rfl (WL.cl Tryz.call47 rfl (k34_ _ _ _ _ _ (SlF.st0 f_q.Tree hs5) ?_) ?_)
 · first | assumption | rfl | omega
 rintro _ whs6 ⟨A7, c8, L1_9, rfl, hs6, ho10⟩
 replace hs6 := hs5.callF hs6
 refine ⟨_, rfl, ?_⟩
 replace hs6 := St.back [_] hs6
 refine WL.nil ⟨(hs6.rm L1_9), WH.o1 4 rfl (WL.cl Tryz.call46 rfl (k27_ _ _ _ _ _ _ (SlF.ofOwn ho10 (hs6.ow L1_9)) ?_) ?_)⟩
 · first | assumption | rfl | omega
 rintro _ whs11 ⟨rfl, hs11⟩
 replace hs11 := hs6.call0 hs11
 refine ⟨_, rfl, WL.nil ⟨(hs11.rm L1_9), WH.rn [5] (hs11.rm L1_9) [] rfl rfl (WH.dn (hK4 _ _ (WC.ret (rtv rfl rfl hs11 ?_))))⟩⟩
 rfl
theorem k48_ (A_s : Option Addr) (n_s c_s : Nat) (s : List WinR) (b_p : Nat) (p : Int) (w : World) (f_s : SlN encWinR (okWinR 549755813888) w A_s n_s s) (f_p : SlF encI w (some ⟨b_p, 0, none⟩) 1 [p]) (hn : n_s ≤ 549755813888) (hW : ∀ y, y ∈ s → y.Tree.n ≤ 1048576) :
    Calls Tryz.prog 44 #[.slice A_s n_s c_s, .func (.func 45) #[] #[.pointer (some ⟨b_p, 0, none⟩)]] w fun e w' => e = .returned (.int .i64 (findI (fun q : WinR => hasI (leavesL q.Tree.xs) p) s)) ∧ St w [] [] w' := by
 have hsl := f_s.sl.len
 refine enter 19 Tryz.func44 rfl Tryz.ntmps44 rfl rfl ?_
 have hs1 := St.init w
 refine WC.r1 hs1 [] rfl (WC.seq (fun K2 hK2 => WC.r1 hs1 [] rfl (WC.block ?_)))
 refine WC.lS [0, 1, 7] rfl hs1 (fun k_ f w' => ∃ (i : Nat), k_ = n_s - i ∧ (i ≤ n_s) ∧ (∀ j, j < i → (fun q : WinR => hasI (leavesL q.Tree.xs) p) (gat encWinR s j) = false) ∧ Sub [(8, .int .i64 i)] f) ((fun (i : Nat) => n_s - i) (0)) ?_ ?_
 ·refine ⟨0, rfl, ?_, ?_, ⟨rfl, trivial⟩⟩
  · exact Nat.zero_le _
  · exact fun j hj => absurd hj (by omega)
 clear hs1
 rintro _ f w ⟨i, rfl, p0, p1, hG⟩ hF hs3
 refine WC.sub _ (hG.app hF) ?_
 clear hG hF
 refine WC.r1 hs3 [] rfl (WC.seq (fun K4 hK4 => ?_))
 refine WC.cond rfl (fun h5 => ?_) (fun h5 => ?_)
 ·have qh5 := h5
  try simp only [decide_eq_true_eq, decide_eq_false_iff_not] at qh5
  have hWi := hW (gat encWinR s i) (gat_mem (by omega))
  refine WC.skip (hK4 _ _ (WC.seq (fun K6 hK6 => WC.block (WC.r1 hs3 [] rfl (WC.sr (WL.r 3 hs3 [] rfl ?_))))))
  refine WL.val rfl rfl rfl (Run.idxN Tryz.runUnderlying30 Tryz.sizeOf58 rfl rfl rfl ?_ ?_ ?_) ?_
  · exact SlF.some_ (SlF.st0 f_s.sl hs3)
  · omega
  · omega
  refine WL.val rfl rfl rfl (Run.loadA Tryz.isAgg58 Tryz.sizeOf58 rfl rfl (SlF.whole (SlF.st0 f_s.sl hs3) ?_)) ?_
  · omega
  refine WL.call rfl rfl rfl (Run.callC Tryz.call45 rfl rfl rfl) (k47_ (gat encWinR s i) _ _ _ (okWinR.st0 (SlN.nth f_s (by omega)) hs3) (SlF.st0 f_p hs3) ?_) ?_
  · first | assumption | rfl | omega
  rintro _ whs7 ⟨rfl, hs7⟩
  replace hs7 := hs3.call0 hs7
  refine ⟨_, rfl, WL.nil (WC.cond rfl (fun h8 => ?_) (fun h8 => ?_))⟩
  ·have qh8 := h8
   try simp only [decide_eq_true_eq, decide_eq_false_iff_not] at qh8
   refine WC.r1 hs7 [] rfl (WC.ret (ibR (tkR (tkR (ibR (tkR ?_))))))
   clear hK6 hK2
   refine rtv rfl rfl hs7 ?_
   rw [findI_some (F := encWinR) (by rw [f_s.sl.len]; omega) p1 h8]
  have qh8 := h8
  try simp only [decide_eq_true_eq, decide_eq_false_iff_not] at qh8
  refine WC.skip (hK6 _ _ (WC.region (WL.r 2 hs7 [] rfl (WL.nil (tkN ?_)))))
  refine ⟨sbF rfl, hs7, _, ?_, i + 1, rfl, ?_, ?_, ⟨rfl, trivial⟩⟩
  · omega
  · omega
  · intro j hj; rcases Nat.lt_or_ge j i with h_ | h_
    · exact p1 j h_
    · obtain rfl : j = i := by omega
      exact h8
 have qh5 := h5
 try simp only [decide_eq_true_eq, decide_eq_false_iff_not] at qh5
 refine WC.exit (hK2 _ _ (WC.r1 hs3 [] rfl (WC.ret (rtv rfl rfl hs3 ?_))))
 rw [findI_none (F := encWinR) (fun j hj => p1 j (by rw [f_s.sl.len] at hj; omega))]
theorem k49_ (s : StateR) (p : Int) (w : World) (f_s : okStateR 549755813888 w s) (hT : totState s.dat ≤ 1048576) :
    Calls Tryz.prog 14 #[.agg #[i64 s.W, i64 s.H, i64 s.Limit, i64 s.Next, .slice s.Panes.A s.Panes.n s.Panes.c, .slice s.Wins.A s.Wins.n s.Wins.c, .slice s.Sess.A s.Sess.n s.Sess.c], i64 p] w fun e w' => e = .returned (.int .i64 (findI (winHas p) s.dat.Wins)) ∧ St w [] [] w' := by
 have nb_s_Panes := f_s.Panes_n
 have nl_s_Panes := f_s.Panes.sl.len
 have nb_s_Wins := f_s.Wins_n
 have nl_s_Wins := f_s.Wins.sl.len
 have nb_s_Sess := f_s.Sess_n
 have nl_s_Sess := f_s.Sess.sl.len
 have hsm0 : smState 1048576 s.dat := totState_sm hT
 have hWn : ∀ y, y ∈ s.Wins.xs → y.Tree.n ≤ 1048576 := fun y hy => by have h1 := (f_s.Wins.all y hy).Tree.len; have h2 : y.Tree.xs.length ≤ 1048576 := (hsm0.2.2.2.1 _ (List.mem_map_of_mem hy)).2; omega
 refine enter 9 Tryz.func14 rfl Tryz.ntmps14 rfl rfl ?_
 have hs1 := St.init w
 refine WC.sr (WL.bx hs1 rfl (fun b2 _ hs3 => WL.bx hs3 rfl (fun b4 _ hs5 => WL.r 1 hs5 [] rfl (WL.nil (WC.sr (WL.r 2 hs5 [1] rfl (WL.val rfl rfl rfl (Run.makeFunc rfl rfl) ?_)))))))
 refine WL.cl Tryz.call44 rfl (k48_ _ _ _ _ _ _ _ (SlN.st0 okWinR.st0 f_s.Wins hs5) (SlF.own1 (hs5.own _ (nthL_mem (i := 0) rfl)).1) ?_ ?_) ?_
 iterate 2 first | assumption | rfl | omega
 rintro _ whs6 ⟨rfl, hs6⟩
 replace hs6 := hs5.call0 hs6
 refine ⟨_, rfl, WL.r 1 hs6 [] rfl (WL.nil (WC.ret (rtv rfl rfl hs6 ?_)))⟩
 rw [show s.dat.Wins = s.Wins.xs.map WinR.dat from rfl, findI_map]; rfl
theorem k50_ (s : StateR) (p : Int) (w : World) (f_s : okStateR 549755813888 w s) (hT : totState s.dat ≤ 1048576) :
    Calls Tryz.prog 12 #[.agg #[i64 s.W, i64 s.H, i64 s.Limit, i64 s.Next, .slice s.Panes.A s.Panes.n s.Panes.c, .slice s.Wins.A s.Wins.n s.Wins.c, .slice s.Sess.A s.Sess.n s.Sess.c], i64 p] w fun e w' => e = .returned (.int .i64 (findI (winHas p) s.dat.Wins)) ∧ St w [] [] w' := by
 have nb_s_Panes := f_s.Panes_n
 have nl_s_Panes := f_s.Panes.sl.len
 have nb_s_Wins := f_s.Wins_n
 have nl_s_Wins := f_s.Wins.sl.len
 have nb_s_Sess := f_s.Sess_n
 have nl_s_Sess := f_s.Sess.sl.len
 have hsm0 : smState 1048576 s.dat := totState_sm hT
 have hWn : ∀ y, y ∈ s.Wins.xs → y.Tree.n ≤ 1048576 := fun y hy => by have h1 := (f_s.Wins.all y hy).Tree.len; have h2 : y.Tree.xs.length ≤ 1048576 := (hsm0.2.2.2.1 _ (List.mem_map_of_mem hy)).2; omega
 refine enter 22 Tryz.func12 rfl Tryz.ntmps12 rfl rfl ?_
 have hs1 := St.init w
 refine WC.sr (WL.bx hs1 rfl (fun b2 _ hs3 => WL.r 1 hs3 [] rfl (WL.nil (WC.seq (fun K4 hK4 => WC.r1 hs3 [0] rfl (WC.block ?_))))))
 refine WC.lS [1, 8, 9] rfl hs3 (fun k_ f w' => ∃ (i : Nat), k_ = s.Wins.n - i ∧ (i ≤ s.Wins.n) ∧ (∀ j, j < i → (fun q : WinR => hasI (leavesL q.Tree.xs) p) (gat encWinR s.Wins.xs j) = false) ∧ Sub [(10, .int .i64 i)] f) ((fun (i : Nat) => s.Wins.n - i) (0)) ?_ ?_
 ·refine ⟨0, rfl, ?_, ?_, ⟨rfl, trivial⟩⟩
  · exact Nat.zero_le _
  · exact fun j hj => absurd hj (by omega)
 clear hs3
 rintro _ f w ⟨i, rfl, p0, p1, hG⟩ hF hs5
 refine WC.sub _ (hG.app hF) ?_
 clear hG hF
 refine WC.r1 hs5 [] rfl (WC.seq (fun K6 hK6 => ?_))
 refine WC.cq rfl (fun h7 qh7 => ?_) (fun h7 qh7 => ?_)
 ·have hWi := hWn (gat encWinR s.Wins.xs i) (gat_mem (by omega))
  have hll := leavesL_len (gat encWinR s.Wins.xs i).Tree.xs
  have hTl := (SlN.nth f_s.Wins (show i < s.Wins.n by omega)).Tree.len
  refine WC.skip (hK6 _ _ (WC.seq (fun K8 hK8 => WC.block (WC.sr (WL.r 1 hs5 [] rfl ?_)))))
  refine WL.val rfl rfl rfl (Run.idxN Tryz.runUnderlying30 Tryz.sizeOf58 rfl rfl rfl ?_ ?_ ?_) ?_
  · exact SlF.some_ (SlF.st0 f_s.Wins.sl hs5)
  · omega
  · omega
  refine WL.val rfl rfl rfl (Run.loadA Tryz.isAgg58 Tryz.sizeOf58 rfl rfl (SlF.whole (SlF.st0 f_s.Wins.sl hs5) ?_)) ?_
  · omega
  refine WL.al hs5 Tryz.zeroValue58 rfl rfl (fun b9 _ hs10 => WL.r 1 hs10 [] rfl (WL.st tbk hs10 0 rfl rfl (fun _ hs11 => WL.nil (WC.sr (WL.r 2 hs11 [0] rfl ?_)))))
  refine WL.cl Tryz.call40 rfl (k30_ _ _ _ _ _ (SlF.st0 (SlN.nth f_s.Wins (by omega)).Tree hs11) ?_) ?_
  · first | assumption | rfl | omega
  rintro _ whs12 ⟨A13, c14, L1_15, rfl, hs12, ho16⟩
  replace hs12 := hs11.callF hs12
  refine ⟨_, rfl, ?_⟩
  replace hs12 := St.back [_, _] hs12
  refine WL.r 1 hs12 [] rfl (WL.cl Tryz.call39 rfl (k28_ _ _ _ _ _ _ (SlF.ofOwn ho16 (hs12.ow L1_15)) ?_) ?_)
  · first | assumption | rfl | omega
  rintro _ whs17 ⟨rfl, hs17⟩
  replace hs17 := hs12.call0 hs17
  refine ⟨_, rfl, WL.nil (WC.cq rfl (fun h18 qh18 => ?_) (fun h18 qh18 => ?_))⟩
  ·refine WC.r1 hs17 [] rfl (WC.ret (ibR (tkR (tkR (ibR (tkR ?_))))))
   clear hK8 hK4
   refine rtv rfl rfl hs17 ?_
   rw [show s.dat.Wins = s.Wins.xs.map WinR.dat from rfl, findI_map]; exact congrArg (Value.int _) (findI_some (F := encWinR) (p := (fun q : WinR => hasI (leavesL q.Tree.xs) p)) (xs := s.Wins.xs) (by omega) p1 h18).symm
  refine WC.skip (hK8 _ _ (WC.region (WL.r 2 hs17 [] rfl (WL.nil (tkN ?_)))))
  refine ⟨sbF rfl, (hs17.drop (by repeat (first | exact List.Sublist.refl _ | exact List.sublist_append_left _ _ | exact List.Sublist.trans (List.sublist_append_left _ _) (List.sublist_append_left _ _) | apply List.Sublist.cons | refine List.Sublist.trans ?_ (sR _)))), _, ?_, i + 1, rfl, ?_, ?_, ⟨rfl, trivial⟩⟩
  · omega
  · omega
  · intro j hj; rcases Nat.lt_or_ge j i with h_ | h_
    · exact p1 j h_
    · obtain rfl : j = i := by omega
      exact h18
 refine WC.exit (hK4 _ _ (WC.r1 hs5 [] rfl (WC.ret (rtv rfl rfl hs5 ?_))))
 rw [show s.dat.Wins = s.Wins.xs.map WinR.dat from rfl, findI_map]; exact congrArg (Value.int _) (findI_none (F := encWinR) (p := (fun q : WinR => hasI (leavesL q.Tree.xs) p)) (xs := s.Wins.xs) (fun j hj => p1 j (by omega))).symm
set_option maxHeartbeats 4000000 in
theorem k51_ (a : PaneR) (left : Int) (w : World) (f_a : okPaneR 9223372036854775807 w a) (h1 : 0 ≤ left) (h2 : left ≤ 1048576) :
    Calls Tryz.prog 98 #[.agg #[i64 a.Id, .string a.Cmd, .string a.Dir, i64 a.Life, i64 a.Code, i64 a.Pid, i64 a.Term.P.State, .bool a.Term.P.Mark, .slice a.Term.P.Args.A a.Term.P.Args.n a.Term.P.Args.c, .slice a.Term.P.Part.A a.Term.P.Part.n a.Term.P.Part.c, i64 a.Term.S.W, i64 a.Term.S.H, i64 a.Term.S.Main.W, i64 a.Term.S.Main.H, .slice a.Term.S.Main.Cells.A a.Term.S.Main.Cells.n a.Term.S.Main.Cells.c, i64 a.Term.S.Alt.W, i64 a.Term.S.Alt.H, .slice a.Term.S.Alt.Cells.A a.Term.S.Alt.Cells.n a.Term.S.Alt.Cells.c, .bool a.Term.S.OnAlt, i64 a.Term.S.X, i64 a.Term.S.Y, .bool a.Term.S.Wrap, i64 a.Term.S.A.Fg, i64 a.Term.S.A.Bg, .bool a.Term.S.A.Bold, .bool a.Term.S.A.Under, .bool a.Term.S.A.Turn, i64 a.Term.S.Top, i64 a.Term.S.Bot, .bool a.Term.S.NoWrap, .bool a.Term.S.Hide, i64 a.Term.S.SaveX, i64 a.Term.S.SaveY, i64 a.Term.S.SaveA.Fg, i64 a.Term.S.SaveA.Bg, .bool a.Term.S.SaveA.Bold, .bool a.Term.S.SaveA.Under, .bool a.Term.S.SaveA.Turn, .slice a.Term.S.Tabs.A a.Term.S.Tabs.n a.Term.S.Tabs.c, i64 a.Term.S.Limit, .slice a.Term.S.Back.A a.Term.S.Back.n a.Term.S.Back.c], i64 left] w fun e w' => e = .returned (.int .i64 (szR left (totPane a.dat))) ∧ St w [] [] w' := by
 have nz_a_Cmd := f_a.Cmd_z
 have nz_a_Dir := f_a.Dir_z
 have nb_a_Term_P_Args := f_a.Term.P.Args_n
 have nl_a_Term_P_Args := f_a.Term.P.Args.len
 have nb_a_Term_P_Part := f_a.Term.P.Part_n
 have nl_a_Term_P_Part := f_a.Term.P.Part.len
 have nb_a_Term_S_Main_Cells := f_a.Term.S.Main.Cells_n
 have nl_a_Term_S_Main_Cells := f_a.Term.S.Main.Cells.len
 have nb_a_Term_S_Alt_Cells := f_a.Term.S.Alt.Cells_n
 have nl_a_Term_S_Alt_Cells := f_a.Term.S.Alt.Cells.len
 have nb_a_Term_S_Tabs := f_a.Term.S.Tabs_n
 have nl_a_Term_S_Tabs := f_a.Term.S.Tabs.len
 have nb_a_Term_S_Back := f_a.Term.S.Back_n
 have nl_a_Term_S_Back := f_a.Term.S.Back.sl.len
 refine enter 26 Tryz.func98 rfl Tryz.ntmps98 rfl rfl ?_
 have hs1 := St.init w
 refine WC.sr (WL.bx hs1 rfl (fun b2 _ hs3 => WL.r 1 hs3 [] rfl (WL.nil (WC.r1 hs3 [0] rfl (WC.seq (fun K4 hK4 => WC.r1 hs3 [] rfl ?_))))))
 refine WC.cD rfl (fun qh5 => ?_) (fun qh5 => ?_)
 ·try have soh5 := szR_ok qh5 (by omega)
  try have sbh5 := szR_b qh5 (by omega) (by first | assumption | omega)
  try have snh5 := szR_no qh5
  refine WC.r1 hs3 [] rfl (WC.ret (tkR ?_))
  clear hK4
  refine rtv rfl rfl hs3 ?_
  simp only [totGrid, totPane, totScr, totTerm, totVp, GridR.dat, PaneR.dat, ScrR.dat, TermR.dat, VpR.dat] at *; first | (rw [szR_lt (by omega)]; done) | (refine congrArg (Value.int _) ?_; symm; refine (szR_le ?_).trans ?_ <;> omega) | rfl
 try have soh5 := szR_ok qh5 (by omega)
 try have sbh5 := szR_b qh5 (by omega) (by first | assumption | omega)
 try have snh5 := szR_no qh5
 refine WC.skip (hK4 _ _ (WC.r1 hs3 [0] rfl (WC.seq (fun K6 hK6 => WC.r1 hs3 [] rfl ?_))))
 refine WC.cD rfl (fun qh7 => ?_) (fun qh7 => ?_)
 ·try have soh7 := szR_ok qh7 (by omega)
  try have sbh7 := szR_b qh7 (by omega) (by first | assumption | omega)
  try have snh7 := szR_no qh7
  refine WC.r1 hs3 [] rfl (WC.ret (tkR ?_))
  clear hK6
  refine rtv rfl rfl hs3 ?_
  simp only [totGrid, totPane, totScr, totTerm, totVp, GridR.dat, PaneR.dat, ScrR.dat, TermR.dat, VpR.dat] at *; first | (rw [szR_lt (by omega)]; done) | (refine congrArg (Value.int _) ?_; symm; refine (szR_le ?_).trans ?_ <;> omega) | rfl
 try have soh7 := szR_ok qh7 (by omega)
 try have sbh7 := szR_b qh7 (by omega) (by first | assumption | omega)
 try have snh7 := szR_no qh7
 refine WC.skip (hK6 _ _ (WC.sr (WL.r 3 hs3 [0] rfl ?_)))
 refine WL.cl Tryz.call158 rfl (k46_ a.Term _ _ (okTermR.st0 f_a.Term hs3) ?_ ?_) ?_
 · first | assumption | omega
 · first | assumption | omega | exact szR_b (by assumption) (by omega) (by first | assumption | omega)
 rintro _ whs8 ⟨rfl, hs8⟩
 replace hs8 := hs3.call0 hs8
 refine ⟨_, rfl, WL.r 1 hs8 [] rfl (WL.nil (WC.seq (fun K9 hK9 => WC.r1 hs8 [] rfl ?_)))⟩
 refine WC.cD rfl (fun qh10 => ?_) (fun qh10 => ?_)
 ·try have soh10 := szR_ok qh10 (by omega)
  try have sbh10 := szR_b qh10 (by omega) (by first | assumption | omega)
  try have snh10 := szR_no qh10
  refine WC.r1 hs8 [] rfl (WC.ret (tkR ?_))
  clear hK9
  refine rtv rfl rfl hs8 ?_
  simp only [totGrid, totPane, totScr, totTerm, totVp, GridR.dat, PaneR.dat, ScrR.dat, TermR.dat, VpR.dat] at *; first | (rw [szR_lt (by omega)]; done) | (refine congrArg (Value.int _) ?_; symm; refine (szR_le ?_).trans ?_ <;> omega) | rfl
 try have soh10 := szR_ok qh10 (by omega)
 try have sbh10 := szR_b qh10 (by omega) (by first | assumption | omega)
 try have snh10 := szR_no qh10
 refine WC.skip (hK9 _ _ (WC.r1 hs8 [] rfl (WC.ret (rtv rfl rfl hs8 ?_))))
 simp only [totGrid, totPane, totScr, totTerm, totVp, GridR.dat, PaneR.dat, ScrR.dat, TermR.dat, VpR.dat] at *; first | (rw [szR_lt (by omega)]; done) | (refine congrArg (Value.int _) ?_; symm; refine (szR_le ?_).trans ?_ <;> omega) | rfl
set_option maxHeartbeats 4000000 in
theorem k52_ (a : PaneR) (w : World) (f_a : okPaneR 549755813888 w a) :
    Calls Tryz.prog 102 #[.agg #[i64 a.Id, .string a.Cmd, .string a.Dir, i64 a.Life, i64 a.Code, i64 a.Pid, i64 a.Term.P.State, .bool a.Term.P.Mark, .slice a.Term.P.Args.A a.Term.P.Args.n a.Term.P.Args.c, .slice a.Term.P.Part.A a.Term.P.Part.n a.Term.P.Part.c, i64 a.Term.S.W, i64 a.Term.S.H, i64 a.Term.S.Main.W, i64 a.Term.S.Main.H, .slice a.Term.S.Main.Cells.A a.Term.S.Main.Cells.n a.Term.S.Main.Cells.c, i64 a.Term.S.Alt.W, i64 a.Term.S.Alt.H, .slice a.Term.S.Alt.Cells.A a.Term.S.Alt.Cells.n a.Term.S.Alt.Cells.c, .bool a.Term.S.OnAlt, i64 a.Term.S.X, i64 a.Term.S.Y, .bool a.Term.S.Wrap, i64 a.Term.S.A.Fg, i64 a.Term.S.A.Bg, .bool a.Term.S.A.Bold, .bool a.Term.S.A.Under, .bool a.Term.S.A.Turn, i64 a.Term.S.Top, i64 a.Term.S.Bot, .bool a.Term.S.NoWrap, .bool a.Term.S.Hide, i64 a.Term.S.SaveX, i64 a.Term.S.SaveY, i64 a.Term.S.SaveA.Fg, i64 a.Term.S.SaveA.Bg, .bool a.Term.S.SaveA.Bold, .bool a.Term.S.SaveA.Under, .bool a.Term.S.SaveA.Turn, .slice a.Term.S.Tabs.A a.Term.S.Tabs.n a.Term.S.Tabs.c, i64 a.Term.S.Limit, .slice a.Term.S.Back.A a.Term.S.Back.n a.Term.S.Back.c]] w fun e w' => ∃ r L1, e = .returned (.agg #[i64 r.Id, .string r.Cmd, .string r.Dir, i64 r.Life, i64 r.Code, i64 r.Pid, i64 r.Term.P.State, .bool r.Term.P.Mark, .slice r.Term.P.Args.A r.Term.P.Args.n r.Term.P.Args.c, .slice r.Term.P.Part.A r.Term.P.Part.n r.Term.P.Part.c, i64 r.Term.S.W, i64 r.Term.S.H, i64 r.Term.S.Main.W, i64 r.Term.S.Main.H, .slice r.Term.S.Main.Cells.A r.Term.S.Main.Cells.n r.Term.S.Main.Cells.c, i64 r.Term.S.Alt.W, i64 r.Term.S.Alt.H, .slice r.Term.S.Alt.Cells.A r.Term.S.Alt.Cells.n r.Term.S.Alt.Cells.c, .bool r.Term.S.OnAlt, i64 r.Term.S.X, i64 r.Term.S.Y, .bool r.Term.S.Wrap, i64 r.Term.S.A.Fg, i64 r.Term.S.A.Bg, .bool r.Term.S.A.Bold, .bool r.Term.S.A.Under, .bool r.Term.S.A.Turn, i64 r.Term.S.Top, i64 r.Term.S.Bot, .bool r.Term.S.NoWrap, .bool r.Term.S.Hide, i64 r.Term.S.SaveX, i64 r.Term.S.SaveY, i64 r.Term.S.SaveA.Fg, i64 r.Term.S.SaveA.Bg, .bool r.Term.S.SaveA.Bold, .bool r.Term.S.SaveA.Under, .bool r.Term.S.SaveA.Turn, .slice r.Term.S.Tabs.A r.Term.S.Tabs.n r.Term.S.Tabs.c, i64 r.Term.S.Limit, .slice r.Term.S.Back.A r.Term.S.Back.n r.Term.S.Back.c]) ∧ St w [] L1 w' ∧ ownPaneR r L1 ∧ r.dat = a.dat := by
 have nz_a_Cmd := f_a.Cmd_z
 have nz_a_Dir := f_a.Dir_z
 have nb_a_Term_P_Args := f_a.Term.P.Args_n
 have nl_a_Term_P_Args := f_a.Term.P.Args.len
 have nb_a_Term_P_Part := f_a.Term.P.Part_n
 have nl_a_Term_P_Part := f_a.Term.P.Part.len
 have nb_a_Term_S_Main_Cells := f_a.Term.S.Main.Cells_n
 have nl_a_Term_S_Main_Cells := f_a.Term.S.Main.Cells.len
 have nb_a_Term_S_Alt_Cells := f_a.Term.S.Alt.Cells_n
 have nl_a_Term_S_Alt_Cells := f_a.Term.S.Alt.Cells.len
 have nb_a_Term_S_Tabs := f_a.Term.S.Tabs_n
 have nl_a_Term_S_Tabs := f_a.Term.S.Tabs.len
 have nb_a_Term_S_Back := f_a.Term.S.Back_n
 have nl_a_Term_S_Back := f_a.Term.S.Back.sl.len
 refine enter 27 Tryz.func102 rfl Tryz.ntmps102 rfl rfl ?_
 have hs1 := St.init w
 refine WC.sr (WL.bx hs1 rfl (fun b2 _ hs3 => WL.al hs3 Tryz.zeroValue93 rfl rfl (fun b4 _ hs5 => WL.nil (WC.sr (WL.al hs5 Tryz.zeroValue93 rfl rfl (fun b6 _ hs7 => WL.nil (WC.sr ?_)))))))
 refine WL.r 3 hs7 [2] rfl (WL.st tbk hs7 0 rfl rfl (fun _ hs8 => WL.nil (WC.sr (WL.r 3 hs8 [2] rfl (WL.st tbk hs8 0 rfl rfl (fun _ hs9 => WL.nil (WC.sr ?_)))))))
 refine WL.r 3 hs9 [2] rfl (WL.st tbk hs9 0 rfl rfl (fun _ hs10 => WL.nil (WC.sr (WL.r 3 hs10 [2] rfl (WL.st tbk hs10 0 rfl rfl (fun _ hs11 => WL.nil (WC.sr ?_)))))))
 refine WL.r 3 hs11 [2] rfl (WL.st tbk hs11 0 rfl rfl (fun _ hs12 => WL.nil (WC.sr (WL.r 3 hs12 [2] rfl (WL.st tbk hs12 0 rfl rfl (fun _ hs13 => WL.nil (WC.sr ?_)))))))
 refine WL.r 2 hs13 [2] rfl (WL.cl Tryz.call162 rfl (k45_ a.Term _ (okTermR.st0 f_a.Term hs13)) ?_)
 rintro _ whs14 ⟨r15, L1_16, rfl, hs14, ho17, hd18⟩
 replace hs14 := hs13.callF hs14
 refine ⟨_, rfl, ?_⟩
 replace hs14 := St.back [_, _, _] hs14
 refine WL.r 1 hs14 [] rfl (WL.st tbk hs14 0 rfl rfl (fun _ hs19 => WL.nil (WC.sr (WL.r 1 hs19 [0] rfl (WL.st tbk hs19 1 rfl rfl (fun _ hs20 => WL.nil (WC.ret ?_)))))))
 refine retV1 rfl (resV.cellA tbk hs20 1 rfl rfl rfl rfl) ?_
 obtain ⟨L21, L22, L23, L24, L25, L26, hs33, ho27, ho28, ho29, ho30, ho31, ho32⟩ := ownTermR.op hs20 ho17
 have hs34 := (((hs33.fb b2).fb b4).fb b6)
 obtain ⟨L36, hs35, ho37⟩ := ownPaneR.fl hs34 ho27 ho28 ho29 ho30 ho31 ho32
 have hs38 := (((hs35.fb b2).fb b4).fb b6)
 refine ⟨⟨a.Id, a.Cmd, a.Dir, a.Life, a.Code, a.Pid, ⟨⟨r15.P.State, r15.P.Mark, SlD.of ho27, SlD.of ho28⟩, ⟨r15.S.W, r15.S.H, ⟨r15.S.Main.W, r15.S.Main.H, SlD.of ho29⟩, ⟨r15.S.Alt.W, r15.S.Alt.H, SlD.of ho30⟩, r15.S.OnAlt, r15.S.X, r15.S.Y, r15.S.Wrap, ⟨r15.S.A.Fg, r15.S.A.Bg, r15.S.A.Bold, r15.S.A.Under, r15.S.A.Turn⟩, r15.S.Top, r15.S.Bot, r15.S.NoWrap, r15.S.Hide, r15.S.SaveX, r15.S.SaveY, ⟨r15.S.SaveA.Fg, r15.S.SaveA.Bg, r15.S.SaveA.Bold, r15.S.SaveA.Under, r15.S.SaveA.Turn⟩, SlD.of ho31, r15.S.Limit, SlD.ofN ho32⟩⟩⟩, _, rfl, (St.keep1 (hs38.fr L36)), ?_, ?_⟩
 · exact (by exact ho37)
 · exact PaneD.ext' rfl rfl rfl rfl rfl rfl hd18
set_option maxHeartbeats 4000000 in
theorem k53_ (a : WinR) (left : Int) (w : World) (f_a : okWinR 9223372036854775807 w a) (h1 : 0 ≤ left) (h2 : left ≤ 1048576) :
    Calls Tryz.prog 99 #[.agg #[i64 a.Id, .string a.Name, .slice a.Tree.A a.Tree.n a.Tree.c, i64 a.Active, .bool a.Zoom], i64 left] w fun e w' => e = .returned (.int .i64 (szR left (totWin a.dat))) ∧ St w [] [] w' := by
 have nz_a_Name := f_a.Name_z
 have nb_a_Tree := f_a.Tree_n
 have nl_a_Tree := f_a.Tree.len
 refine enter 19 Tryz.func99 rfl Tryz.ntmps99 rfl rfl ?_
 have hs1 := St.init w
 refine WC.sr (WL.bx hs1 rfl (fun b2 _ hs3 => WL.r 1 hs3 [] rfl (WL.nil (WC.r1 hs3 [0] rfl (WC.seq (fun K4 hK4 => WC.r1 hs3 [] rfl ?_))))))
 refine WC.cD rfl (fun qh5 => ?_) (fun qh5 => ?_)
 ·try have soh5 := szR_ok qh5 (by omega)
  try have sbh5 := szR_b qh5 (by omega) (by first | assumption | omega)
  try have snh5 := szR_no qh5
  refine WC.r1 hs3 [] rfl (WC.ret (tkR ?_))
  clear hK4
  refine rtv rfl rfl hs3 ?_
  simp only [totWin, WinR.dat] at *; first | (rw [szR_lt (by omega)]; done) | (refine congrArg (Value.int _) ?_; symm; refine (szR_le ?_).trans ?_ <;> omega) | rfl
 try have soh5 := szR_ok qh5 (by omega)
 try have sbh5 := szR_b qh5 (by omega) (by first | assumption | omega)
 try have snh5 := szR_no qh5
 refine WC.skip (hK4 _ _ (WC.sr (WL.r 3 hs3 [0] rfl ?_)))
 refine WL.cl Tryz.call159 rfl (k15_ _ _ _ _ _ _ (SlF.st0 f_a.Tree hs3) ?_ ?_ ?_) ?_
 · first | assumption | omega
 · first | assumption | omega | exact szR_b (by assumption) (by omega) (by first | assumption | omega)
 · first | assumption | omega
 rintro _ whs6 ⟨rfl, hs6⟩
 replace hs6 := hs3.call0 hs6
 refine ⟨_, rfl, WL.r 1 hs6 [] rfl (WL.nil (WC.seq (fun K7 hK7 => WC.r1 hs6 [] rfl ?_)))⟩
 refine WC.cD rfl (fun qh8 => ?_) (fun qh8 => ?_)
 ·try have soh8 := szR_ok qh8 (by omega)
  try have sbh8 := szR_b qh8 (by omega) (by first | assumption | omega)
  try have snh8 := szR_no qh8
  refine WC.r1 hs6 [] rfl (WC.ret (tkR ?_))
  clear hK7
  refine rtv rfl rfl hs6 ?_
  simp only [totWin, WinR.dat] at *; first | (rw [szR_lt (by omega)]; done) | (refine congrArg (Value.int _) ?_; symm; refine (szR_le ?_).trans ?_ <;> omega) | rfl
 try have soh8 := szR_ok qh8 (by omega)
 try have sbh8 := szR_b qh8 (by omega) (by first | assumption | omega)
 try have snh8 := szR_no qh8
 refine WC.skip (hK7 _ _ (WC.r1 hs6 [] rfl (WC.ret (rtv rfl rfl hs6 ?_))))
 simp only [totWin, WinR.dat] at *; first | (rw [szR_lt (by omega)]; done) | (refine congrArg (Value.int _) ?_; symm; refine (szR_le ?_).trans ?_ <;> omega) | rfl
set_option maxHeartbeats 4000000 in
theorem k54_ (a : WinR) (w : World) (f_a : okWinR 549755813888 w a) :
    Calls Tryz.prog 103 #[.agg #[i64 a.Id, .string a.Name, .slice a.Tree.A a.Tree.n a.Tree.c, i64 a.Active, .bool a.Zoom]] w fun e w' => ∃ r L1, e = .returned (.agg #[i64 r.Id, .string r.Name, .slice r.Tree.A r.Tree.n r.Tree.c, i64 r.Active, .bool r.Zoom]) ∧ St w [] L1 w' ∧ ownWinR r L1 ∧ r.dat = a.dat := by
 have nz_a_Name := f_a.Name_z
 have nb_a_Tree := f_a.Tree_n
 have nl_a_Tree := f_a.Tree.len
 refine enter 21 Tryz.func103 rfl Tryz.ntmps103 rfl rfl ?_
 have hs1 := St.init w
 refine WC.sr (WL.bx hs1 rfl (fun b2 _ hs3 => WL.al hs3 Tryz.zeroValue58 rfl rfl (fun b4 _ hs5 => WL.nil (WC.sr (WL.al hs5 Tryz.zeroValue58 rfl rfl (fun b6 _ hs7 => WL.nil (WC.sr ?_)))))))
 refine WL.r 3 hs7 [2] rfl (WL.st tbk hs7 0 rfl rfl (fun _ hs8 => WL.nil (WC.sr (WL.r 3 hs8 [2] rfl (WL.st tbk hs8 0 rfl rfl (fun _ hs9 => WL.nil (WC.sr ?_)))))))
 refine WL.r 2 hs9 [2] rfl (WL.cl Tryz.call163 rfl (k18_ _ _ _ _ _ (SlF.st0 f_a.Tree hs9) ?_) ?_)
 · first | assumption | rfl | omega
 rintro _ whs10 ⟨A11, c12, L1_13, rfl, hs10, ho14⟩
 replace hs10 := hs9.callF hs10
 refine ⟨_, rfl, ?_⟩
 replace hs10 := St.back [_, _, _] hs10
 refine WL.r 1 hs10 [] rfl (WL.st tbk hs10 0 rfl rfl (fun _ hs15 => WL.nil (WC.sr (WL.r 3 hs15 [2] rfl (WL.st tbk hs15 0 rfl rfl (fun _ hs16 => WL.nil (WC.sr ?_)))))))
 refine WL.r 3 hs16 [2] rfl (WL.st tbk hs16 0 rfl rfl (fun _ hs17 => WL.nil (WC.sr (WL.r 1 hs17 [0] rfl (WL.st tbk hs17 1 rfl rfl (fun _ hs18 => WL.nil (WC.ret ?_)))))))
 refine retV1 rfl (resV.cellA tbk hs18 1 rfl rfl rfl rfl) (⟨⟨a.Id, a.Name, SlD.of ho14, a.Active, a.Zoom⟩, _, rfl, (St.keep1 (hs18.fr L1_13)), ?_, ?_⟩)
 · exact ho14
 · exact WinD.ext' rfl rfl rfl rfl rfl
set_option maxHeartbeats 4000000 in
theorem k55_ (a : SessR) (left : Int) (w : World) (f_a : okSessR 9223372036854775807 w a) (h1 : 0 ≤ left) (h2 : left ≤ 1048576) :
    Calls Tryz.prog 100 #[.agg #[.string a.Name, .slice a.Wins.A a.Wins.n a.Wins.c, i64 a.Active], i64 left] w fun e w' => e = .returned (.int .i64 (szR left (totSess a.dat))) ∧ St w [] [] w' := by
 have nz_a_Name := f_a.Name_z
 have nb_a_Wins := f_a.Wins_n
 have nl_a_Wins := f_a.Wins.len
 refine enter 19 Tryz.func100 rfl Tryz.ntmps100 rfl rfl ?_
 have hs1 := St.init w
 refine WC.sr (WL.bx hs1 rfl (fun b2 _ hs3 => WL.r 1 hs3 [] rfl (WL.nil (WC.r1 hs3 [0] rfl (WC.seq (fun K4 hK4 => WC.r1 hs3 [] rfl ?_))))))
 refine WC.cD rfl (fun qh5 => ?_) (fun qh5 => ?_)
 ·try have soh5 := szR_ok qh5 (by omega)
  try have sbh5 := szR_b qh5 (by omega) (by first | assumption | omega)
  try have snh5 := szR_no qh5
  refine WC.r1 hs3 [] rfl (WC.ret (tkR ?_))
  clear hK4
  refine rtv rfl rfl hs3 ?_
  simp only [totSess, SessR.dat] at *; first | (rw [szR_lt (by omega)]; done) | (refine congrArg (Value.int _) ?_; symm; refine (szR_le ?_).trans ?_ <;> omega) | rfl
 try have soh5 := szR_ok qh5 (by omega)
 try have sbh5 := szR_b qh5 (by omega) (by first | assumption | omega)
 try have snh5 := szR_no qh5
 refine WC.skip (hK4 _ _ (WC.sr (WL.r 3 hs3 [0] rfl ?_)))
 refine WL.cl Tryz.call160 rfl (k13_ _ _ _ _ _ _ (SlF.st0 f_a.Wins hs3) ?_ ?_ ?_) ?_
 · first | assumption | omega
 · first | assumption | omega | exact szR_b (by assumption) (by omega) (by first | assumption | omega)
 · first | assumption | omega
 rintro _ whs6 ⟨rfl, hs6⟩
 replace hs6 := hs3.call0 hs6
 refine ⟨_, rfl, WL.r 1 hs6 [] rfl (WL.nil (WC.seq (fun K7 hK7 => WC.r1 hs6 [] rfl ?_)))⟩
 refine WC.cD rfl (fun qh8 => ?_) (fun qh8 => ?_)
 ·try have soh8 := szR_ok qh8 (by omega)
  try have sbh8 := szR_b qh8 (by omega) (by first | assumption | omega)
  try have snh8 := szR_no qh8
  refine WC.r1 hs6 [] rfl (WC.ret (tkR ?_))
  clear hK7
  refine rtv rfl rfl hs6 ?_
  simp only [totSess, SessR.dat] at *; first | (rw [szR_lt (by omega)]; done) | (refine congrArg (Value.int _) ?_; symm; refine (szR_le ?_).trans ?_ <;> omega) | rfl
 try have soh8 := szR_ok qh8 (by omega)
 try have sbh8 := szR_b qh8 (by omega) (by first | assumption | omega)
 try have snh8 := szR_no qh8
 refine WC.skip (hK7 _ _ (WC.r1 hs6 [] rfl (WC.ret (rtv rfl rfl hs6 ?_))))
 simp only [totSess, SessR.dat] at *; first | (rw [szR_lt (by omega)]; done) | (refine congrArg (Value.int _) ?_; symm; refine (szR_le ?_).trans ?_ <;> omega) | rfl
set_option maxHeartbeats 4000000 in
theorem k56_ (a : SessR) (w : World) (f_a : okSessR 549755813888 w a) :
    Calls Tryz.prog 104 #[.agg #[.string a.Name, .slice a.Wins.A a.Wins.n a.Wins.c, i64 a.Active]] w fun e w' => ∃ r L1, e = .returned (.agg #[.string r.Name, .slice r.Wins.A r.Wins.n r.Wins.c, i64 r.Active]) ∧ St w [] L1 w' ∧ ownSessR r L1 ∧ r.dat = a.dat := by
 have nz_a_Name := f_a.Name_z
 have nb_a_Wins := f_a.Wins_n
 have nl_a_Wins := f_a.Wins.len
 refine enter 15 Tryz.func104 rfl Tryz.ntmps104 rfl rfl ?_
 have hs1 := St.init w
 refine WC.sr (WL.bx hs1 rfl (fun b2 _ hs3 => WL.al hs3 Tryz.zeroValue106 rfl rfl (fun b4 _ hs5 => WL.nil (WC.sr (WL.al hs5 Tryz.zeroValue106 rfl rfl (fun b6 _ hs7 => WL.nil (WC.sr ?_)))))))
 refine WL.r 3 hs7 [2] rfl (WL.st tbk hs7 0 rfl rfl (fun _ hs8 => WL.nil (WC.sr (WL.r 2 hs8 [2] rfl ?_))))
 refine WL.cl Tryz.call164 rfl (k14_ _ _ _ _ _ (SlF.st0 f_a.Wins hs8) ?_) ?_
 · first | assumption | rfl | omega
 rintro _ whs9 ⟨A10, c11, L1_12, rfl, hs9, ho13⟩
 replace hs9 := hs8.callF hs9
 refine ⟨_, rfl, ?_⟩
 replace hs9 := St.back [_, _, _] hs9
 refine WL.r 1 hs9 [] rfl (WL.st tbk hs9 0 rfl rfl (fun _ hs14 => WL.nil (WC.sr (WL.r 3 hs14 [2] rfl (WL.st tbk hs14 0 rfl rfl (fun _ hs15 => WL.nil (WC.sr ?_)))))))
 refine WL.r 1 hs15 [0] rfl (WL.st tbk hs15 1 rfl rfl (fun _ hs16 => WL.nil (WC.ret (retV1 rfl (resV.cellA tbk hs16 1 rfl rfl rfl rfl) ?_))))
 refine ⟨⟨a.Name, SlD.of ho13, a.Active⟩, _, rfl, (St.keep1 (hs16.fr L1_12)), ?_, ?_⟩
 · exact ho13
 · exact SessD.ext' rfl rfl rfl
theorem inf58 : Tryz.prog.info? 58 = some Tryz.t58 := by kernel_rfl
theorem inf93 : Tryz.prog.info? 93 = some Tryz.t93 := by kernel_rfl
theorem inf106 : Tryz.prog.info? 106 = some Tryz.t106 := by kernel_rfl
theorem k57_ (A_a : Option Addr) (n_a c_a : Nat) (a : List PaneR) (left : Int) (w : World) (f_a : SlN encPaneR (okPaneR 9223372036854775807) w A_a n_a a) (h1 : 0 ≤ left) (h2 : left ≤ 1048576) (h3 : n_a ≤ 9223372036854775807) :
    Calls Tryz.prog 36 #[.slice A_a n_a c_a, i64 left] w fun e w' => e = .returned (.int .i64 (szR left (tots totPane (a.map PaneR.dat)))) ∧ St w [] [] w' := by
 have hl := f_a.sl.len
 have hT : (tots totPane (a.map PaneR.dat) : Int) = n_a + (a.map (fun x => totPane (PaneR.dat x))).sum := by rw [tots_map, hl]; omega
 refine enter 27 Tryz.func36 rfl Tryz.ntmps36 rfl rfl ?_
 have hs1 := St.init w
 refine WC.r1 hs1 [] rfl (WC.r1 hs1 [] rfl (WC.seq (fun K2 hK2 => WC.r1 hs1 [] rfl ?_)))
 refine WC.cD rfl (fun qh3 => ?_) (fun qh3 => ?_)
 ·refine WC.r1 hs1 [] rfl (WC.ret (tkR ?_))
  clear hK2
  refine rtv rfl rfl hs1 ?_
  rw [szR_lt (by omega)]
 refine WC.skip (hK2 _ _ (WC.seq (fun K4 hK4 => WC.r1 hs1 [] rfl (WC.block ?_))))
 refine WC.lS [0, 11] rfl hs1 (fun k_ f w' => ∃ (i : Nat) (q : Int), k_ = n_a - i ∧ (i ≤ n_a) ∧ (0 ≤ q) ∧ (q + n_a + ((a.take i).map (fun x => totPane (PaneR.dat x))).sum = left) ∧ Sub [(5, .int .i64 i), (1, .int .i64 q)] f) ((fun (i : Nat) (q : Int) => n_a - i) (0) ((left - n_a))) ?_ ?_
 ·refine ⟨0, (left - n_a), rfl, ?_, ?_, ?_, ⟨rfl, rfl, trivial⟩⟩
  · exact Nat.zero_le _
  · omega
  · simp
 clear hs1
 rintro _ f w ⟨i, q, rfl, p0, p1, p2, hG⟩ hF hs5
 refine WC.sub _ (hG.app hF) ?_
 clear hG hF
 refine WC.seq (fun K6 hK6 => WC.r1 hs5 [] rfl ?_)
 refine WC.cD rfl (fun qh7 => ?_) (fun qh7 => ?_)
 ·have hs1 := sum_take (F := encPaneR) (f := (fun x => totPane (PaneR.dat x))) (l := a) (i := i) (by omega)
  have hs2 := sum_take_le (f := (fun x => totPane (PaneR.dat x))) a (i + 1)
  refine WC.skip (hK6 _ _ (WC.seq (fun K8 hK8 => WC.block (WC.sr (WL.r 2 hs5 [] rfl ?_)))))
  refine WL.val rfl rfl rfl (Run.idxN Tryz.runUnderlying22 Tryz.sizeOf143 rfl rfl rfl ?_ ?_ ?_) ?_
  · exact SlF.some_ (SlF.st0 f_a.sl hs5)
  · omega
  · omega
  refine WL.val rfl rfl rfl (Run.loadA Tryz.isAgg143 Tryz.sizeOf143 rfl rfl (SlF.whole (SlF.st0 f_a.sl hs5) ?_)) ?_
  · omega
  refine WL.r 1 hs5 [] rfl (WL.cl Tryz.call98 rfl (k51_ (gat encPaneR a i) _ _ (okPaneR.st0 (SlN.nth f_a (by omega)) hs5) ?_ ?_) ?_)
  · first | assumption | omega
  · first | assumption | omega | exact szR_b (by assumption) (by omega) (by first | assumption | omega)
  rintro _ whs9 ⟨rfl, hs9⟩
  replace hs9 := hs5.call0 hs9
  refine ⟨_, rfl, WL.r 1 hs9 [] rfl (WL.nil (WC.r1 hs9 [] rfl (WC.cD rfl (fun qh10 => ?_) (fun qh10 => ?_))))⟩
  ·refine WC.r1 hs9 [] rfl (WC.ret (ibR (tkR (tkR (ibR (tkR ?_))))))
   clear hK8 hK4
   refine rtv rfl rfl hs9 ?_
   have h9 := szR_no qh10
   rw [szR_lt (by omega)]
  refine WC.skip (hK8 _ _ (WC.region (WL.r 3 hs9 [] rfl (WL.nil (tkN ?_)))))
  refine ⟨sbF rfl, hs9, _, ?_, i + 1, _, rfl, ?_, ?_, ?_, ⟨rfl, rfl, trivial⟩⟩
  · omega
  · omega
  · omega
  · have h9 := szR_ok qh10 (Int.natCast_nonneg _); omega
 refine WC.exit (hK4 _ _ (WC.r1 hs5 [] rfl (WC.ret (rtv rfl rfl hs5 ?_))))
 have h9 : a.take i = a := List.take_of_length_le (by omega)
 rw [h9] at p2
 rw [szR_le (by omega)]
 congr 1; omega
theorem k58_ (A_a : Option Addr) (n_a c_a : Nat) (a : List PaneR) (w : World) (f_a : SlN encPaneR (okPaneR 549755813888) w A_a n_a a) (hn : n_a ≤ 549755813888) :
    Calls Tryz.prog 41 #[.slice A_a n_a c_a] w fun e w' => ∃ A c xs L1, e = .returned (.slice A n_a c) ∧ St w [] L1 w' ∧ OwnN encPaneR ownPaneR 93 (.slice A n_a c) xs L1 ∧ xs.map PaneR.dat = a.map PaneR.dat := by
 have hl := f_a.sl.len
 refine enter 23 Tryz.func41 rfl Tryz.ntmps41 rfl rfl ?_
 have hs1 := St.init w
 refine WC.r1 hs1 [] rfl (WC.sr (WL.r 2 hs1 [] rfl (WL.makeF (F := encPaneR) hs1 Tryz.underlying29 inf93 rfl rfl rfl rfl rfl rfl rfl rfl rfl ?_ ?_ (fun A5 c6 L2 whs3 hs3 ho4 => ?_))))
 · have e_ : Tryz.t93.bytes = 400 := rfl
   rw [e_]; omega
 · omega
 obtain ⟨L7, hs8, ho9⟩ := OwnN.new (own := ownPaneR) hs3 ho4 (⟨[], [], [], [], [], [], rfl, (OwnF.nil _ _), (OwnF.nil _ _), (OwnF.nil _ _), (OwnF.nil _ _), (OwnF.nil _ _), (OwnN.nil _ _ _)⟩)
 refine WL.r 1 hs8 [] rfl (WL.nil (WC.seq (fun K10 hK10 => WC.r1 hs8 [] rfl (WC.block ?_))))
 refine WC.lO [0, 2] rfl hs8 (fun k_ f L_ => ∃ (i : Nat) (ys : List PaneR) (A11 : Option Addr) (c12 : Nat), k_ = n_a - i ∧ (i ≤ n_a) ∧ (ys.length = i) ∧ (ys.map PaneR.dat = (a.take i).map PaneR.dat) ∧ OwnN encPaneR ownPaneR 93 (.slice A11 (n_a) c12) (ys ++ List.replicate (n_a - i) encPaneR.dflt) L_ ∧ Sub [(3, .slice A11 (n_a) c12), (4, .int .i64 i)] f) (((fun (i : Nat) (ys : List PaneR) => n_a - i) (0) ([]))) ?_ ?_
 ·refine ⟨0, [], _, _, rfl, ?_, ?_, ?_, (by simpa using ho9), ⟨rfl, rfl, trivial⟩⟩
  · exact Nat.zero_le _
  · rfl
  · rfl
 clear hs8
 rintro _ f w L13 ⟨i, ys, A11, c12, rfl, p0, p1, p2, ho14, hG⟩ hF hs15
 refine WC.sub _ (hG.app hF) ?_
 clear hG hF
 have hlen : (ys ++ List.replicate (n_a - i) encPaneR.dflt).length = n_a := by simp; omega
 refine WC.seq (fun K16 hK16 => WC.r1 hs15 [] rfl ?_)
 refine WC.cq rfl (fun h17 qh17 => ?_) (fun h17 qh17 => ?_)
 ·refine WC.skip (hK16 _ _ (WC.seq (fun K18 hK18 => WC.block (WC.region (WL.r 4 hs15 [] rfl ?_)))))
  refine WL.val rfl rfl rfl (Run.idxN Tryz.runUnderlying22 Tryz.sizeOf143 rfl rfl rfl ?_ ?_ ?_) ?_
  · exact SlF.some_ (SlF.st0 f_a.sl hs15)
  · omega
  · omega
  refine WL.val rfl rfl rfl (Run.loadA Tryz.isAgg143 Tryz.sizeOf143 rfl rfl (SlF.whole (SlF.st0 f_a.sl hs15) ?_)) ?_
  · omega
  refine WL.cl Tryz.call102 rfl (k52_ (gat encPaneR a i) _ (okPaneR.st0 (SlN.nth f_a (by omega)) hs15)) ?_
  rintro _ whs19 ⟨r20, L1_21, rfl, hs19, ho22, hd23⟩
  replace hs19 := hs15.callF hs19
  refine ⟨_, rfl, WL.val rfl rfl rfl (Run.idxN Tryz.runUnderlying29 Tryz.sizeOf93 rfl rfl rfl ?_ ?_ ?_) ?_⟩
  · exact SlF.some_ (OwnN.sl ho14 (hs19.ow L13))
  · omega
  · omega
  obtain ⟨L24, L25, hs28, ho26, ho27⟩ := OwnN.open_ (hs19.fr L13) ho14
  refine WL.storeF1 (x' := r20) hs28 ho26 Tryz.sizeOf93 rfl rfl rfl rfl rfl rfl rfl rfl rfl ?_ rfl (fun L29 whs30 hs30 ho31 _ => ?_)
  · omega
  obtain ⟨L32, hs34, hb33⟩ := Bag.replace (r := r20) (i := i) ((hs30.fr L1_21).fr L25) ho27 (by omega) ho22
  refine WL.nil (hK18 _ _ (WC.region (WL.r 3 hs34 [] rfl (WL.nil (tkN ?_)))))
  obtain ⟨L36, hs35, ho37⟩ := OwnN.fold (hs34.fr L29) ho31 hb33
  rw [set_at p1 (by omega)] at ho37
  refine ⟨sbF rfl, _, hs35, _, ?_, i + 1, (ys ++ [r20]), _, _, rfl, ?_, ?_, ?_, ho37, ⟨rfl, rfl, trivial⟩⟩
  · omega
  · omega
  · simp; omega
  · rw [List.map_append, p2, map_take_succ (F := encPaneR) (by omega)]; congr 1 <;> simp only [List.map_cons, List.map_nil] <;> congr 1 <;> assumption
 refine WC.exit (hK10 _ _ (WC.r1 hs15 [] rfl (WC.ret (retV1 rfl (resV.tmp rfl) ?_))))
 have hi_ : i = n_a := by omega
 subst hi_
 have hx_ := ho14
 simp only [Nat.sub_self, List.replicate_zero, List.append_nil] at hx_
 exact ⟨_, _, ys, _, rfl, (St.keep1 hs15), hx_, by rw [p2, List.take_of_length_le (by omega)]⟩
theorem k59_ (A_a : Option Addr) (n_a c_a : Nat) (a : List WinR) (left : Int) (w : World) (f_a : SlN encWinR (okWinR 9223372036854775807) w A_a n_a a) (h1 : 0 ≤ left) (h2 : left ≤ 1048576) (h3 : n_a ≤ 9223372036854775807) :
    Calls Tryz.prog 37 #[.slice A_a n_a c_a, i64 left] w fun e w' => e = .returned (.int .i64 (szR left (tots totWin (a.map WinR.dat)))) ∧ St w [] [] w' := by
 have hl := f_a.sl.len
 have hT : (tots totWin (a.map WinR.dat) : Int) = n_a + (a.map (fun x => totWin (WinR.dat x))).sum := by rw [tots_map, hl]; omega
 refine enter 27 Tryz.func37 rfl Tryz.ntmps37 rfl rfl ?_
 have hs1 := St.init w
 refine WC.r1 hs1 [] rfl (WC.r1 hs1 [] rfl (WC.seq (fun K2 hK2 => WC.r1 hs1 [] rfl ?_)))
 refine WC.cD rfl (fun qh3 => ?_) (fun qh3 => ?_)
 ·refine WC.r1 hs1 [] rfl (WC.ret (tkR ?_))
  clear hK2
  refine rtv rfl rfl hs1 ?_
  rw [szR_lt (by omega)]
 refine WC.skip (hK2 _ _ (WC.seq (fun K4 hK4 => WC.r1 hs1 [] rfl (WC.block ?_))))
 refine WC.lS [0, 11] rfl hs1 (fun k_ f w' => ∃ (i : Nat) (q : Int), k_ = n_a - i ∧ (i ≤ n_a) ∧ (0 ≤ q) ∧ (q + n_a + ((a.take i).map (fun x => totWin (WinR.dat x))).sum = left) ∧ Sub [(5, .int .i64 i), (1, .int .i64 q)] f) ((fun (i : Nat) (q : Int) => n_a - i) (0) ((left - n_a))) ?_ ?_
 ·refine ⟨0, (left - n_a), rfl, ?_, ?_, ?_, ⟨rfl, rfl, trivial⟩⟩
  · exact Nat.zero_le _
  · omega
  · simp
 clear hs1
 rintro _ f w ⟨i, q, rfl, p0, p1, p2, hG⟩ hF hs5
 refine WC.sub _ (hG.app hF) ?_
 clear hG hF
 refine WC.seq (fun K6 hK6 => WC.r1 hs5 [] rfl ?_)
 refine WC.cD rfl (fun qh7 => ?_) (fun qh7 => ?_)
 ·have hs1 := sum_take (F := encWinR) (f := (fun x => totWin (WinR.dat x))) (l := a) (i := i) (by omega)
  have hs2 := sum_take_le (f := (fun x => totWin (WinR.dat x))) a (i + 1)
  refine WC.skip (hK6 _ _ (WC.seq (fun K8 hK8 => WC.block (WC.sr (WL.r 2 hs5 [] rfl ?_)))))
  refine WL.val rfl rfl rfl (Run.idxN Tryz.runUnderlying23 Tryz.sizeOf147 rfl rfl rfl ?_ ?_ ?_) ?_
  · exact SlF.some_ (SlF.st0 f_a.sl hs5)
  · omega
  · omega
  refine WL.val rfl rfl rfl (Run.loadA Tryz.isAgg147 Tryz.sizeOf147 rfl rfl (SlF.whole (SlF.st0 f_a.sl hs5) ?_)) ?_
  · omega
  refine WL.r 1 hs5 [] rfl (WL.cl Tryz.call99 rfl (k53_ (gat encWinR a i) _ _ (okWinR.st0 (SlN.nth f_a (by omega)) hs5) ?_ ?_) ?_)
  · first | assumption | omega
  · first | assumption | omega | exact szR_b (by assumption) (by omega) (by first | assumption | omega)
  rintro _ whs9 ⟨rfl, hs9⟩
  replace hs9 := hs5.call0 hs9
  refine ⟨_, rfl, WL.r 1 hs9 [] rfl (WL.nil (WC.r1 hs9 [] rfl (WC.cD rfl (fun qh10 => ?_) (fun qh10 => ?_))))⟩
  ·refine WC.r1 hs9 [] rfl (WC.ret (ibR (tkR (tkR (ibR (tkR ?_))))))
   clear hK8 hK4
   refine rtv rfl rfl hs9 ?_
   have h9 := szR_no qh10
   rw [szR_lt (by omega)]
  refine WC.skip (hK8 _ _ (WC.region (WL.r 3 hs9 [] rfl (WL.nil (tkN ?_)))))
  refine ⟨sbF rfl, hs9, _, ?_, i + 1, _, rfl, ?_, ?_, ?_, ⟨rfl, rfl, trivial⟩⟩
  · omega
  · omega
  · omega
  · have h9 := szR_ok qh10 (Int.natCast_nonneg _); omega
 refine WC.exit (hK4 _ _ (WC.r1 hs5 [] rfl (WC.ret (rtv rfl rfl hs5 ?_))))
 have h9 : a.take i = a := List.take_of_length_le (by omega)
 rw [h9] at p2
 rw [szR_le (by omega)]
 congr 1; omega
theorem k60_ (A_a : Option Addr) (n_a c_a : Nat) (a : List WinR) (w : World) (f_a : SlN encWinR (okWinR 549755813888) w A_a n_a a) (hn : n_a ≤ 549755813888) :
    Calls Tryz.prog 42 #[.slice A_a n_a c_a] w fun e w' => ∃ A c xs L1, e = .returned (.slice A n_a c) ∧ St w [] L1 w' ∧ OwnN encWinR ownWinR 58 (.slice A n_a c) xs L1 ∧ xs.map WinR.dat = a.map WinR.dat := by
 have hl := f_a.sl.len
 refine enter 23 Tryz.func42 rfl Tryz.ntmps42 rfl rfl ?_
 have hs1 := St.init w
 refine WC.r1 hs1 [] rfl (WC.sr (WL.r 2 hs1 [] rfl (WL.makeF (F := encWinR) hs1 Tryz.underlying30 inf58 rfl rfl rfl rfl rfl rfl rfl rfl rfl ?_ ?_ (fun A5 c6 L2 whs3 hs3 ho4 => ?_))))
 · have e_ : Tryz.t58.bytes = 64 := rfl
   rw [e_]; omega
 · omega
 obtain ⟨L7, hs8, ho9⟩ := OwnN.new (own := ownWinR) hs3 ho4 (OwnF.nil _ _)
 refine WL.r 1 hs8 [] rfl (WL.nil (WC.seq (fun K10 hK10 => WC.r1 hs8 [] rfl (WC.block ?_))))
 refine WC.lO [0, 2] rfl hs8 (fun k_ f L_ => ∃ (i : Nat) (ys : List WinR) (A11 : Option Addr) (c12 : Nat), k_ = n_a - i ∧ (i ≤ n_a) ∧ (ys.length = i) ∧ (ys.map WinR.dat = (a.take i).map WinR.dat) ∧ OwnN encWinR ownWinR 58 (.slice A11 (n_a) c12) (ys ++ List.replicate (n_a - i) encWinR.dflt) L_ ∧ Sub [(3, .slice A11 (n_a) c12), (4, .int .i64 i)] f) (((fun (i : Nat) (ys : List WinR) => n_a - i) (0) ([]))) ?_ ?_
 ·refine ⟨0, [], _, _, rfl, ?_, ?_, ?_, (by simpa using ho9), ⟨rfl, rfl, trivial⟩⟩
  · exact Nat.zero_le _
  · rfl
  · rfl
 clear hs8
 rintro _ f w L13 ⟨i, ys, A11, c12, rfl, p0, p1, p2, ho14, hG⟩ hF hs15
 refine WC.sub _ (hG.app hF) ?_
 clear hG hF
 have hlen : (ys ++ List.replicate (n_a - i) encWinR.dflt).length = n_a := by simp; omega
 refine WC.seq (fun K16 hK16 => WC.r1 hs15 [] rfl ?_)
 refine WC.cq rfl (fun h17 qh17 => ?_) (fun h17 qh17 => ?_)
 ·refine WC.skip (hK16 _ _ (WC.seq (fun K18 hK18 => WC.block (WC.region (WL.r 4 hs15 [] rfl ?_)))))
  refine WL.val rfl rfl rfl (Run.idxN Tryz.runUnderlying23 Tryz.sizeOf147 rfl rfl rfl ?_ ?_ ?_) ?_
  · exact SlF.some_ (SlF.st0 f_a.sl hs15)
  · omega
  · omega
  refine WL.val rfl rfl rfl (Run.loadA Tryz.isAgg147 Tryz.sizeOf147 rfl rfl (SlF.whole (SlF.st0 f_a.sl hs15) ?_)) ?_
  · omega
  refine WL.cl Tryz.call103 rfl (k54_ (gat encWinR a i) _ (okWinR.st0 (SlN.nth f_a (by omega)) hs15)) ?_
  rintro _ whs19 ⟨r20, L1_21, rfl, hs19, ho22, hd23⟩
  replace hs19 := hs15.callF hs19
  refine ⟨_, rfl, WL.val rfl rfl rfl (Run.idxN Tryz.runUnderlying30 Tryz.sizeOf58 rfl rfl rfl ?_ ?_ ?_) ?_⟩
  · exact SlF.some_ (OwnN.sl ho14 (hs19.ow L13))
  · omega
  · omega
  obtain ⟨L24, L25, hs28, ho26, ho27⟩ := OwnN.open_ (hs19.fr L13) ho14
  refine WL.storeF1 (x' := r20) hs28 ho26 Tryz.sizeOf58 rfl rfl rfl rfl rfl rfl rfl rfl rfl ?_ rfl (fun L29 whs30 hs30 ho31 _ => ?_)
  · omega
  obtain ⟨L32, hs34, hb33⟩ := Bag.replace (r := r20) (i := i) ((hs30.fr L1_21).fr L25) ho27 (by omega) ho22
  refine WL.nil (hK18 _ _ (WC.region (WL.r 3 hs34 [] rfl (WL.nil (tkN ?_)))))
  obtain ⟨L36, hs35, ho37⟩ := OwnN.fold (hs34.fr L29) ho31 hb33
  rw [set_at p1 (by omega)] at ho37
  refine ⟨sbF rfl, _, hs35, _, ?_, i + 1, (ys ++ [r20]), _, _, rfl, ?_, ?_, ?_, ho37, ⟨rfl, rfl, trivial⟩⟩
  · omega
  · omega
  · simp; omega
  · rw [List.map_append, p2, map_take_succ (F := encWinR) (by omega)]; congr 1 <;> simp only [List.map_cons, List.map_nil] <;> congr 1 <;> assumption
 refine WC.exit (hK10 _ _ (WC.r1 hs15 [] rfl (WC.ret (retV1 rfl (resV.tmp rfl) ?_))))
 have hi_ : i = n_a := by omega
 subst hi_
 have hx_ := ho14
 simp only [Nat.sub_self, List.replicate_zero, List.append_nil] at hx_
 exact ⟨_, _, ys, _, rfl, (St.keep1 hs15), hx_, by rw [p2, List.take_of_length_le (by omega)]⟩
theorem k61_ (A_a : Option Addr) (n_a c_a : Nat) (a : List SessR) (left : Int) (w : World) (f_a : SlN encSessR (okSessR 9223372036854775807) w A_a n_a a) (h1 : 0 ≤ left) (h2 : left ≤ 1048576) (h3 : n_a ≤ 9223372036854775807) :
    Calls Tryz.prog 38 #[.slice A_a n_a c_a, i64 left] w fun e w' => e = .returned (.int .i64 (szR left (tots totSess (a.map SessR.dat)))) ∧ St w [] [] w' := by
 have hl := f_a.sl.len
 have hT : (tots totSess (a.map SessR.dat) : Int) = n_a + (a.map (fun x => totSess (SessR.dat x))).sum := by rw [tots_map, hl]; omega
 refine enter 27 Tryz.func38 rfl Tryz.ntmps38 rfl rfl ?_
 have hs1 := St.init w
 refine WC.r1 hs1 [] rfl (WC.r1 hs1 [] rfl (WC.seq (fun K2 hK2 => WC.r1 hs1 [] rfl ?_)))
 refine WC.cD rfl (fun qh3 => ?_) (fun qh3 => ?_)
 ·refine WC.r1 hs1 [] rfl (WC.ret (tkR ?_))
  clear hK2
  refine rtv rfl rfl hs1 ?_
  rw [szR_lt (by omega)]
 refine WC.skip (hK2 _ _ (WC.seq (fun K4 hK4 => WC.r1 hs1 [] rfl (WC.block ?_))))
 refine WC.lS [0, 11] rfl hs1 (fun k_ f w' => ∃ (i : Nat) (q : Int), k_ = n_a - i ∧ (i ≤ n_a) ∧ (0 ≤ q) ∧ (q + n_a + ((a.take i).map (fun x => totSess (SessR.dat x))).sum = left) ∧ Sub [(5, .int .i64 i), (1, .int .i64 q)] f) ((fun (i : Nat) (q : Int) => n_a - i) (0) ((left - n_a))) ?_ ?_
 ·refine ⟨0, (left - n_a), rfl, ?_, ?_, ?_, ⟨rfl, rfl, trivial⟩⟩
  · exact Nat.zero_le _
  · omega
  · simp
 clear hs1
 rintro _ f w ⟨i, q, rfl, p0, p1, p2, hG⟩ hF hs5
 refine WC.sub _ (hG.app hF) ?_
 clear hG hF
 refine WC.seq (fun K6 hK6 => WC.r1 hs5 [] rfl ?_)
 refine WC.cD rfl (fun qh7 => ?_) (fun qh7 => ?_)
 ·have hs1 := sum_take (F := encSessR) (f := (fun x => totSess (SessR.dat x))) (l := a) (i := i) (by omega)
  have hs2 := sum_take_le (f := (fun x => totSess (SessR.dat x))) a (i + 1)
  refine WC.skip (hK6 _ _ (WC.seq (fun K8 hK8 => WC.block (WC.sr (WL.r 2 hs5 [] rfl ?_)))))
  refine WL.val rfl rfl rfl (Run.idxN Tryz.runUnderlying24 Tryz.sizeOf149 rfl rfl rfl ?_ ?_ ?_) ?_
  · exact SlF.some_ (SlF.st0 f_a.sl hs5)
  · omega
  · omega
  refine WL.val rfl rfl rfl (Run.loadA Tryz.isAgg149 Tryz.sizeOf149 rfl rfl (SlF.whole (SlF.st0 f_a.sl hs5) ?_)) ?_
  · omega
  refine WL.r 1 hs5 [] rfl (WL.cl Tryz.call100 rfl (k55_ (gat encSessR a i) _ _ (okSessR.st0 (SlN.nth f_a (by omega)) hs5) ?_ ?_) ?_)
  · first | assumption | omega
  · first | assumption | omega | exact szR_b (by assumption) (by omega) (by first | assumption | omega)
  rintro _ whs9 ⟨rfl, hs9⟩
  replace hs9 := hs5.call0 hs9
  refine ⟨_, rfl, WL.r 1 hs9 [] rfl (WL.nil (WC.r1 hs9 [] rfl (WC.cD rfl (fun qh10 => ?_) (fun qh10 => ?_))))⟩
  ·refine WC.r1 hs9 [] rfl (WC.ret (ibR (tkR (tkR (ibR (tkR ?_))))))
   clear hK8 hK4
   refine rtv rfl rfl hs9 ?_
   have h9 := szR_no qh10
   rw [szR_lt (by omega)]
  refine WC.skip (hK8 _ _ (WC.region (WL.r 3 hs9 [] rfl (WL.nil (tkN ?_)))))
  refine ⟨sbF rfl, hs9, _, ?_, i + 1, _, rfl, ?_, ?_, ?_, ⟨rfl, rfl, trivial⟩⟩
  · omega
  · omega
  · omega
  · have h9 := szR_ok qh10 (Int.natCast_nonneg _); omega
 refine WC.exit (hK4 _ _ (WC.r1 hs5 [] rfl (WC.ret (rtv rfl rfl hs5 ?_))))
 have h9 : a.take i = a := List.take_of_length_le (by omega)
 rw [h9] at p2
 rw [szR_le (by omega)]
 congr 1; omega
theorem k62_ (A_a : Option Addr) (n_a c_a : Nat) (a : List SessR) (w : World) (f_a : SlN encSessR (okSessR 549755813888) w A_a n_a a) (hn : n_a ≤ 549755813888) :
    Calls Tryz.prog 43 #[.slice A_a n_a c_a] w fun e w' => ∃ A c xs L1, e = .returned (.slice A n_a c) ∧ St w [] L1 w' ∧ OwnN encSessR ownSessR 106 (.slice A n_a c) xs L1 ∧ xs.map SessR.dat = a.map SessR.dat := by
 have hl := f_a.sl.len
 refine enter 23 Tryz.func43 rfl Tryz.ntmps43 rfl rfl ?_
 have hs1 := St.init w
 refine WC.r1 hs1 [] rfl (WC.sr (WL.r 2 hs1 [] rfl (WL.makeF (F := encSessR) hs1 Tryz.underlying31 inf106 rfl rfl rfl rfl rfl rfl rfl rfl rfl ?_ ?_ (fun A5 c6 L2 whs3 hs3 ho4 => ?_))))
 · have e_ : Tryz.t106.bytes = 48 := rfl
   rw [e_]; omega
 · omega
 obtain ⟨L7, hs8, ho9⟩ := OwnN.new (own := ownSessR) hs3 ho4 (OwnF.nil _ _)
 refine WL.r 1 hs8 [] rfl (WL.nil (WC.seq (fun K10 hK10 => WC.r1 hs8 [] rfl (WC.block ?_))))
 refine WC.lO [0, 2] rfl hs8 (fun k_ f L_ => ∃ (i : Nat) (ys : List SessR) (A11 : Option Addr) (c12 : Nat), k_ = n_a - i ∧ (i ≤ n_a) ∧ (ys.length = i) ∧ (ys.map SessR.dat = (a.take i).map SessR.dat) ∧ OwnN encSessR ownSessR 106 (.slice A11 (n_a) c12) (ys ++ List.replicate (n_a - i) encSessR.dflt) L_ ∧ Sub [(3, .slice A11 (n_a) c12), (4, .int .i64 i)] f) (((fun (i : Nat) (ys : List SessR) => n_a - i) (0) ([]))) ?_ ?_
 ·refine ⟨0, [], _, _, rfl, ?_, ?_, ?_, (by simpa using ho9), ⟨rfl, rfl, trivial⟩⟩
  · exact Nat.zero_le _
  · rfl
  · rfl
 clear hs8
 rintro _ f w L13 ⟨i, ys, A11, c12, rfl, p0, p1, p2, ho14, hG⟩ hF hs15
 refine WC.sub _ (hG.app hF) ?_
 clear hG hF
 have hlen : (ys ++ List.replicate (n_a - i) encSessR.dflt).length = n_a := by simp; omega
 refine WC.seq (fun K16 hK16 => WC.r1 hs15 [] rfl ?_)
 refine WC.cq rfl (fun h17 qh17 => ?_) (fun h17 qh17 => ?_)
 ·refine WC.skip (hK16 _ _ (WC.seq (fun K18 hK18 => WC.block (WC.region (WL.r 4 hs15 [] rfl ?_)))))
  refine WL.val rfl rfl rfl (Run.idxN Tryz.runUnderlying24 Tryz.sizeOf149 rfl rfl rfl ?_ ?_ ?_) ?_
  · exact SlF.some_ (SlF.st0 f_a.sl hs15)
  · omega
  · omega
  refine WL.val rfl rfl rfl (Run.loadA Tryz.isAgg149 Tryz.sizeOf149 rfl rfl (SlF.whole (SlF.st0 f_a.sl hs15) ?_)) ?_
  · omega
  refine WL.cl Tryz.call104 rfl (k56_ (gat encSessR a i) _ (okSessR.st0 (SlN.nth f_a (by omega)) hs15)) ?_
  rintro _ whs19 ⟨r20, L1_21, rfl, hs19, ho22, hd23⟩
  replace hs19 := hs15.callF hs19
  refine ⟨_, rfl, WL.val rfl rfl rfl (Run.idxN Tryz.runUnderlying31 Tryz.sizeOf106 rfl rfl rfl ?_ ?_ ?_) ?_⟩
  · exact SlF.some_ (OwnN.sl ho14 (hs19.ow L13))
  · omega
  · omega
  obtain ⟨L24, L25, hs28, ho26, ho27⟩ := OwnN.open_ (hs19.fr L13) ho14
  refine WL.storeF1 (x' := r20) hs28 ho26 Tryz.sizeOf106 rfl rfl rfl rfl rfl rfl rfl rfl rfl ?_ rfl (fun L29 whs30 hs30 ho31 _ => ?_)
  · omega
  obtain ⟨L32, hs34, hb33⟩ := Bag.replace (r := r20) (i := i) ((hs30.fr L1_21).fr L25) ho27 (by omega) ho22
  refine WL.nil (hK18 _ _ (WC.region (WL.r 3 hs34 [] rfl (WL.nil (tkN ?_)))))
  obtain ⟨L36, hs35, ho37⟩ := OwnN.fold (hs34.fr L29) ho31 hb33
  rw [set_at p1 (by omega)] at ho37
  refine ⟨sbF rfl, _, hs35, _, ?_, i + 1, (ys ++ [r20]), _, _, rfl, ?_, ?_, ?_, ho37, ⟨rfl, rfl, trivial⟩⟩
  · omega
  · omega
  · simp; omega
  · rw [List.map_append, p2, map_take_succ (F := encSessR) (by omega)]; congr 1 <;> simp only [List.map_cons, List.map_nil] <;> congr 1 <;> assumption
 refine WC.exit (hK10 _ _ (WC.r1 hs15 [] rfl (WC.ret (retV1 rfl (resV.tmp rfl) ?_))))
 have hi_ : i = n_a := by omega
 subst hi_
 have hx_ := ho14
 simp only [Nat.sub_self, List.replicate_zero, List.append_nil] at hx_
 exact ⟨_, _, ys, _, rfl, (St.keep1 hs15), hx_, by rw [p2, List.take_of_length_le (by omega)]⟩
set_option maxHeartbeats 4000000 in
theorem k63_ (a : StateR) (left : Int) (w : World) (f_a : okStateR 9223372036854775807 w a) (h1 : 0 ≤ left) (h2 : left ≤ 1048576) :
    Calls Tryz.prog 11 #[.agg #[i64 a.W, i64 a.H, i64 a.Limit, i64 a.Next, .slice a.Panes.A a.Panes.n a.Panes.c, .slice a.Wins.A a.Wins.n a.Wins.c, .slice a.Sess.A a.Sess.n a.Sess.c], i64 left] w fun e w' => e = .returned (.int .i64 (szR left (totState a.dat))) ∧ St w [] [] w' := by
 have nb_a_Panes := f_a.Panes_n
 have nl_a_Panes := f_a.Panes.sl.len
 have nb_a_Wins := f_a.Wins_n
 have nl_a_Wins := f_a.Wins.sl.len
 have nb_a_Sess := f_a.Sess_n
 have nl_a_Sess := f_a.Sess.sl.len
 refine enter 24 Tryz.func11 rfl Tryz.ntmps11 rfl rfl ?_
 have hs1 := St.init w
 refine WC.sr (WL.bx hs1 rfl (fun b2 _ hs3 => WL.r 1 hs3 [] rfl (WL.nil (WC.sr (WL.r 3 hs3 [0] rfl ?_)))))
 refine WL.cl Tryz.call36 rfl (k57_ _ _ _ _ _ _ (SlN.st0 okPaneR.st0 f_a.Panes hs3) ?_ ?_ ?_) ?_
 · first | assumption | omega
 · first | assumption | omega | exact szR_b (by assumption) (by omega) (by first | assumption | omega)
 · first | assumption | omega
 rintro _ whs4 ⟨rfl, hs4⟩
 replace hs4 := hs3.call0 hs4
 refine ⟨_, rfl, WL.r 1 hs4 [] rfl (WL.nil (WC.seq (fun K5 hK5 => WC.r1 hs4 [] rfl ?_)))⟩
 refine WC.cD rfl (fun qh6 => ?_) (fun qh6 => ?_)
 ·try have soh6 := szR_ok qh6 (by omega)
  try have sbh6 := szR_b qh6 (by omega) (by first | assumption | omega)
  try have snh6 := szR_no qh6
  refine WC.r1 hs4 [] rfl (WC.ret (tkR ?_))
  clear hK5
  refine rtv rfl rfl hs4 ?_
  simp only [totState, StateR.dat] at *; first | (rw [szR_lt (by omega)]; done) | (refine congrArg (Value.int _) ?_; symm; refine (szR_le ?_).trans ?_ <;> omega) | rfl
 try have soh6 := szR_ok qh6 (by omega)
 try have sbh6 := szR_b qh6 (by omega) (by first | assumption | omega)
 try have snh6 := szR_no qh6
 refine WC.skip (hK5 _ _ (WC.sr (WL.r 3 hs4 [0] rfl ?_)))
 refine WL.cl Tryz.call37 rfl (k59_ _ _ _ _ _ _ (SlN.st0 okWinR.st0 f_a.Wins hs4) ?_ ?_ ?_) ?_
 · first | assumption | omega
 · first | assumption | omega | exact szR_b (by assumption) (by omega) (by first | assumption | omega)
 · first | assumption | omega
 rintro _ whs7 ⟨rfl, hs7⟩
 replace hs7 := hs4.call0 hs7
 refine ⟨_, rfl, WL.r 1 hs7 [] rfl (WL.nil (WC.seq (fun K8 hK8 => WC.r1 hs7 [] rfl ?_)))⟩
 refine WC.cD rfl (fun qh9 => ?_) (fun qh9 => ?_)
 ·try have soh9 := szR_ok qh9 (by omega)
  try have sbh9 := szR_b qh9 (by omega) (by first | assumption | omega)
  try have snh9 := szR_no qh9
  refine WC.r1 hs7 [] rfl (WC.ret (tkR ?_))
  clear hK8
  refine rtv rfl rfl hs7 ?_
  simp only [totState, StateR.dat] at *; first | (rw [szR_lt (by omega)]; done) | (refine congrArg (Value.int _) ?_; symm; refine (szR_le ?_).trans ?_ <;> omega) | rfl
 try have soh9 := szR_ok qh9 (by omega)
 try have sbh9 := szR_b qh9 (by omega) (by first | assumption | omega)
 try have snh9 := szR_no qh9
 refine WC.skip (hK8 _ _ (WC.sr (WL.r 3 hs7 [0] rfl ?_)))
 refine WL.cl Tryz.call38 rfl (k61_ _ _ _ _ _ _ (SlN.st0 okSessR.st0 f_a.Sess hs7) ?_ ?_ ?_) ?_
 · first | assumption | omega
 · first | assumption | omega | exact szR_b (by assumption) (by omega) (by first | assumption | omega)
 · first | assumption | omega
 rintro _ whs10 ⟨rfl, hs10⟩
 replace hs10 := hs7.call0 hs10
 refine ⟨_, rfl, WL.r 1 hs10 [] rfl (WL.nil (WC.seq (fun K11 hK11 => WC.r1 hs10 [] rfl ?_)))⟩
 refine WC.cD rfl (fun qh12 => ?_) (fun qh12 => ?_)
 ·try have soh12 := szR_ok qh12 (by omega)
  try have sbh12 := szR_b qh12 (by omega) (by first | assumption | omega)
  try have snh12 := szR_no qh12
  refine WC.r1 hs10 [] rfl (WC.ret (tkR ?_))
  clear hK11
  refine rtv rfl rfl hs10 ?_
  simp only [totState, StateR.dat] at *; first | (rw [szR_lt (by omega)]; done) | (refine congrArg (Value.int _) ?_; symm; refine (szR_le ?_).trans ?_ <;> omega) | rfl
 try have soh12 := szR_ok qh12 (by omega)
 try have sbh12 := szR_b qh12 (by omega) (by first | assumption | omega)
 try have snh12 := szR_no qh12
 refine WC.skip (hK11 _ _ (WC.r1 hs10 [] rfl (WC.ret (rtv rfl rfl hs10 ?_))))
 simp only [totState, StateR.dat] at *; first | (rw [szR_lt (by omega)]; done) | (refine congrArg (Value.int _) ?_; symm; refine (szR_le ?_).trans ?_ <;> omega) | rfl
set_option maxHeartbeats 4000000 in
theorem k64_ (a : StateR) (w : World) (f_a : okStateR 549755813888 w a) :
    Calls Tryz.prog 13 #[.agg #[i64 a.W, i64 a.H, i64 a.Limit, i64 a.Next, .slice a.Panes.A a.Panes.n a.Panes.c, .slice a.Wins.A a.Wins.n a.Wins.c, .slice a.Sess.A a.Sess.n a.Sess.c]] w fun e w' => ∃ r L1, e = .returned (.agg #[i64 r.W, i64 r.H, i64 r.Limit, i64 r.Next, .slice r.Panes.A r.Panes.n r.Panes.c, .slice r.Wins.A r.Wins.n r.Wins.c, .slice r.Sess.A r.Sess.n r.Sess.c]) ∧ St w [] L1 w' ∧ ownStateR r L1 ∧ r.dat = a.dat := by
 have nb_a_Panes := f_a.Panes_n
 have nl_a_Panes := f_a.Panes.sl.len
 have nb_a_Wins := f_a.Wins_n
 have nl_a_Wins := f_a.Wins.sl.len
 have nb_a_Sess := f_a.Sess_n
 have nl_a_Sess := f_a.Sess.sl.len
 refine enter 29 Tryz.func13 rfl Tryz.ntmps13 rfl rfl ?_
 have hs1 := St.init w
 refine WC.sr (WL.bx hs1 rfl (fun b2 _ hs3 => WL.al hs3 Tryz.zeroValue33 rfl rfl (fun b4 _ hs5 => WL.nil (WC.sr (WL.al hs5 Tryz.zeroValue33 rfl rfl (fun b6 _ hs7 => WL.nil (WC.sr ?_)))))))
 refine WL.r 3 hs7 [2] rfl (WL.st tbk hs7 0 rfl rfl (fun _ hs8 => WL.nil (WC.sr (WL.r 3 hs8 [2] rfl (WL.st tbk hs8 0 rfl rfl (fun _ hs9 => WL.nil (WC.sr ?_)))))))
 refine WL.r 3 hs9 [2] rfl (WL.st tbk hs9 0 rfl rfl (fun _ hs10 => WL.nil (WC.sr (WL.r 3 hs10 [2] rfl (WL.st tbk hs10 0 rfl rfl (fun _ hs11 => WL.nil (WC.sr ?_)))))))
 refine WL.r 2 hs11 [2] rfl (WL.cl Tryz.call41 rfl (k58_ _ _ _ _ _ (SlN.st0 okPaneR.st0 f_a.Panes hs11) ?_) ?_)
 · first | assumption | rfl | omega
 rintro _ whs12 ⟨A13, c14, xs15, L1_16, rfl, hs12, ho17, hd18⟩
 replace hs12 := hs11.callF hs12
 refine ⟨_, rfl, ?_⟩
 replace hs12 := St.back [_, _, _] hs12
 refine WL.r 1 hs12 [] rfl (WL.st tbk hs12 0 rfl rfl (fun _ hs19 => WL.nil (WC.sr (WL.r 2 hs19 [2] rfl ?_))))
 refine WL.cl Tryz.call42 rfl (k60_ _ _ _ _ _ (SlN.st0 okWinR.st0 f_a.Wins hs19) ?_) ?_
 · first | assumption | rfl | omega
 rintro _ whs20 ⟨A21, c22, xs23, L1_24, rfl, hs20, ho25, hd26⟩
 replace hs20 := hs19.callF hs20
 refine ⟨_, rfl, ?_⟩
 replace hs20 := St.back [_, _, _] hs20
 refine WL.r 1 hs20 [] rfl (WL.st tbk hs20 0 rfl rfl (fun _ hs27 => WL.nil (WC.sr (WL.r 2 hs27 [2] rfl ?_))))
 refine WL.cl Tryz.call43 rfl (k62_ _ _ _ _ _ (SlN.st0 okSessR.st0 f_a.Sess hs27) ?_) ?_
 · first | assumption | rfl | omega
 rintro _ whs28 ⟨A29, c30, xs31, L1_32, rfl, hs28, ho33, hd34⟩
 replace hs28 := hs27.callF hs28
 refine ⟨_, rfl, ?_⟩
 replace hs28 := St.back [_, _, _] hs28
 refine WL.r 1 hs28 [] rfl (WL.st tbk hs28 0 rfl rfl (fun _ hs35 => WL.nil (WC.sr (WL.r 1 hs35 [0] rfl (WL.st tbk hs35 1 rfl rfl (fun _ hs36 => WL.nil (WC.ret ?_)))))))
 refine retV1 rfl (resV.cellA tbk hs36 1 rfl rfl rfl rfl) ?_
 obtain ⟨L38, hs37, ho39⟩ := ownStateR.fl hs36 ho17 ho25 ho33
 have hs40 := (((hs37.fb b2).fb b4).fb b6)
 refine ⟨⟨a.W, a.H, a.Limit, a.Next, SlD.ofN ho17, SlD.ofN ho25, SlD.ofN ho33⟩, _, rfl, (St.keep1 (hs40.fr L38)), ?_, ?_⟩
 · exact (by exact ho39)
 · exact StateD.ext' rfl rfl rfl rfl hd18 hd26 hd34
set_option maxHeartbeats 4000000 in
theorem k65_ (a : GridR) (b : GridR) (w : World) (f_a : okGridR 549755813888 w a) (f_b : okGridR 549755813888 w b) (hab : a.dat = b.dat) :
    Calls Tryz.prog 260 #[.agg #[i64 a.W, i64 a.H, .slice a.Cells.A a.Cells.n a.Cells.c], .agg #[i64 b.W, i64 b.H, .slice b.Cells.A b.Cells.n b.Cells.c]] w fun e w' => e = .returned (.bool true) ∧ St w [] [] w' := by
 have nb_a_Cells := f_a.Cells_n
 have nl_a_Cells := f_a.Cells.len
 have nb_b_Cells := f_b.Cells_n
 have nl_b_Cells := f_b.Cells.len
 have e_W : a.W = b.W := congrArg (fun d : GridD => d.W) hab
 have e_H : a.H = b.H := congrArg (fun d : GridD => d.H) hab
 have e_Cells : a.Cells.xs = b.Cells.xs := congrArg (fun d : GridD => d.Cells) hab
 refine enter 21 Tryz.func260 rfl Tryz.ntmps260 rfl rfl ?_
 have hs1 := St.init w
 refine WC.sr (WL.bx hs1 rfl (fun b2 _ hs3 => WL.bx hs3 rfl (fun b4 _ hs5 => WL.r 1 hs5 [] rfl (WL.nil (WC.seq (fun K6 hK6 => WC.r1 hs5 [1, 0] rfl (WC.condF rfl (by simp [e_W, e_H]) ?_)))))))
 refine WC.skip (hK6 _ _ (WC.seq (fun K8 hK8 => WC.r1 hs5 [1, 0] rfl (WC.condF rfl (by simp [e_W, e_H]) (WC.skip (hK8 _ _ (WC.seq (fun K10 hK10 => ?_))))))))
 refine WC.sr (WL.r 4 hs5 [1, 0] rfl (WL.cl Tryz.call287 rfl (k10_ _ _ _ _ _ _ _ _ _ (SlF.st0 f_a.Cells hs5) (SlF.st0 f_b.Cells hs5) ?_ ?_) ?_))
 iterate 2 first | assumption | rfl | omega
 rintro _ whs11 ⟨rfl, hs11⟩
 replace hs11 := hs5.call0 hs11
 refine ⟨_, rfl, WL.r 1 hs11 [] rfl (WL.nil (WC.condF rfl (by simp [e_W, e_H]) (WC.skip (hK10 _ _ (WC.r1 hs11 [] rfl (WC.ret ?_))))))⟩
 refine rtv rfl rfl hs11 ?_
 rfl
set_option maxHeartbeats 4000000 in
theorem k66_ (a : VpR) (b : VpR) (w : World) (f_a : okVpR 549755813888 w a) (f_b : okVpR 549755813888 w b) (hab : a.dat = b.dat) :
    Calls Tryz.prog 211 #[.agg #[i64 a.State, .bool a.Mark, .slice a.Args.A a.Args.n a.Args.c, .slice a.Part.A a.Part.n a.Part.c], .agg #[i64 b.State, .bool b.Mark, .slice b.Args.A b.Args.n b.Args.c, .slice b.Part.A b.Part.n b.Part.c]] w fun e w' => e = .returned (.bool true) ∧ St w [] [] w' := by
 have nb_a_Args := f_a.Args_n
 have nl_a_Args := f_a.Args.len
 have nb_a_Part := f_a.Part_n
 have nl_a_Part := f_a.Part.len
 have nb_b_Args := f_b.Args_n
 have nl_b_Args := f_b.Args.len
 have nb_b_Part := f_b.Part_n
 have nl_b_Part := f_b.Part.len
 have e_State : a.State = b.State := congrArg (fun d : VpD => d.State) hab
 have e_Mark : a.Mark = b.Mark := congrArg (fun d : VpD => d.Mark) hab
 have e_Args : a.Args.xs = b.Args.xs := congrArg (fun d : VpD => d.Args) hab
 have e_Part : a.Part.xs = b.Part.xs := congrArg (fun d : VpD => d.Part) hab
 refine enter 27 Tryz.func211 rfl Tryz.ntmps211 rfl rfl ?_
 have hs1 := St.init w
 refine WC.sr (WL.bx hs1 rfl (fun b2 _ hs3 => WL.bx hs3 rfl (fun b4 _ hs5 => WL.r 1 hs5 [] rfl (WL.nil (WC.seq (fun K6 hK6 => WC.r1 hs5 [1, 0] rfl (WC.condF rfl (by simp [e_State, e_Mark]) ?_)))))))
 refine WC.skip (hK6 _ _ (WC.seq (fun K8 hK8 => WC.r1 hs5 [1, 0] rfl (WC.condF rfl (by simp [e_State, e_Mark]) (WC.skip (hK8 _ _ (WC.seq (fun K10 hK10 => ?_))))))))
 refine WC.sr (WL.r 4 hs5 [1, 0] rfl (WL.cl Tryz.call171 rfl (k12_ _ _ _ _ _ _ _ _ _ (SlF.st0 f_a.Args hs5) (SlF.st0 f_b.Args hs5) ?_ ?_) ?_))
 iterate 2 first | assumption | rfl | omega
 rintro _ whs11 ⟨rfl, hs11⟩
 replace hs11 := hs5.call0 hs11
 refine ⟨_, rfl, WL.r 1 hs11 [] rfl (WL.nil (WC.condF rfl (by simp [e_State, e_Mark]) (WC.skip (hK10 _ _ (WC.seq (fun K13 hK13 => WC.sr ?_))))))⟩
 refine WL.r 4 hs11 [1, 0] rfl (WL.cl Tryz.call26 rfl (k4_ _ _ _ _ _ _ _ _ _ (SlF.st0 f_a.Part hs11) (SlF.st0 f_b.Part hs11) ?_ ?_) ?_)
 iterate 2 first | assumption | rfl | omega
 rintro _ whs14 ⟨rfl, hs14⟩
 replace hs14 := hs11.call0 hs14
 refine ⟨_, rfl, WL.r 1 hs14 [] rfl (WL.nil (WC.condF rfl (by simp [e_State, e_Mark]) (WC.skip (hK13 _ _ (WC.r1 hs14 [] rfl (WC.ret ?_))))))⟩
 refine rtv rfl rfl hs14 ?_
 rfl
set_option maxHeartbeats 4000000 in
theorem k67_ (a : RowR) (b : RowR) (w : World) (f_a : okRowR 549755813888 w a) (f_b : okRowR 549755813888 w b) (hab : a.dat = b.dat) :
    Calls Tryz.prog 288 #[.agg #[.slice a.Cells.A a.Cells.n a.Cells.c], .agg #[.slice b.Cells.A b.Cells.n b.Cells.c]] w fun e w' => e = .returned (.bool true) ∧ St w [] [] w' := by
 have nb_a_Cells := f_a.Cells_n
 have nl_a_Cells := f_a.Cells.len
 have nb_b_Cells := f_b.Cells_n
 have nl_b_Cells := f_b.Cells.len
 have e_Cells : a.Cells.xs = b.Cells.xs := congrArg (fun d : RowD => d.Cells) hab
 refine enter 11 Tryz.func288 rfl Tryz.ntmps288 rfl rfl ?_
 have hs1 := St.init w
 refine WC.sr (WL.bx hs1 rfl (fun b2 _ hs3 => WL.bx hs3 rfl (fun b4 _ hs5 => WL.r 1 hs5 [] rfl (WL.nil (WC.seq (fun K6 hK6 => WC.sr (WL.r 4 hs5 [1, 0] rfl ?_)))))))
 refine WL.cl Tryz.call287 rfl (k10_ _ _ _ _ _ _ _ _ _ (SlF.st0 f_a.Cells hs5) (SlF.st0 f_b.Cells hs5) ?_ ?_) ?_
 iterate 2 first | assumption | rfl | omega
 rintro _ whs7 ⟨rfl, hs7⟩
 replace hs7 := hs5.call0 hs7
 refine ⟨_, rfl, WL.r 1 hs7 [] rfl (WL.nil (WC.condF rfl (by simp) (WC.skip (hK6 _ _ (WC.r1 hs7 [] rfl (WC.ret ?_))))))⟩
 refine rtv rfl rfl hs7 ?_
 rfl
theorem k68_ (A_a : Option Addr) (n_a c_a : Nat) (a : List RowR) (A_b : Option Addr) (n_b c_b : Nat) (b : List RowR) (w : World) (f_a : SlN encRowR (okRowR 549755813888) w A_a n_a a) (f_b : SlN encRowR (okRowR 549755813888) w A_b n_b b) (hn : n_a ≤ 549755813888) (hab : a.map RowR.dat = b.map RowR.dat) :
    Calls Tryz.prog 262 #[.slice A_a n_a c_a, .slice A_b n_b c_b] w fun e w' => e = .returned (.bool true) ∧ St w [] [] w' := by
 have hla := f_a.sl.len
 obtain rfl : n_a = n_b := by have h9 := congrArg List.length hab; simp only [List.length_map] at h9; rw [← hla, h9]; exact f_b.sl.len
 refine enter 27 Tryz.func262 rfl Tryz.ntmps262 rfl rfl ?_
 have hs1 := St.init w
 refine WC.r1 hs1 [] rfl (WC.seq (fun K2 hK2 => WC.r1 hs1 [] rfl (WC.condF rfl (by simp) (WC.skip (hK2 _ _ (WC.seq (fun K4 hK4 => WC.r1 hs1 [] rfl ?_)))))))
 refine WC.block (WC.lS [0, 1, 10] rfl hs1 (fun k_ f w' => ∃ (i : Nat), k_ = n_a - i ∧ (i ≤ n_a) ∧ Sub [(5, .int .i64 i)] f) ((fun (i : Nat) => n_a - i) (0)) ?_ ?_)
 ·refine ⟨0, rfl, ?_, ⟨rfl, trivial⟩⟩
  · exact Nat.zero_le _
 clear hs1
 rintro _ f w ⟨i, rfl, p0, hG⟩ hF hs5
 refine WC.sub _ (hG.app hF) ?_
 clear hG hF
 refine WC.seq (fun K6 hK6 => WC.r1 hs5 [] rfl ?_)
 refine WC.cD rfl (fun qh7 => ?_) (fun qh7 => ?_)
 ·have hab_ := gat_dat (F := encRowR) (i := i) hab (by omega)
  refine WC.skip (hK6 _ _ (WC.seq (fun K8 hK8 => WC.block (WC.sq1 hs5 (WQ.r 2 [] rfl ?_)))))
  refine WQ.val rfl rfl rfl (fun w_ hs_ => (Run.idxN Tryz.runUnderlying87 Tryz.sizeOf181 rfl rfl rfl ?_ ?_ ?_)) ?_
  · exact SlF.some_ (SlF.st0 f_a.sl (hs_ : St _ _ _ _))
  · omega
  · omega
  refine WQ.val rfl rfl rfl (fun w_ hs_ => (Run.loadA Tryz.isAgg181 Tryz.sizeOf181 rfl rfl (SlF.whole (SlF.st0 f_a.sl (hs_ : St _ _ _ _)) ?_))) ?_
  · omega
  refine WQ.r 2 [] rfl ?_
  refine WQ.val rfl rfl rfl (fun w_ hs_ => (Run.idxN Tryz.runUnderlying87 Tryz.sizeOf181 rfl rfl rfl ?_ ?_ ?_)) ?_
  · exact SlF.some_ (SlF.st0 f_b.sl (hs_ : St _ _ _ _))
  · omega
  · omega
  refine WQ.val rfl rfl rfl (fun w_ hs_ => (Run.loadA Tryz.isAgg181 Tryz.sizeOf181 rfl rfl (SlF.whole (SlF.st0 f_b.sl (hs_ : St _ _ _ _)) ?_))) ?_
  · omega
  refine WQ.call rfl rfl rfl (fun w_ hs_ => (Run.call Tryz.call288 rfl rfl rfl)) (fun w_ hs_ => (k67_ (gat encRowR a i) (gat encRowR b i) _ (okRowR.st0 (SlN.nth f_a (by omega)) (hs_ : St _ _ _ _)) (okRowR.st0 (SlN.nth f_b (by omega)) (hs_ : St _ _ _ _)) ?_).mono fun e_ w_ h_ => ⟨h_.1, (hs_ : St _ _ _ _).call0 h_.2⟩) ?_
  · first | assumption | rfl | omega
  refine WQ.r 1 [] rfl (WQ.nil (fun _ (hs9 : St _ _ _ _) => WC.condF rfl (by simp) (WC.skip (hK8 _ _ (WC.region (WL.r 3 hs9 [] rfl (WL.nil ?_)))))))
  refine tkN (⟨sbF rfl, hs9, _, ?_, i + 1, rfl, ?_, ⟨rfl, trivial⟩⟩)
  · omega
  · omega
 refine WC.exit (hK4 _ _ (WC.r1 hs5 [] rfl (WC.ret (rtv rfl rfl hs5 ?_))))
 rfl
set_option maxHeartbeats 4000000 in
theorem k69_ (a : ScrR) (b : ScrR) (w : World) (f_a : okScrR 549755813888 w a) (f_b : okScrR 549755813888 w b) (hab : a.dat = b.dat) :
    Calls Tryz.prog 212 #[.agg (cScr a).toArray, .agg (cScr b).toArray] w fun e w' => e = .returned (.bool true) ∧ St w [] [] w' := by
 have nb_a_Main_Cells := f_a.Main.Cells_n
 have nl_a_Main_Cells := f_a.Main.Cells.len
 have nb_a_Alt_Cells := f_a.Alt.Cells_n
 have nl_a_Alt_Cells := f_a.Alt.Cells.len
 have nb_a_Tabs := f_a.Tabs_n
 have nl_a_Tabs := f_a.Tabs.len
 have nb_a_Back := f_a.Back_n
 have nl_a_Back := f_a.Back.sl.len
 have nb_b_Main_Cells := f_b.Main.Cells_n
 have nl_b_Main_Cells := f_b.Main.Cells.len
 have nb_b_Alt_Cells := f_b.Alt.Cells_n
 have nl_b_Alt_Cells := f_b.Alt.Cells.len
 have nb_b_Tabs := f_b.Tabs_n
 have nl_b_Tabs := f_b.Tabs.len
 have nb_b_Back := f_b.Back_n
 have nl_b_Back := f_b.Back.sl.len
 have e_W : a.W = b.W := congrArg (fun d : ScrD => d.W) hab
 have e_H : a.H = b.H := congrArg (fun d : ScrD => d.H) hab
 have e_Main : a.Main.dat = b.Main.dat := congrArg (fun d : ScrD => d.Main) hab
 have e_Main_W : a.Main.W = b.Main.W := congrArg (fun d : ScrD => d.Main.W) hab
 have e_Main_H : a.Main.H = b.Main.H := congrArg (fun d : ScrD => d.Main.H) hab
 have e_Main_Cells : a.Main.Cells.xs = b.Main.Cells.xs := congrArg (fun d : ScrD => d.Main.Cells) hab
 have e_Alt : a.Alt.dat = b.Alt.dat := congrArg (fun d : ScrD => d.Alt) hab
 have e_Alt_W : a.Alt.W = b.Alt.W := congrArg (fun d : ScrD => d.Alt.W) hab
 have e_Alt_H : a.Alt.H = b.Alt.H := congrArg (fun d : ScrD => d.Alt.H) hab
 have e_Alt_Cells : a.Alt.Cells.xs = b.Alt.Cells.xs := congrArg (fun d : ScrD => d.Alt.Cells) hab
 have e_OnAlt : a.OnAlt = b.OnAlt := congrArg (fun d : ScrD => d.OnAlt) hab
 have e_X : a.X = b.X := congrArg (fun d : ScrD => d.X) hab
 have e_Y : a.Y = b.Y := congrArg (fun d : ScrD => d.Y) hab
 have e_Wrap : a.Wrap = b.Wrap := congrArg (fun d : ScrD => d.Wrap) hab
 have e_A : a.A = b.A := congrArg (fun d : ScrD => d.A) hab
 have e_A_Fg : a.A.Fg = b.A.Fg := congrArg (fun d : ScrD => d.A.Fg) hab
 have e_A_Bg : a.A.Bg = b.A.Bg := congrArg (fun d : ScrD => d.A.Bg) hab
 have e_A_Bold : a.A.Bold = b.A.Bold := congrArg (fun d : ScrD => d.A.Bold) hab
 have e_A_Under : a.A.Under = b.A.Under := congrArg (fun d : ScrD => d.A.Under) hab
 have e_A_Turn : a.A.Turn = b.A.Turn := congrArg (fun d : ScrD => d.A.Turn) hab
 have e_Top : a.Top = b.Top := congrArg (fun d : ScrD => d.Top) hab
 have e_Bot : a.Bot = b.Bot := congrArg (fun d : ScrD => d.Bot) hab
 have e_NoWrap : a.NoWrap = b.NoWrap := congrArg (fun d : ScrD => d.NoWrap) hab
 have e_Hide : a.Hide = b.Hide := congrArg (fun d : ScrD => d.Hide) hab
 have e_SaveX : a.SaveX = b.SaveX := congrArg (fun d : ScrD => d.SaveX) hab
 have e_SaveY : a.SaveY = b.SaveY := congrArg (fun d : ScrD => d.SaveY) hab
 have e_SaveA : a.SaveA = b.SaveA := congrArg (fun d : ScrD => d.SaveA) hab
 have e_SaveA_Fg : a.SaveA.Fg = b.SaveA.Fg := congrArg (fun d : ScrD => d.SaveA.Fg) hab
 have e_SaveA_Bg : a.SaveA.Bg = b.SaveA.Bg := congrArg (fun d : ScrD => d.SaveA.Bg) hab
 have e_SaveA_Bold : a.SaveA.Bold = b.SaveA.Bold := congrArg (fun d : ScrD => d.SaveA.Bold) hab
 have e_SaveA_Under : a.SaveA.Under = b.SaveA.Under := congrArg (fun d : ScrD => d.SaveA.Under) hab
 have e_SaveA_Turn : a.SaveA.Turn = b.SaveA.Turn := congrArg (fun d : ScrD => d.SaveA.Turn) hab
 have e_Tabs : a.Tabs.xs = b.Tabs.xs := congrArg (fun d : ScrD => d.Tabs) hab
 have e_Limit : a.Limit = b.Limit := congrArg (fun d : ScrD => d.Limit) hab
 have e_Back : a.Back.xs.map RowR.dat = b.Back.xs.map RowR.dat := congrArg (fun d : ScrD => d.Back) hab
 refine enter 106 Tryz.func212 rfl Tryz.ntmps212 rfl rfl ?_
 have hs1 := St.init w
 refine WC.sr (WL.bx hs1 rfl (fun b2 _ hs3 => WL.bx hs3 rfl (fun b4 _ hs5 => WL.r 1 hs5 [] rfl (WL.nil (WC.seq (fun K6 hK6 => WC.r1 hs5 [1, 0] rfl (WC.condF rfl (by simp [e_W, e_H, e_Main_W, e_Main_H, e_Alt_W, e_Alt_H, e_OnAlt, e_X, e_Y, e_Wrap, e_A_Fg, e_A_Bg, e_A_Bold, e_A_Under, e_A_Turn, e_Top, e_Bot, e_NoWrap, e_Hide, e_SaveX, e_SaveY, e_SaveA_Fg, e_SaveA_Bg, e_SaveA_Bold, e_SaveA_Under, e_SaveA_Turn, e_Limit]) ?_)))))))
 refine WC.skip (hK6 _ _ (WC.seq (fun K8 hK8 => WC.r1 hs5 [1, 0] rfl (WC.condF rfl (by simp [e_W, e_H, e_Main_W, e_Main_H, e_Alt_W, e_Alt_H, e_OnAlt, e_X, e_Y, e_Wrap, e_A_Fg, e_A_Bg, e_A_Bold, e_A_Under, e_A_Turn, e_Top, e_Bot, e_NoWrap, e_Hide, e_SaveX, e_SaveY, e_SaveA_Fg, e_SaveA_Bg, e_SaveA_Bold, e_SaveA_Under, e_SaveA_Turn, e_Limit]) (WC.skip (hK8 _ _ (WC.seq (fun K10 hK10 => ?_))))))))
 refine WC.sr (WL.r 4 hs5 [1, 0] rfl (WL.cl Tryz.call260 rfl (k65_ a.Main b.Main _ (okGridR.st0 f_a.Main hs5) (okGridR.st0 f_b.Main hs5) ?_) ?_))
 · first | assumption | rfl | omega
 rintro _ whs11 ⟨rfl, hs11⟩
 replace hs11 := hs5.call0 hs11
 refine ⟨_, rfl, WL.r 1 hs11 [] rfl (WL.nil (WC.condF rfl (by simp [e_W, e_H, e_Main_W, e_Main_H, e_Alt_W, e_Alt_H, e_OnAlt, e_X, e_Y, e_Wrap, e_A_Fg, e_A_Bg, e_A_Bold, e_A_Under, e_A_Turn, e_Top, e_Bot, e_NoWrap, e_Hide, e_SaveX, e_SaveY, e_SaveA_Fg, e_SaveA_Bg, e_SaveA_Bold, e_SaveA_Under, e_SaveA_Turn, e_Limit]) (WC.skip (hK10 _ _ (WC.seq (fun K13 hK13 => WC.sr ?_))))))⟩
 refine WL.r 4 hs11 [1, 0] rfl (WL.cl Tryz.call260 rfl (k65_ a.Alt b.Alt _ (okGridR.st0 f_a.Alt hs11) (okGridR.st0 f_b.Alt hs11) ?_) ?_)
 · first | assumption | rfl | omega
 rintro _ whs14 ⟨rfl, hs14⟩
 replace hs14 := hs11.call0 hs14
 refine ⟨_, rfl, WL.r 1 hs14 [] rfl (WL.nil (WC.condF rfl (by simp [e_W, e_H, e_Main_W, e_Main_H, e_Alt_W, e_Alt_H, e_OnAlt, e_X, e_Y, e_Wrap, e_A_Fg, e_A_Bg, e_A_Bold, e_A_Under, e_A_Turn, e_Top, e_Bot, e_NoWrap, e_Hide, e_SaveX, e_SaveY, e_SaveA_Fg, e_SaveA_Bg, e_SaveA_Bold, e_SaveA_Under, e_SaveA_Turn, e_Limit]) (WC.skip (hK13 _ _ (WC.seq (fun K16 hK16 => WC.r1 hs14 [1, 0] rfl ?_))))))⟩
 refine WC.condF rfl (by simp [e_W, e_H, e_Main_W, e_Main_H, e_Alt_W, e_Alt_H, e_OnAlt, e_X, e_Y, e_Wrap, e_A_Fg, e_A_Bg, e_A_Bold, e_A_Under, e_A_Turn, e_Top, e_Bot, e_NoWrap, e_Hide, e_SaveX, e_SaveY, e_SaveA_Fg, e_SaveA_Bg, e_SaveA_Bold, e_SaveA_Under, e_SaveA_Turn, e_Limit]) (WC.skip (hK16 _ _ (WC.seq (fun K18 hK18 => WC.r1 hs14 [1, 0] rfl (WC.condF rfl (by simp [e_W, e_H, e_Main_W, e_Main_H, e_Alt_W, e_Alt_H, e_OnAlt, e_X, e_Y, e_Wrap, e_A_Fg, e_A_Bg, e_A_Bold, e_A_Under, e_A_Turn, e_Top, e_Bot, e_NoWrap, e_Hide, e_SaveX, e_SaveY, e_SaveA_Fg, e_SaveA_Bg, e_SaveA_Bold, e_SaveA_Under, e_SaveA_Turn, e_Limit]) ?_)))))
 refine WC.skip (hK18 _ _ (WC.seq (fun K20 hK20 => WC.r1 hs14 [1, 0] rfl (WC.condF rfl (by simp [e_W, e_H, e_Main_W, e_Main_H, e_Alt_W, e_Alt_H, e_OnAlt, e_X, e_Y, e_Wrap, e_A_Fg, e_A_Bg, e_A_Bold, e_A_Under, e_A_Turn, e_Top, e_Bot, e_NoWrap, e_Hide, e_SaveX, e_SaveY, e_SaveA_Fg, e_SaveA_Bg, e_SaveA_Bold, e_SaveA_Under, e_SaveA_Turn, e_Limit]) (WC.skip (hK20 _ _ (WC.seq (fun K22 hK22 => ?_))))))))
 refine WC.r1 hs14 [1, 0] rfl (WC.condF rfl (by simp [e_W, e_H, e_Main_W, e_Main_H, e_Alt_W, e_Alt_H, e_OnAlt, e_X, e_Y, e_Wrap, e_A_Fg, e_A_Bg, e_A_Bold, e_A_Under, e_A_Turn, e_Top, e_Bot, e_NoWrap, e_Hide, e_SaveX, e_SaveY, e_SaveA_Fg, e_SaveA_Bg, e_SaveA_Bold, e_SaveA_Under, e_SaveA_Turn, e_Limit]) (WC.skip (hK22 _ _ (WC.seq (fun K24 hK24 => WC.sr (WL.r 4 hs14 [1, 0] rfl ?_))))))
 refine WL.cl Tryz.call261 rfl (k7_ _ _ _ _ _ _ _ _ _ _ _ ?_) ?_
 · first | assumption | rfl | omega
 rintro _ whs25 ⟨rfl, hs25⟩
 replace hs25 := hs14.call0 hs25
 refine ⟨_, rfl, WL.r 1 hs25 [] rfl (WL.nil (WC.condF rfl (by simp [e_W, e_H, e_Main_W, e_Main_H, e_Alt_W, e_Alt_H, e_OnAlt, e_X, e_Y, e_Wrap, e_A_Fg, e_A_Bg, e_A_Bold, e_A_Under, e_A_Turn, e_Top, e_Bot, e_NoWrap, e_Hide, e_SaveX, e_SaveY, e_SaveA_Fg, e_SaveA_Bg, e_SaveA_Bold, e_SaveA_Under, e_SaveA_Turn, e_Limit]) (WC.skip (hK24 _ _ (WC.seq (fun K27 hK27 => WC.r1 hs25 [1, 0] rfl ?_))))))⟩
 refine WC.condF rfl (by simp [e_W, e_H, e_Main_W, e_Main_H, e_Alt_W, e_Alt_H, e_OnAlt, e_X, e_Y, e_Wrap, e_A_Fg, e_A_Bg, e_A_Bold, e_A_Under, e_A_Turn, e_Top, e_Bot, e_NoWrap, e_Hide, e_SaveX, e_SaveY, e_SaveA_Fg, e_SaveA_Bg, e_SaveA_Bold, e_SaveA_Under, e_SaveA_Turn, e_Limit]) (WC.skip (hK27 _ _ (WC.seq (fun K29 hK29 => WC.r1 hs25 [1, 0] rfl (WC.condF rfl (by simp [e_W, e_H, e_Main_W, e_Main_H, e_Alt_W, e_Alt_H, e_OnAlt, e_X, e_Y, e_Wrap, e_A_Fg, e_A_Bg, e_A_Bold, e_A_Under, e_A_Turn, e_Top, e_Bot, e_NoWrap, e_Hide, e_SaveX, e_SaveY, e_SaveA_Fg, e_SaveA_Bg, e_SaveA_Bold, e_SaveA_Under, e_SaveA_Turn, e_Limit]) ?_)))))
 refine WC.skip (hK29 _ _ (WC.seq (fun K31 hK31 => WC.r1 hs25 [1, 0] rfl (WC.condF rfl (by simp [e_W, e_H, e_Main_W, e_Main_H, e_Alt_W, e_Alt_H, e_OnAlt, e_X, e_Y, e_Wrap, e_A_Fg, e_A_Bg, e_A_Bold, e_A_Under, e_A_Turn, e_Top, e_Bot, e_NoWrap, e_Hide, e_SaveX, e_SaveY, e_SaveA_Fg, e_SaveA_Bg, e_SaveA_Bold, e_SaveA_Under, e_SaveA_Turn, e_Limit]) (WC.skip (hK31 _ _ (WC.seq (fun K33 hK33 => ?_))))))))
 refine WC.r1 hs25 [1, 0] rfl (WC.condF rfl (by simp [e_W, e_H, e_Main_W, e_Main_H, e_Alt_W, e_Alt_H, e_OnAlt, e_X, e_Y, e_Wrap, e_A_Fg, e_A_Bg, e_A_Bold, e_A_Under, e_A_Turn, e_Top, e_Bot, e_NoWrap, e_Hide, e_SaveX, e_SaveY, e_SaveA_Fg, e_SaveA_Bg, e_SaveA_Bold, e_SaveA_Under, e_SaveA_Turn, e_Limit]) (WC.skip (hK33 _ _ (WC.seq (fun K35 hK35 => WC.r1 hs25 [1, 0] rfl (WC.condF rfl (by simp [e_W, e_H, e_Main_W, e_Main_H, e_Alt_W, e_Alt_H, e_OnAlt, e_X, e_Y, e_Wrap, e_A_Fg, e_A_Bg, e_A_Bold, e_A_Under, e_A_Turn, e_Top, e_Bot, e_NoWrap, e_Hide, e_SaveX, e_SaveY, e_SaveA_Fg, e_SaveA_Bg, e_SaveA_Bold, e_SaveA_Under, e_SaveA_Turn, e_Limit]) ?_))))))
 refine WC.skip (hK35 _ _ (WC.seq (fun K37 hK37 => WC.r1 hs25 [1, 0] rfl (WC.condF rfl (by simp [e_W, e_H, e_Main_W, e_Main_H, e_Alt_W, e_Alt_H, e_OnAlt, e_X, e_Y, e_Wrap, e_A_Fg, e_A_Bg, e_A_Bold, e_A_Under, e_A_Turn, e_Top, e_Bot, e_NoWrap, e_Hide, e_SaveX, e_SaveY, e_SaveA_Fg, e_SaveA_Bg, e_SaveA_Bold, e_SaveA_Under, e_SaveA_Turn, e_Limit]) (WC.skip (hK37 _ _ (WC.seq (fun K39 hK39 => ?_))))))))
 refine WC.sr (WL.r 4 hs25 [1, 0] rfl (WL.cl Tryz.call261 rfl (k7_ _ _ _ _ _ _ _ _ _ _ _ ?_) ?_))
 · first | assumption | rfl | omega
 rintro _ whs40 ⟨rfl, hs40⟩
 replace hs40 := hs25.call0 hs40
 refine ⟨_, rfl, WL.r 1 hs40 [] rfl (WL.nil (WC.condF rfl (by simp [e_W, e_H, e_Main_W, e_Main_H, e_Alt_W, e_Alt_H, e_OnAlt, e_X, e_Y, e_Wrap, e_A_Fg, e_A_Bg, e_A_Bold, e_A_Under, e_A_Turn, e_Top, e_Bot, e_NoWrap, e_Hide, e_SaveX, e_SaveY, e_SaveA_Fg, e_SaveA_Bg, e_SaveA_Bold, e_SaveA_Under, e_SaveA_Turn, e_Limit]) (WC.skip (hK39 _ _ (WC.seq (fun K42 hK42 => WC.sr ?_))))))⟩
 refine WL.r 4 hs40 [1, 0] rfl (WL.cl Tryz.call171 rfl (k12_ _ _ _ _ _ _ _ _ _ (SlF.st0 f_a.Tabs hs40) (SlF.st0 f_b.Tabs hs40) ?_ ?_) ?_)
 iterate 2 first | assumption | rfl | omega
 rintro _ whs43 ⟨rfl, hs43⟩
 replace hs43 := hs40.call0 hs43
 refine ⟨_, rfl, WL.r 1 hs43 [] rfl (WL.nil (WC.condF rfl (by simp [e_W, e_H, e_Main_W, e_Main_H, e_Alt_W, e_Alt_H, e_OnAlt, e_X, e_Y, e_Wrap, e_A_Fg, e_A_Bg, e_A_Bold, e_A_Under, e_A_Turn, e_Top, e_Bot, e_NoWrap, e_Hide, e_SaveX, e_SaveY, e_SaveA_Fg, e_SaveA_Bg, e_SaveA_Bold, e_SaveA_Under, e_SaveA_Turn, e_Limit]) (WC.skip (hK42 _ _ (WC.seq (fun K45 hK45 => WC.r1 hs43 [1, 0] rfl ?_))))))⟩
 refine WC.condF rfl (by simp [e_W, e_H, e_Main_W, e_Main_H, e_Alt_W, e_Alt_H, e_OnAlt, e_X, e_Y, e_Wrap, e_A_Fg, e_A_Bg, e_A_Bold, e_A_Under, e_A_Turn, e_Top, e_Bot, e_NoWrap, e_Hide, e_SaveX, e_SaveY, e_SaveA_Fg, e_SaveA_Bg, e_SaveA_Bold, e_SaveA_Under, e_SaveA_Turn, e_Limit]) (WC.skip (hK45 _ _ (WC.seq (fun K47 hK47 => WC.sr (WL.r 4 hs43 [1, 0] rfl ?_)))))
 refine WL.cl Tryz.call262 rfl (k68_ _ _ _ _ _ _ _ _ _ (SlN.st0 okRowR.st0 f_a.Back hs43) (SlN.st0 okRowR.st0 f_b.Back hs43) ?_ ?_) ?_
 iterate 2 first | assumption | rfl | omega
 rintro _ whs48 ⟨rfl, hs48⟩
 replace hs48 := hs43.call0 hs48
 refine ⟨_, rfl, WL.r 1 hs48 [] rfl (WL.nil (WC.condF rfl (by simp [e_W, e_H, e_Main_W, e_Main_H, e_Alt_W, e_Alt_H, e_OnAlt, e_X, e_Y, e_Wrap, e_A_Fg, e_A_Bg, e_A_Bold, e_A_Under, e_A_Turn, e_Top, e_Bot, e_NoWrap, e_Hide, e_SaveX, e_SaveY, e_SaveA_Fg, e_SaveA_Bg, e_SaveA_Bold, e_SaveA_Under, e_SaveA_Turn, e_Limit]) (WC.skip (hK47 _ _ (WC.r1 hs48 [] rfl (WC.ret ?_))))))⟩
 refine rtv rfl rfl hs48 ?_
 rfl
set_option maxHeartbeats 4000000 in
theorem k70_ (a : TermR) (b : TermR) (w : World) (f_a : okTermR 549755813888 w a) (f_b : okTermR 549755813888 w b) (hab : a.dat = b.dat) :
    Calls Tryz.prog 169 #[.agg #[i64 a.P.State, .bool a.P.Mark, .slice a.P.Args.A a.P.Args.n a.P.Args.c, .slice a.P.Part.A a.P.Part.n a.P.Part.c, i64 a.S.W, i64 a.S.H, i64 a.S.Main.W, i64 a.S.Main.H, .slice a.S.Main.Cells.A a.S.Main.Cells.n a.S.Main.Cells.c, i64 a.S.Alt.W, i64 a.S.Alt.H, .slice a.S.Alt.Cells.A a.S.Alt.Cells.n a.S.Alt.Cells.c, .bool a.S.OnAlt, i64 a.S.X, i64 a.S.Y, .bool a.S.Wrap, i64 a.S.A.Fg, i64 a.S.A.Bg, .bool a.S.A.Bold, .bool a.S.A.Under, .bool a.S.A.Turn, i64 a.S.Top, i64 a.S.Bot, .bool a.S.NoWrap, .bool a.S.Hide, i64 a.S.SaveX, i64 a.S.SaveY, i64 a.S.SaveA.Fg, i64 a.S.SaveA.Bg, .bool a.S.SaveA.Bold, .bool a.S.SaveA.Under, .bool a.S.SaveA.Turn, .slice a.S.Tabs.A a.S.Tabs.n a.S.Tabs.c, i64 a.S.Limit, .slice a.S.Back.A a.S.Back.n a.S.Back.c], .agg #[i64 b.P.State, .bool b.P.Mark, .slice b.P.Args.A b.P.Args.n b.P.Args.c, .slice b.P.Part.A b.P.Part.n b.P.Part.c, i64 b.S.W, i64 b.S.H, i64 b.S.Main.W, i64 b.S.Main.H, .slice b.S.Main.Cells.A b.S.Main.Cells.n b.S.Main.Cells.c, i64 b.S.Alt.W, i64 b.S.Alt.H, .slice b.S.Alt.Cells.A b.S.Alt.Cells.n b.S.Alt.Cells.c, .bool b.S.OnAlt, i64 b.S.X, i64 b.S.Y, .bool b.S.Wrap, i64 b.S.A.Fg, i64 b.S.A.Bg, .bool b.S.A.Bold, .bool b.S.A.Under, .bool b.S.A.Turn, i64 b.S.Top, i64 b.S.Bot, .bool b.S.NoWrap, .bool b.S.Hide, i64 b.S.SaveX, i64 b.S.SaveY, i64 b.S.SaveA.Fg, i64 b.S.SaveA.Bg, .bool b.S.SaveA.Bold, .bool b.S.SaveA.Under, .bool b.S.SaveA.Turn, .slice b.S.Tabs.A b.S.Tabs.n b.S.Tabs.c, i64 b.S.Limit, .slice b.S.Back.A b.S.Back.n b.S.Back.c]] w fun e w' => e = .returned (.bool true) ∧ St w [] [] w' := by
 have nb_a_P_Args := f_a.P.Args_n
 have nl_a_P_Args := f_a.P.Args.len
 have nb_a_P_Part := f_a.P.Part_n
 have nl_a_P_Part := f_a.P.Part.len
 have nb_a_S_Main_Cells := f_a.S.Main.Cells_n
 have nl_a_S_Main_Cells := f_a.S.Main.Cells.len
 have nb_a_S_Alt_Cells := f_a.S.Alt.Cells_n
 have nl_a_S_Alt_Cells := f_a.S.Alt.Cells.len
 have nb_a_S_Tabs := f_a.S.Tabs_n
 have nl_a_S_Tabs := f_a.S.Tabs.len
 have nb_a_S_Back := f_a.S.Back_n
 have nl_a_S_Back := f_a.S.Back.sl.len
 have nb_b_P_Args := f_b.P.Args_n
 have nl_b_P_Args := f_b.P.Args.len
 have nb_b_P_Part := f_b.P.Part_n
 have nl_b_P_Part := f_b.P.Part.len
 have nb_b_S_Main_Cells := f_b.S.Main.Cells_n
 have nl_b_S_Main_Cells := f_b.S.Main.Cells.len
 have nb_b_S_Alt_Cells := f_b.S.Alt.Cells_n
 have nl_b_S_Alt_Cells := f_b.S.Alt.Cells.len
 have nb_b_S_Tabs := f_b.S.Tabs_n
 have nl_b_S_Tabs := f_b.S.Tabs.len
 have nb_b_S_Back := f_b.S.Back_n
 have nl_b_S_Back := f_b.S.Back.sl.len
 have e_P : a.P.dat = b.P.dat := congrArg (fun d : TermD => d.P) hab
 have e_P_State : a.P.State = b.P.State := congrArg (fun d : TermD => d.P.State) hab
 have e_P_Mark : a.P.Mark = b.P.Mark := congrArg (fun d : TermD => d.P.Mark) hab
 have e_P_Args : a.P.Args.xs = b.P.Args.xs := congrArg (fun d : TermD => d.P.Args) hab
 have e_P_Part : a.P.Part.xs = b.P.Part.xs := congrArg (fun d : TermD => d.P.Part) hab
 have e_S : a.S.dat = b.S.dat := congrArg (fun d : TermD => d.S) hab
 have e_S_W : a.S.W = b.S.W := congrArg (fun d : TermD => d.S.W) hab
 have e_S_H : a.S.H = b.S.H := congrArg (fun d : TermD => d.S.H) hab
 have e_S_Main : a.S.Main.dat = b.S.Main.dat := congrArg (fun d : TermD => d.S.Main) hab
 have e_S_Main_W : a.S.Main.W = b.S.Main.W := congrArg (fun d : TermD => d.S.Main.W) hab
 have e_S_Main_H : a.S.Main.H = b.S.Main.H := congrArg (fun d : TermD => d.S.Main.H) hab
 have e_S_Main_Cells : a.S.Main.Cells.xs = b.S.Main.Cells.xs := congrArg (fun d : TermD => d.S.Main.Cells) hab
 have e_S_Alt : a.S.Alt.dat = b.S.Alt.dat := congrArg (fun d : TermD => d.S.Alt) hab
 have e_S_Alt_W : a.S.Alt.W = b.S.Alt.W := congrArg (fun d : TermD => d.S.Alt.W) hab
 have e_S_Alt_H : a.S.Alt.H = b.S.Alt.H := congrArg (fun d : TermD => d.S.Alt.H) hab
 have e_S_Alt_Cells : a.S.Alt.Cells.xs = b.S.Alt.Cells.xs := congrArg (fun d : TermD => d.S.Alt.Cells) hab
 have e_S_OnAlt : a.S.OnAlt = b.S.OnAlt := congrArg (fun d : TermD => d.S.OnAlt) hab
 have e_S_X : a.S.X = b.S.X := congrArg (fun d : TermD => d.S.X) hab
 have e_S_Y : a.S.Y = b.S.Y := congrArg (fun d : TermD => d.S.Y) hab
 have e_S_Wrap : a.S.Wrap = b.S.Wrap := congrArg (fun d : TermD => d.S.Wrap) hab
 have e_S_A : a.S.A = b.S.A := congrArg (fun d : TermD => d.S.A) hab
 have e_S_A_Fg : a.S.A.Fg = b.S.A.Fg := congrArg (fun d : TermD => d.S.A.Fg) hab
 have e_S_A_Bg : a.S.A.Bg = b.S.A.Bg := congrArg (fun d : TermD => d.S.A.Bg) hab
 have e_S_A_Bold : a.S.A.Bold = b.S.A.Bold := congrArg (fun d : TermD => d.S.A.Bold) hab
 have e_S_A_Under : a.S.A.Under = b.S.A.Under := congrArg (fun d : TermD => d.S.A.Under) hab
 have e_S_A_Turn : a.S.A.Turn = b.S.A.Turn := congrArg (fun d : TermD => d.S.A.Turn) hab
 have e_S_Top : a.S.Top = b.S.Top := congrArg (fun d : TermD => d.S.Top) hab
 have e_S_Bot : a.S.Bot = b.S.Bot := congrArg (fun d : TermD => d.S.Bot) hab
 have e_S_NoWrap : a.S.NoWrap = b.S.NoWrap := congrArg (fun d : TermD => d.S.NoWrap) hab
 have e_S_Hide : a.S.Hide = b.S.Hide := congrArg (fun d : TermD => d.S.Hide) hab
 have e_S_SaveX : a.S.SaveX = b.S.SaveX := congrArg (fun d : TermD => d.S.SaveX) hab
 have e_S_SaveY : a.S.SaveY = b.S.SaveY := congrArg (fun d : TermD => d.S.SaveY) hab
 have e_S_SaveA : a.S.SaveA = b.S.SaveA := congrArg (fun d : TermD => d.S.SaveA) hab
 have e_S_SaveA_Fg : a.S.SaveA.Fg = b.S.SaveA.Fg := congrArg (fun d : TermD => d.S.SaveA.Fg) hab
 have e_S_SaveA_Bg : a.S.SaveA.Bg = b.S.SaveA.Bg := congrArg (fun d : TermD => d.S.SaveA.Bg) hab
 have e_S_SaveA_Bold : a.S.SaveA.Bold = b.S.SaveA.Bold := congrArg (fun d : TermD => d.S.SaveA.Bold) hab
 have e_S_SaveA_Under : a.S.SaveA.Under = b.S.SaveA.Under := congrArg (fun d : TermD => d.S.SaveA.Under) hab
 have e_S_SaveA_Turn : a.S.SaveA.Turn = b.S.SaveA.Turn := congrArg (fun d : TermD => d.S.SaveA.Turn) hab
 have e_S_Tabs : a.S.Tabs.xs = b.S.Tabs.xs := congrArg (fun d : TermD => d.S.Tabs) hab
 have e_S_Limit : a.S.Limit = b.S.Limit := congrArg (fun d : TermD => d.S.Limit) hab
 have e_S_Back : a.S.Back.xs.map RowR.dat = b.S.Back.xs.map RowR.dat := congrArg (fun d : TermD => d.S.Back) hab
 refine enter 17 Tryz.func169 rfl Tryz.ntmps169 rfl rfl ?_
 have hs1 := St.init w
 refine WC.sr (WL.bx hs1 rfl (fun b2 _ hs3 => WL.bx hs3 rfl (fun b4 _ hs5 => WL.r 1 hs5 [] rfl (WL.nil (WC.seq (fun K6 hK6 => WC.sr (WL.r 4 hs5 [1, 0] rfl ?_)))))))
 refine WL.cl Tryz.call211 rfl (k66_ a.P b.P _ (okVpR.st0 f_a.P hs5) (okVpR.st0 f_b.P hs5) ?_) ?_
 · first | assumption | rfl | omega
 rintro _ whs7 ⟨rfl, hs7⟩
 replace hs7 := hs5.call0 hs7
 refine ⟨_, rfl, WL.r 1 hs7 [] rfl (WL.nil (WC.condF rfl (by simp [e_P_State, e_P_Mark, e_S_W, e_S_H, e_S_Main_W, e_S_Main_H, e_S_Alt_W, e_S_Alt_H, e_S_OnAlt, e_S_X, e_S_Y, e_S_Wrap, e_S_A_Fg, e_S_A_Bg, e_S_A_Bold, e_S_A_Under, e_S_A_Turn, e_S_Top, e_S_Bot, e_S_NoWrap, e_S_Hide, e_S_SaveX, e_S_SaveY, e_S_SaveA_Fg, e_S_SaveA_Bg, e_S_SaveA_Bold, e_S_SaveA_Under, e_S_SaveA_Turn, e_S_Limit]) (WC.skip (hK6 _ _ (WC.seq (fun K9 hK9 => WC.sr ?_))))))⟩
 refine WL.r 4 hs7 [1, 0] rfl (WL.cl Tryz.call212 rfl (k69_ a.S b.S _ (okScrR.st0 f_a.S hs7) (okScrR.st0 f_b.S hs7) ?_) ?_)
 · first | assumption | rfl | omega
 rintro _ whs10 ⟨rfl, hs10⟩
 replace hs10 := hs7.call0 hs10
 refine ⟨_, rfl, WL.r 1 hs10 [] rfl (WL.nil (WC.condF rfl (by simp [e_P_State, e_P_Mark, e_S_W, e_S_H, e_S_Main_W, e_S_Main_H, e_S_Alt_W, e_S_Alt_H, e_S_OnAlt, e_S_X, e_S_Y, e_S_Wrap, e_S_A_Fg, e_S_A_Bg, e_S_A_Bold, e_S_A_Under, e_S_A_Turn, e_S_Top, e_S_Bot, e_S_NoWrap, e_S_Hide, e_S_SaveX, e_S_SaveY, e_S_SaveA_Fg, e_S_SaveA_Bg, e_S_SaveA_Bold, e_S_SaveA_Under, e_S_SaveA_Turn, e_S_Limit]) (WC.skip (hK9 _ _ (WC.r1 hs10 [] rfl (WC.ret ?_))))))⟩
 refine rtv rfl rfl hs10 ?_
 rfl
set_option maxHeartbeats 4000000 in
theorem k71_ (a : PaneR) (b : PaneR) (w : World) (f_a : okPaneR 549755813888 w a) (f_b : okPaneR 549755813888 w b) (hab : a.dat = b.dat) :
    Calls Tryz.prog 108 #[.agg #[i64 a.Id, .string a.Cmd, .string a.Dir, i64 a.Life, i64 a.Code, i64 a.Pid, i64 a.Term.P.State, .bool a.Term.P.Mark, .slice a.Term.P.Args.A a.Term.P.Args.n a.Term.P.Args.c, .slice a.Term.P.Part.A a.Term.P.Part.n a.Term.P.Part.c, i64 a.Term.S.W, i64 a.Term.S.H, i64 a.Term.S.Main.W, i64 a.Term.S.Main.H, .slice a.Term.S.Main.Cells.A a.Term.S.Main.Cells.n a.Term.S.Main.Cells.c, i64 a.Term.S.Alt.W, i64 a.Term.S.Alt.H, .slice a.Term.S.Alt.Cells.A a.Term.S.Alt.Cells.n a.Term.S.Alt.Cells.c, .bool a.Term.S.OnAlt, i64 a.Term.S.X, i64 a.Term.S.Y, .bool a.Term.S.Wrap, i64 a.Term.S.A.Fg, i64 a.Term.S.A.Bg, .bool a.Term.S.A.Bold, .bool a.Term.S.A.Under, .bool a.Term.S.A.Turn, i64 a.Term.S.Top, i64 a.Term.S.Bot, .bool a.Term.S.NoWrap, .bool a.Term.S.Hide, i64 a.Term.S.SaveX, i64 a.Term.S.SaveY, i64 a.Term.S.SaveA.Fg, i64 a.Term.S.SaveA.Bg, .bool a.Term.S.SaveA.Bold, .bool a.Term.S.SaveA.Under, .bool a.Term.S.SaveA.Turn, .slice a.Term.S.Tabs.A a.Term.S.Tabs.n a.Term.S.Tabs.c, i64 a.Term.S.Limit, .slice a.Term.S.Back.A a.Term.S.Back.n a.Term.S.Back.c], .agg #[i64 b.Id, .string b.Cmd, .string b.Dir, i64 b.Life, i64 b.Code, i64 b.Pid, i64 b.Term.P.State, .bool b.Term.P.Mark, .slice b.Term.P.Args.A b.Term.P.Args.n b.Term.P.Args.c, .slice b.Term.P.Part.A b.Term.P.Part.n b.Term.P.Part.c, i64 b.Term.S.W, i64 b.Term.S.H, i64 b.Term.S.Main.W, i64 b.Term.S.Main.H, .slice b.Term.S.Main.Cells.A b.Term.S.Main.Cells.n b.Term.S.Main.Cells.c, i64 b.Term.S.Alt.W, i64 b.Term.S.Alt.H, .slice b.Term.S.Alt.Cells.A b.Term.S.Alt.Cells.n b.Term.S.Alt.Cells.c, .bool b.Term.S.OnAlt, i64 b.Term.S.X, i64 b.Term.S.Y, .bool b.Term.S.Wrap, i64 b.Term.S.A.Fg, i64 b.Term.S.A.Bg, .bool b.Term.S.A.Bold, .bool b.Term.S.A.Under, .bool b.Term.S.A.Turn, i64 b.Term.S.Top, i64 b.Term.S.Bot, .bool b.Term.S.NoWrap, .bool b.Term.S.Hide, i64 b.Term.S.SaveX, i64 b.Term.S.SaveY, i64 b.Term.S.SaveA.Fg, i64 b.Term.S.SaveA.Bg, .bool b.Term.S.SaveA.Bold, .bool b.Term.S.SaveA.Under, .bool b.Term.S.SaveA.Turn, .slice b.Term.S.Tabs.A b.Term.S.Tabs.n b.Term.S.Tabs.c, i64 b.Term.S.Limit, .slice b.Term.S.Back.A b.Term.S.Back.n b.Term.S.Back.c]] w fun e w' => e = .returned (.bool true) ∧ St w [] [] w' := by
 have nz_a_Cmd := f_a.Cmd_z
 have nz_a_Dir := f_a.Dir_z
 have nb_a_Term_P_Args := f_a.Term.P.Args_n
 have nl_a_Term_P_Args := f_a.Term.P.Args.len
 have nb_a_Term_P_Part := f_a.Term.P.Part_n
 have nl_a_Term_P_Part := f_a.Term.P.Part.len
 have nb_a_Term_S_Main_Cells := f_a.Term.S.Main.Cells_n
 have nl_a_Term_S_Main_Cells := f_a.Term.S.Main.Cells.len
 have nb_a_Term_S_Alt_Cells := f_a.Term.S.Alt.Cells_n
 have nl_a_Term_S_Alt_Cells := f_a.Term.S.Alt.Cells.len
 have nb_a_Term_S_Tabs := f_a.Term.S.Tabs_n
 have nl_a_Term_S_Tabs := f_a.Term.S.Tabs.len
 have nb_a_Term_S_Back := f_a.Term.S.Back_n
 have nl_a_Term_S_Back := f_a.Term.S.Back.sl.len
 have nz_b_Cmd := f_b.Cmd_z
 have nz_b_Dir := f_b.Dir_z
 have nb_b_Term_P_Args := f_b.Term.P.Args_n
 have nl_b_Term_P_Args := f_b.Term.P.Args.len
 have nb_b_Term_P_Part := f_b.Term.P.Part_n
 have nl_b_Term_P_Part := f_b.Term.P.Part.len
 have nb_b_Term_S_Main_Cells := f_b.Term.S.Main.Cells_n
 have nl_b_Term_S_Main_Cells := f_b.Term.S.Main.Cells.len
 have nb_b_Term_S_Alt_Cells := f_b.Term.S.Alt.Cells_n
 have nl_b_Term_S_Alt_Cells := f_b.Term.S.Alt.Cells.len
 have nb_b_Term_S_Tabs := f_b.Term.S.Tabs_n
 have nl_b_Term_S_Tabs := f_b.Term.S.Tabs.len
 have nb_b_Term_S_Back := f_b.Term.S.Back_n
 have nl_b_Term_S_Back := f_b.Term.S.Back.sl.len
 have e_Id : a.Id = b.Id := congrArg (fun d : PaneD => d.Id) hab
 have e_Cmd : a.Cmd = b.Cmd := congrArg (fun d : PaneD => d.Cmd) hab
 have e_Dir : a.Dir = b.Dir := congrArg (fun d : PaneD => d.Dir) hab
 have e_Life : a.Life = b.Life := congrArg (fun d : PaneD => d.Life) hab
 have e_Code : a.Code = b.Code := congrArg (fun d : PaneD => d.Code) hab
 have e_Pid : a.Pid = b.Pid := congrArg (fun d : PaneD => d.Pid) hab
 have e_Term : a.Term.dat = b.Term.dat := congrArg (fun d : PaneD => d.Term) hab
 have e_Term_P : a.Term.P.dat = b.Term.P.dat := congrArg (fun d : PaneD => d.Term.P) hab
 have e_Term_P_State : a.Term.P.State = b.Term.P.State := congrArg (fun d : PaneD => d.Term.P.State) hab
 have e_Term_P_Mark : a.Term.P.Mark = b.Term.P.Mark := congrArg (fun d : PaneD => d.Term.P.Mark) hab
 have e_Term_P_Args : a.Term.P.Args.xs = b.Term.P.Args.xs := congrArg (fun d : PaneD => d.Term.P.Args) hab
 have e_Term_P_Part : a.Term.P.Part.xs = b.Term.P.Part.xs := congrArg (fun d : PaneD => d.Term.P.Part) hab
 have e_Term_S : a.Term.S.dat = b.Term.S.dat := congrArg (fun d : PaneD => d.Term.S) hab
 have e_Term_S_W : a.Term.S.W = b.Term.S.W := congrArg (fun d : PaneD => d.Term.S.W) hab
 have e_Term_S_H : a.Term.S.H = b.Term.S.H := congrArg (fun d : PaneD => d.Term.S.H) hab
 have e_Term_S_Main : a.Term.S.Main.dat = b.Term.S.Main.dat := congrArg (fun d : PaneD => d.Term.S.Main) hab
 have e_Term_S_Main_W : a.Term.S.Main.W = b.Term.S.Main.W := congrArg (fun d : PaneD => d.Term.S.Main.W) hab
 have e_Term_S_Main_H : a.Term.S.Main.H = b.Term.S.Main.H := congrArg (fun d : PaneD => d.Term.S.Main.H) hab
 have e_Term_S_Main_Cells : a.Term.S.Main.Cells.xs = b.Term.S.Main.Cells.xs := congrArg (fun d : PaneD => d.Term.S.Main.Cells) hab
 have e_Term_S_Alt : a.Term.S.Alt.dat = b.Term.S.Alt.dat := congrArg (fun d : PaneD => d.Term.S.Alt) hab
 have e_Term_S_Alt_W : a.Term.S.Alt.W = b.Term.S.Alt.W := congrArg (fun d : PaneD => d.Term.S.Alt.W) hab
 have e_Term_S_Alt_H : a.Term.S.Alt.H = b.Term.S.Alt.H := congrArg (fun d : PaneD => d.Term.S.Alt.H) hab
 have e_Term_S_Alt_Cells : a.Term.S.Alt.Cells.xs = b.Term.S.Alt.Cells.xs := congrArg (fun d : PaneD => d.Term.S.Alt.Cells) hab
 have e_Term_S_OnAlt : a.Term.S.OnAlt = b.Term.S.OnAlt := congrArg (fun d : PaneD => d.Term.S.OnAlt) hab
 have e_Term_S_X : a.Term.S.X = b.Term.S.X := congrArg (fun d : PaneD => d.Term.S.X) hab
 have e_Term_S_Y : a.Term.S.Y = b.Term.S.Y := congrArg (fun d : PaneD => d.Term.S.Y) hab
 have e_Term_S_Wrap : a.Term.S.Wrap = b.Term.S.Wrap := congrArg (fun d : PaneD => d.Term.S.Wrap) hab
 have e_Term_S_A : a.Term.S.A = b.Term.S.A := congrArg (fun d : PaneD => d.Term.S.A) hab
 have e_Term_S_A_Fg : a.Term.S.A.Fg = b.Term.S.A.Fg := congrArg (fun d : PaneD => d.Term.S.A.Fg) hab
 have e_Term_S_A_Bg : a.Term.S.A.Bg = b.Term.S.A.Bg := congrArg (fun d : PaneD => d.Term.S.A.Bg) hab
 have e_Term_S_A_Bold : a.Term.S.A.Bold = b.Term.S.A.Bold := congrArg (fun d : PaneD => d.Term.S.A.Bold) hab
 have e_Term_S_A_Under : a.Term.S.A.Under = b.Term.S.A.Under := congrArg (fun d : PaneD => d.Term.S.A.Under) hab
 have e_Term_S_A_Turn : a.Term.S.A.Turn = b.Term.S.A.Turn := congrArg (fun d : PaneD => d.Term.S.A.Turn) hab
 have e_Term_S_Top : a.Term.S.Top = b.Term.S.Top := congrArg (fun d : PaneD => d.Term.S.Top) hab
 have e_Term_S_Bot : a.Term.S.Bot = b.Term.S.Bot := congrArg (fun d : PaneD => d.Term.S.Bot) hab
 have e_Term_S_NoWrap : a.Term.S.NoWrap = b.Term.S.NoWrap := congrArg (fun d : PaneD => d.Term.S.NoWrap) hab
 have e_Term_S_Hide : a.Term.S.Hide = b.Term.S.Hide := congrArg (fun d : PaneD => d.Term.S.Hide) hab
 have e_Term_S_SaveX : a.Term.S.SaveX = b.Term.S.SaveX := congrArg (fun d : PaneD => d.Term.S.SaveX) hab
 have e_Term_S_SaveY : a.Term.S.SaveY = b.Term.S.SaveY := congrArg (fun d : PaneD => d.Term.S.SaveY) hab
 have e_Term_S_SaveA : a.Term.S.SaveA = b.Term.S.SaveA := congrArg (fun d : PaneD => d.Term.S.SaveA) hab
 have e_Term_S_SaveA_Fg : a.Term.S.SaveA.Fg = b.Term.S.SaveA.Fg := congrArg (fun d : PaneD => d.Term.S.SaveA.Fg) hab
 have e_Term_S_SaveA_Bg : a.Term.S.SaveA.Bg = b.Term.S.SaveA.Bg := congrArg (fun d : PaneD => d.Term.S.SaveA.Bg) hab
 have e_Term_S_SaveA_Bold : a.Term.S.SaveA.Bold = b.Term.S.SaveA.Bold := congrArg (fun d : PaneD => d.Term.S.SaveA.Bold) hab
 have e_Term_S_SaveA_Under : a.Term.S.SaveA.Under = b.Term.S.SaveA.Under := congrArg (fun d : PaneD => d.Term.S.SaveA.Under) hab
 have e_Term_S_SaveA_Turn : a.Term.S.SaveA.Turn = b.Term.S.SaveA.Turn := congrArg (fun d : PaneD => d.Term.S.SaveA.Turn) hab
 have e_Term_S_Tabs : a.Term.S.Tabs.xs = b.Term.S.Tabs.xs := congrArg (fun d : PaneD => d.Term.S.Tabs) hab
 have e_Term_S_Limit : a.Term.S.Limit = b.Term.S.Limit := congrArg (fun d : PaneD => d.Term.S.Limit) hab
 have e_Term_S_Back : a.Term.S.Back.xs.map RowR.dat = b.Term.S.Back.xs.map RowR.dat := congrArg (fun d : PaneD => d.Term.S.Back) hab
 refine enter 41 Tryz.func108 rfl Tryz.ntmps108 rfl rfl ?_
 have hs1 := St.init w
 refine WC.sr (WL.bx hs1 rfl (fun b2 _ hs3 => WL.bx hs3 rfl (fun b4 _ hs5 => WL.r 1 hs5 [] rfl (WL.nil (WC.seq (fun K6 hK6 => WC.r1 hs5 [1, 0] rfl (WC.condF rfl (by simp [e_Id, e_Cmd, e_Dir, e_Life, e_Code, e_Pid, e_Term_P_State, e_Term_P_Mark, e_Term_S_W, e_Term_S_H, e_Term_S_Main_W, e_Term_S_Main_H, e_Term_S_Alt_W, e_Term_S_Alt_H, e_Term_S_OnAlt, e_Term_S_X, e_Term_S_Y, e_Term_S_Wrap, e_Term_S_A_Fg, e_Term_S_A_Bg, e_Term_S_A_Bold, e_Term_S_A_Under, e_Term_S_A_Turn, e_Term_S_Top, e_Term_S_Bot, e_Term_S_NoWrap, e_Term_S_Hide, e_Term_S_SaveX, e_Term_S_SaveY, e_Term_S_SaveA_Fg, e_Term_S_SaveA_Bg, e_Term_S_SaveA_Bold, e_Term_S_SaveA_Under, e_Term_S_SaveA_Turn, e_Term_S_Limit]) ?_)))))))
 refine WC.skip (hK6 _ _ (WC.seq (fun K8 hK8 => WC.r1 hs5 [1, 0] rfl (WC.condF rfl (by simp [e_Id, e_Cmd, e_Dir, e_Life, e_Code, e_Pid, e_Term_P_State, e_Term_P_Mark, e_Term_S_W, e_Term_S_H, e_Term_S_Main_W, e_Term_S_Main_H, e_Term_S_Alt_W, e_Term_S_Alt_H, e_Term_S_OnAlt, e_Term_S_X, e_Term_S_Y, e_Term_S_Wrap, e_Term_S_A_Fg, e_Term_S_A_Bg, e_Term_S_A_Bold, e_Term_S_A_Under, e_Term_S_A_Turn, e_Term_S_Top, e_Term_S_Bot, e_Term_S_NoWrap, e_Term_S_Hide, e_Term_S_SaveX, e_Term_S_SaveY, e_Term_S_SaveA_Fg, e_Term_S_SaveA_Bg, e_Term_S_SaveA_Bold, e_Term_S_SaveA_Under, e_Term_S_SaveA_Turn, e_Term_S_Limit]) ?_))))
 refine WC.skip (hK8 _ _ (WC.seq (fun K10 hK10 => WC.r1 hs5 [1, 0] rfl (WC.condF rfl (by simp [e_Id, e_Cmd, e_Dir, e_Life, e_Code, e_Pid, e_Term_P_State, e_Term_P_Mark, e_Term_S_W, e_Term_S_H, e_Term_S_Main_W, e_Term_S_Main_H, e_Term_S_Alt_W, e_Term_S_Alt_H, e_Term_S_OnAlt, e_Term_S_X, e_Term_S_Y, e_Term_S_Wrap, e_Term_S_A_Fg, e_Term_S_A_Bg, e_Term_S_A_Bold, e_Term_S_A_Under, e_Term_S_A_Turn, e_Term_S_Top, e_Term_S_Bot, e_Term_S_NoWrap, e_Term_S_Hide, e_Term_S_SaveX, e_Term_S_SaveY, e_Term_S_SaveA_Fg, e_Term_S_SaveA_Bg, e_Term_S_SaveA_Bold, e_Term_S_SaveA_Under, e_Term_S_SaveA_Turn, e_Term_S_Limit]) ?_))))
 refine WC.skip (hK10 _ _ (WC.seq (fun K12 hK12 => WC.r1 hs5 [1, 0] rfl (WC.condF rfl (by simp [e_Id, e_Cmd, e_Dir, e_Life, e_Code, e_Pid, e_Term_P_State, e_Term_P_Mark, e_Term_S_W, e_Term_S_H, e_Term_S_Main_W, e_Term_S_Main_H, e_Term_S_Alt_W, e_Term_S_Alt_H, e_Term_S_OnAlt, e_Term_S_X, e_Term_S_Y, e_Term_S_Wrap, e_Term_S_A_Fg, e_Term_S_A_Bg, e_Term_S_A_Bold, e_Term_S_A_Under, e_Term_S_A_Turn, e_Term_S_Top, e_Term_S_Bot, e_Term_S_NoWrap, e_Term_S_Hide, e_Term_S_SaveX, e_Term_S_SaveY, e_Term_S_SaveA_Fg, e_Term_S_SaveA_Bg, e_Term_S_SaveA_Bold, e_Term_S_SaveA_Under, e_Term_S_SaveA_Turn, e_Term_S_Limit]) ?_))))
 refine WC.skip (hK12 _ _ (WC.seq (fun K14 hK14 => WC.r1 hs5 [1, 0] rfl (WC.condF rfl (by simp [e_Id, e_Cmd, e_Dir, e_Life, e_Code, e_Pid, e_Term_P_State, e_Term_P_Mark, e_Term_S_W, e_Term_S_H, e_Term_S_Main_W, e_Term_S_Main_H, e_Term_S_Alt_W, e_Term_S_Alt_H, e_Term_S_OnAlt, e_Term_S_X, e_Term_S_Y, e_Term_S_Wrap, e_Term_S_A_Fg, e_Term_S_A_Bg, e_Term_S_A_Bold, e_Term_S_A_Under, e_Term_S_A_Turn, e_Term_S_Top, e_Term_S_Bot, e_Term_S_NoWrap, e_Term_S_Hide, e_Term_S_SaveX, e_Term_S_SaveY, e_Term_S_SaveA_Fg, e_Term_S_SaveA_Bg, e_Term_S_SaveA_Bold, e_Term_S_SaveA_Under, e_Term_S_SaveA_Turn, e_Term_S_Limit]) ?_))))
 refine WC.skip (hK14 _ _ (WC.seq (fun K16 hK16 => WC.r1 hs5 [1, 0] rfl (WC.condF rfl (by simp [e_Id, e_Cmd, e_Dir, e_Life, e_Code, e_Pid, e_Term_P_State, e_Term_P_Mark, e_Term_S_W, e_Term_S_H, e_Term_S_Main_W, e_Term_S_Main_H, e_Term_S_Alt_W, e_Term_S_Alt_H, e_Term_S_OnAlt, e_Term_S_X, e_Term_S_Y, e_Term_S_Wrap, e_Term_S_A_Fg, e_Term_S_A_Bg, e_Term_S_A_Bold, e_Term_S_A_Under, e_Term_S_A_Turn, e_Term_S_Top, e_Term_S_Bot, e_Term_S_NoWrap, e_Term_S_Hide, e_Term_S_SaveX, e_Term_S_SaveY, e_Term_S_SaveA_Fg, e_Term_S_SaveA_Bg, e_Term_S_SaveA_Bold, e_Term_S_SaveA_Under, e_Term_S_SaveA_Turn, e_Term_S_Limit]) ?_))))
 refine WC.skip (hK16 _ _ (WC.seq (fun K18 hK18 => WC.sr (WL.r 4 hs5 [1, 0] rfl ?_))))
 refine WL.cl Tryz.call169 rfl (k70_ a.Term b.Term _ (okTermR.st0 f_a.Term hs5) (okTermR.st0 f_b.Term hs5) ?_) ?_
 · first | assumption | rfl | omega
 rintro _ whs19 ⟨rfl, hs19⟩
 replace hs19 := hs5.call0 hs19
 refine ⟨_, rfl, WL.r 1 hs19 [] rfl (WL.nil (WC.condF rfl (by simp [e_Id, e_Cmd, e_Dir, e_Life, e_Code, e_Pid, e_Term_P_State, e_Term_P_Mark, e_Term_S_W, e_Term_S_H, e_Term_S_Main_W, e_Term_S_Main_H, e_Term_S_Alt_W, e_Term_S_Alt_H, e_Term_S_OnAlt, e_Term_S_X, e_Term_S_Y, e_Term_S_Wrap, e_Term_S_A_Fg, e_Term_S_A_Bg, e_Term_S_A_Bold, e_Term_S_A_Under, e_Term_S_A_Turn, e_Term_S_Top, e_Term_S_Bot, e_Term_S_NoWrap, e_Term_S_Hide, e_Term_S_SaveX, e_Term_S_SaveY, e_Term_S_SaveA_Fg, e_Term_S_SaveA_Bg, e_Term_S_SaveA_Bold, e_Term_S_SaveA_Under, e_Term_S_SaveA_Turn, e_Term_S_Limit]) (WC.skip (hK18 _ _ ?_))))⟩
 refine WC.r1 hs19 [] rfl (WC.ret (rtv rfl rfl hs19 ?_))
 rfl
set_option maxHeartbeats 4000000 in
theorem k72_ (a : WinR) (b : WinR) (w : World) (f_a : okWinR 549755813888 w a) (f_b : okWinR 549755813888 w b) (hab : a.dat = b.dat) :
    Calls Tryz.prog 109 #[.agg #[i64 a.Id, .string a.Name, .slice a.Tree.A a.Tree.n a.Tree.c, i64 a.Active, .bool a.Zoom], .agg #[i64 b.Id, .string b.Name, .slice b.Tree.A b.Tree.n b.Tree.c, i64 b.Active, .bool b.Zoom]] w fun e w' => e = .returned (.bool true) ∧ St w [] [] w' := by
 have nz_a_Name := f_a.Name_z
 have nb_a_Tree := f_a.Tree_n
 have nl_a_Tree := f_a.Tree.len
 have nz_b_Name := f_b.Name_z
 have nb_b_Tree := f_b.Tree_n
 have nl_b_Tree := f_b.Tree.len
 have e_Id : a.Id = b.Id := congrArg (fun d : WinD => d.Id) hab
 have e_Name : a.Name = b.Name := congrArg (fun d : WinD => d.Name) hab
 have e_Tree : a.Tree.xs = b.Tree.xs := congrArg (fun d : WinD => d.Tree) hab
 have e_Active : a.Active = b.Active := congrArg (fun d : WinD => d.Active) hab
 have e_Zoom : a.Zoom = b.Zoom := congrArg (fun d : WinD => d.Zoom) hab
 refine enter 31 Tryz.func109 rfl Tryz.ntmps109 rfl rfl ?_
 have hs1 := St.init w
 refine WC.sr (WL.bx hs1 rfl (fun b2 _ hs3 => WL.bx hs3 rfl (fun b4 _ hs5 => WL.r 1 hs5 [] rfl (WL.nil (WC.seq (fun K6 hK6 => WC.r1 hs5 [1, 0] rfl (WC.condF rfl (by simp [e_Id, e_Name, e_Active, e_Zoom]) ?_)))))))
 refine WC.skip (hK6 _ _ (WC.seq (fun K8 hK8 => WC.r1 hs5 [1, 0] rfl (WC.condF rfl (by simp [e_Id, e_Name, e_Active, e_Zoom]) (WC.skip (hK8 _ _ (WC.seq (fun K10 hK10 => ?_))))))))
 refine WC.sr (WL.r 4 hs5 [1, 0] rfl (WL.cl Tryz.call170 rfl (k19_ _ _ _ _ _ _ _ _ _ (SlF.st0 f_a.Tree hs5) (SlF.st0 f_b.Tree hs5) ?_ ?_) ?_))
 iterate 2 first | assumption | rfl | omega
 rintro _ whs11 ⟨rfl, hs11⟩
 replace hs11 := hs5.call0 hs11
 refine ⟨_, rfl, WL.r 1 hs11 [] rfl (WL.nil (WC.condF rfl (by simp [e_Id, e_Name, e_Active, e_Zoom]) (WC.skip (hK10 _ _ (WC.seq (fun K13 hK13 => WC.r1 hs11 [1, 0] rfl ?_))))))⟩
 refine WC.condF rfl (by simp [e_Id, e_Name, e_Active, e_Zoom]) (WC.skip (hK13 _ _ (WC.seq (fun K15 hK15 => WC.r1 hs11 [1, 0] rfl (WC.condF rfl (by simp [e_Id, e_Name, e_Active, e_Zoom]) (WC.skip (hK15 _ _ ?_)))))))
 refine WC.r1 hs11 [] rfl (WC.ret (rtv rfl rfl hs11 ?_))
 rfl
set_option maxHeartbeats 4000000 in
theorem k73_ (a : SessR) (b : SessR) (w : World) (f_a : okSessR 549755813888 w a) (f_b : okSessR 549755813888 w b) (hab : a.dat = b.dat) :
    Calls Tryz.prog 110 #[.agg #[.string a.Name, .slice a.Wins.A a.Wins.n a.Wins.c, i64 a.Active], .agg #[.string b.Name, .slice b.Wins.A b.Wins.n b.Wins.c, i64 b.Active]] w fun e w' => e = .returned (.bool true) ∧ St w [] [] w' := by
 have nz_a_Name := f_a.Name_z
 have nb_a_Wins := f_a.Wins_n
 have nl_a_Wins := f_a.Wins.len
 have nz_b_Name := f_b.Name_z
 have nb_b_Wins := f_b.Wins_n
 have nl_b_Wins := f_b.Wins.len
 have e_Name : a.Name = b.Name := congrArg (fun d : SessD => d.Name) hab
 have e_Wins : a.Wins.xs = b.Wins.xs := congrArg (fun d : SessD => d.Wins) hab
 have e_Active : a.Active = b.Active := congrArg (fun d : SessD => d.Active) hab
 refine enter 21 Tryz.func110 rfl Tryz.ntmps110 rfl rfl ?_
 have hs1 := St.init w
 refine WC.sr (WL.bx hs1 rfl (fun b2 _ hs3 => WL.bx hs3 rfl (fun b4 _ hs5 => WL.r 1 hs5 [] rfl (WL.nil (WC.seq (fun K6 hK6 => WC.r1 hs5 [1, 0] rfl (WC.condF rfl (by simp [e_Name, e_Active]) ?_)))))))
 refine WC.skip (hK6 _ _ (WC.seq (fun K8 hK8 => WC.sr (WL.r 4 hs5 [1, 0] rfl ?_))))
 refine WL.cl Tryz.call171 rfl (k12_ _ _ _ _ _ _ _ _ _ (SlF.st0 f_a.Wins hs5) (SlF.st0 f_b.Wins hs5) ?_ ?_) ?_
 iterate 2 first | assumption | rfl | omega
 rintro _ whs9 ⟨rfl, hs9⟩
 replace hs9 := hs5.call0 hs9
 refine ⟨_, rfl, WL.r 1 hs9 [] rfl (WL.nil (WC.condF rfl (by simp [e_Name, e_Active]) (WC.skip (hK8 _ _ (WC.seq (fun K11 hK11 => WC.r1 hs9 [1, 0] rfl ?_))))))⟩
 refine WC.condF rfl (by simp [e_Name, e_Active]) (WC.skip (hK11 _ _ (WC.r1 hs9 [] rfl (WC.ret (rtv rfl rfl hs9 ?_)))))
 rfl
theorem k74_ (A_a : Option Addr) (n_a c_a : Nat) (a : List PaneR) (A_b : Option Addr) (n_b c_b : Nat) (b : List PaneR) (w : World) (f_a : SlN encPaneR (okPaneR 549755813888) w A_a n_a a) (f_b : SlN encPaneR (okPaneR 549755813888) w A_b n_b b) (hn : n_a ≤ 549755813888) (hab : a.map PaneR.dat = b.map PaneR.dat) :
    Calls Tryz.prog 48 #[.slice A_a n_a c_a, .slice A_b n_b c_b] w fun e w' => e = .returned (.bool true) ∧ St w [] [] w' := by
 have hla := f_a.sl.len
 obtain rfl : n_a = n_b := by have h9 := congrArg List.length hab; simp only [List.length_map] at h9; rw [← hla, h9]; exact f_b.sl.len
 refine enter 27 Tryz.func48 rfl Tryz.ntmps48 rfl rfl ?_
 have hs1 := St.init w
 refine WC.r1 hs1 [] rfl (WC.seq (fun K2 hK2 => WC.r1 hs1 [] rfl (WC.condF rfl (by simp) (WC.skip (hK2 _ _ (WC.seq (fun K4 hK4 => WC.r1 hs1 [] rfl ?_)))))))
 refine WC.block (WC.lS [0, 1, 10] rfl hs1 (fun k_ f w' => ∃ (i : Nat), k_ = n_a - i ∧ (i ≤ n_a) ∧ Sub [(5, .int .i64 i)] f) ((fun (i : Nat) => n_a - i) (0)) ?_ ?_)
 ·refine ⟨0, rfl, ?_, ⟨rfl, trivial⟩⟩
  · exact Nat.zero_le _
 clear hs1
 rintro _ f w ⟨i, rfl, p0, hG⟩ hF hs5
 refine WC.sub _ (hG.app hF) ?_
 clear hG hF
 refine WC.seq (fun K6 hK6 => WC.r1 hs5 [] rfl ?_)
 refine WC.cD rfl (fun qh7 => ?_) (fun qh7 => ?_)
 ·have hab_ := gat_dat (F := encPaneR) (i := i) hab (by omega)
  refine WC.skip (hK6 _ _ (WC.seq (fun K8 hK8 => WC.block (WC.sq1 hs5 (WQ.r 2 [] rfl ?_)))))
  refine WQ.val rfl rfl rfl (fun w_ hs_ => (Run.idxN Tryz.runUnderlying29 Tryz.sizeOf93 rfl rfl rfl ?_ ?_ ?_)) ?_
  · exact SlF.some_ (SlF.st0 f_a.sl (hs_ : St _ _ _ _))
  · omega
  · omega
  refine WQ.val rfl rfl rfl (fun w_ hs_ => (Run.loadA Tryz.isAgg93 Tryz.sizeOf93 rfl rfl (SlF.whole (SlF.st0 f_a.sl (hs_ : St _ _ _ _)) ?_))) ?_
  · omega
  refine WQ.r 2 [] rfl ?_
  refine WQ.val rfl rfl rfl (fun w_ hs_ => (Run.idxN Tryz.runUnderlying29 Tryz.sizeOf93 rfl rfl rfl ?_ ?_ ?_)) ?_
  · exact SlF.some_ (SlF.st0 f_b.sl (hs_ : St _ _ _ _))
  · omega
  · omega
  refine WQ.val rfl rfl rfl (fun w_ hs_ => (Run.loadA Tryz.isAgg93 Tryz.sizeOf93 rfl rfl (SlF.whole (SlF.st0 f_b.sl (hs_ : St _ _ _ _)) ?_))) ?_
  · omega
  refine WQ.call rfl rfl rfl (fun w_ hs_ => (Run.call Tryz.call108 rfl rfl rfl)) (fun w_ hs_ => (k71_ (gat encPaneR a i) (gat encPaneR b i) _ (okPaneR.st0 (SlN.nth f_a (by omega)) (hs_ : St _ _ _ _)) (okPaneR.st0 (SlN.nth f_b (by omega)) (hs_ : St _ _ _ _)) ?_).mono fun e_ w_ h_ => ⟨h_.1, (hs_ : St _ _ _ _).call0 h_.2⟩) ?_
  · first | assumption | rfl | omega
  refine WQ.r 1 [] rfl (WQ.nil (fun _ (hs9 : St _ _ _ _) => WC.condF rfl (by simp) (WC.skip (hK8 _ _ (WC.region (WL.r 3 hs9 [] rfl (WL.nil ?_)))))))
  refine tkN (⟨sbF rfl, hs9, _, ?_, i + 1, rfl, ?_, ⟨rfl, trivial⟩⟩)
  · omega
  · omega
 refine WC.exit (hK4 _ _ (WC.r1 hs5 [] rfl (WC.ret (rtv rfl rfl hs5 ?_))))
 rfl
theorem k75_ (A_a : Option Addr) (n_a c_a : Nat) (a : List WinR) (A_b : Option Addr) (n_b c_b : Nat) (b : List WinR) (w : World) (f_a : SlN encWinR (okWinR 549755813888) w A_a n_a a) (f_b : SlN encWinR (okWinR 549755813888) w A_b n_b b) (hn : n_a ≤ 549755813888) (hab : a.map WinR.dat = b.map WinR.dat) :
    Calls Tryz.prog 49 #[.slice A_a n_a c_a, .slice A_b n_b c_b] w fun e w' => e = .returned (.bool true) ∧ St w [] [] w' := by
 have hla := f_a.sl.len
 obtain rfl : n_a = n_b := by have h9 := congrArg List.length hab; simp only [List.length_map] at h9; rw [← hla, h9]; exact f_b.sl.len
 refine enter 27 Tryz.func49 rfl Tryz.ntmps49 rfl rfl ?_
 have hs1 := St.init w
 refine WC.r1 hs1 [] rfl (WC.seq (fun K2 hK2 => WC.r1 hs1 [] rfl (WC.condF rfl (by simp) (WC.skip (hK2 _ _ (WC.seq (fun K4 hK4 => WC.r1 hs1 [] rfl ?_)))))))
 refine WC.block (WC.lS [0, 1, 10] rfl hs1 (fun k_ f w' => ∃ (i : Nat), k_ = n_a - i ∧ (i ≤ n_a) ∧ Sub [(5, .int .i64 i)] f) ((fun (i : Nat) => n_a - i) (0)) ?_ ?_)
 ·refine ⟨0, rfl, ?_, ⟨rfl, trivial⟩⟩
  · exact Nat.zero_le _
 clear hs1
 rintro _ f w ⟨i, rfl, p0, hG⟩ hF hs5
 refine WC.sub _ (hG.app hF) ?_
 clear hG hF
 refine WC.seq (fun K6 hK6 => WC.r1 hs5 [] rfl ?_)
 refine WC.cD rfl (fun qh7 => ?_) (fun qh7 => ?_)
 ·have hab_ := gat_dat (F := encWinR) (i := i) hab (by omega)
  refine WC.skip (hK6 _ _ (WC.seq (fun K8 hK8 => WC.block (WC.sq1 hs5 (WQ.r 2 [] rfl ?_)))))
  refine WQ.val rfl rfl rfl (fun w_ hs_ => (Run.idxN Tryz.runUnderlying30 Tryz.sizeOf58 rfl rfl rfl ?_ ?_ ?_)) ?_
  · exact SlF.some_ (SlF.st0 f_a.sl (hs_ : St _ _ _ _))
  · omega
  · omega
  refine WQ.val rfl rfl rfl (fun w_ hs_ => (Run.loadA Tryz.isAgg58 Tryz.sizeOf58 rfl rfl (SlF.whole (SlF.st0 f_a.sl (hs_ : St _ _ _ _)) ?_))) ?_
  · omega
  refine WQ.r 2 [] rfl ?_
  refine WQ.val rfl rfl rfl (fun w_ hs_ => (Run.idxN Tryz.runUnderlying30 Tryz.sizeOf58 rfl rfl rfl ?_ ?_ ?_)) ?_
  · exact SlF.some_ (SlF.st0 f_b.sl (hs_ : St _ _ _ _))
  · omega
  · omega
  refine WQ.val rfl rfl rfl (fun w_ hs_ => (Run.loadA Tryz.isAgg58 Tryz.sizeOf58 rfl rfl (SlF.whole (SlF.st0 f_b.sl (hs_ : St _ _ _ _)) ?_))) ?_
  · omega
  refine WQ.call rfl rfl rfl (fun w_ hs_ => (Run.call Tryz.call109 rfl rfl rfl)) (fun w_ hs_ => (k72_ (gat encWinR a i) (gat encWinR b i) _ (okWinR.st0 (SlN.nth f_a (by omega)) (hs_ : St _ _ _ _)) (okWinR.st0 (SlN.nth f_b (by omega)) (hs_ : St _ _ _ _)) ?_).mono fun e_ w_ h_ => ⟨h_.1, (hs_ : St _ _ _ _).call0 h_.2⟩) ?_
  · first | assumption | rfl | omega
  refine WQ.r 1 [] rfl (WQ.nil (fun _ (hs9 : St _ _ _ _) => WC.condF rfl (by simp) (WC.skip (hK8 _ _ (WC.region (WL.r 3 hs9 [] rfl (WL.nil ?_)))))))
  refine tkN (⟨sbF rfl, hs9, _, ?_, i + 1, rfl, ?_, ⟨rfl, trivial⟩⟩)
  · omega
  · omega
 refine WC.exit (hK4 _ _ (WC.r1 hs5 [] rfl (WC.ret (rtv rfl rfl hs5 ?_))))
 rfl
theorem k76_ (A_a : Option Addr) (n_a c_a : Nat) (a : List SessR) (A_b : Option Addr) (n_b c_b : Nat) (b : List SessR) (w : World) (f_a : SlN encSessR (okSessR 549755813888) w A_a n_a a) (f_b : SlN encSessR (okSessR 549755813888) w A_b n_b b) (hn : n_a ≤ 549755813888) (hab : a.map SessR.dat = b.map SessR.dat) :
    Calls Tryz.prog 50 #[.slice A_a n_a c_a, .slice A_b n_b c_b] w fun e w' => e = .returned (.bool true) ∧ St w [] [] w' := by
 have hla := f_a.sl.len
 obtain rfl : n_a = n_b := by have h9 := congrArg List.length hab; simp only [List.length_map] at h9; rw [← hla, h9]; exact f_b.sl.len
 refine enter 27 Tryz.func50 rfl Tryz.ntmps50 rfl rfl ?_
 have hs1 := St.init w
 refine WC.r1 hs1 [] rfl (WC.seq (fun K2 hK2 => WC.r1 hs1 [] rfl (WC.condF rfl (by simp) (WC.skip (hK2 _ _ (WC.seq (fun K4 hK4 => WC.r1 hs1 [] rfl ?_)))))))
 refine WC.block (WC.lS [0, 1, 10] rfl hs1 (fun k_ f w' => ∃ (i : Nat), k_ = n_a - i ∧ (i ≤ n_a) ∧ Sub [(5, .int .i64 i)] f) ((fun (i : Nat) => n_a - i) (0)) ?_ ?_)
 ·refine ⟨0, rfl, ?_, ⟨rfl, trivial⟩⟩
  · exact Nat.zero_le _
 clear hs1
 rintro _ f w ⟨i, rfl, p0, hG⟩ hF hs5
 refine WC.sub _ (hG.app hF) ?_
 clear hG hF
 refine WC.seq (fun K6 hK6 => WC.r1 hs5 [] rfl ?_)
 refine WC.cD rfl (fun qh7 => ?_) (fun qh7 => ?_)
 ·have hab_ := gat_dat (F := encSessR) (i := i) hab (by omega)
  refine WC.skip (hK6 _ _ (WC.seq (fun K8 hK8 => WC.block (WC.sq1 hs5 (WQ.r 2 [] rfl ?_)))))
  refine WQ.val rfl rfl rfl (fun w_ hs_ => (Run.idxN Tryz.runUnderlying31 Tryz.sizeOf106 rfl rfl rfl ?_ ?_ ?_)) ?_
  · exact SlF.some_ (SlF.st0 f_a.sl (hs_ : St _ _ _ _))
  · omega
  · omega
  refine WQ.val rfl rfl rfl (fun w_ hs_ => (Run.loadA Tryz.isAgg106 Tryz.sizeOf106 rfl rfl (SlF.whole (SlF.st0 f_a.sl (hs_ : St _ _ _ _)) ?_))) ?_
  · omega
  refine WQ.r 2 [] rfl ?_
  refine WQ.val rfl rfl rfl (fun w_ hs_ => (Run.idxN Tryz.runUnderlying31 Tryz.sizeOf106 rfl rfl rfl ?_ ?_ ?_)) ?_
  · exact SlF.some_ (SlF.st0 f_b.sl (hs_ : St _ _ _ _))
  · omega
  · omega
  refine WQ.val rfl rfl rfl (fun w_ hs_ => (Run.loadA Tryz.isAgg106 Tryz.sizeOf106 rfl rfl (SlF.whole (SlF.st0 f_b.sl (hs_ : St _ _ _ _)) ?_))) ?_
  · omega
  refine WQ.call rfl rfl rfl (fun w_ hs_ => (Run.call Tryz.call110 rfl rfl rfl)) (fun w_ hs_ => (k73_ (gat encSessR a i) (gat encSessR b i) _ (okSessR.st0 (SlN.nth f_a (by omega)) (hs_ : St _ _ _ _)) (okSessR.st0 (SlN.nth f_b (by omega)) (hs_ : St _ _ _ _)) ?_).mono fun e_ w_ h_ => ⟨h_.1, (hs_ : St _ _ _ _).call0 h_.2⟩) ?_
  · first | assumption | rfl | omega
  refine WQ.r 1 [] rfl (WQ.nil (fun _ (hs9 : St _ _ _ _) => WC.condF rfl (by simp) (WC.skip (hK8 _ _ (WC.region (WL.r 3 hs9 [] rfl (WL.nil ?_)))))))
  refine tkN (⟨sbF rfl, hs9, _, ?_, i + 1, rfl, ?_, ⟨rfl, trivial⟩⟩)
  · omega
  · omega
 refine WC.exit (hK4 _ _ (WC.r1 hs5 [] rfl (WC.ret (rtv rfl rfl hs5 ?_))))
 rfl
set_option maxHeartbeats 4000000 in
theorem k77_ (a : StateR) (b : StateR) (w : World) (f_a : okStateR 549755813888 w a) (f_b : okStateR 549755813888 w b) (hab : a.dat = b.dat) :
    Calls Tryz.prog 15 #[.agg #[i64 a.W, i64 a.H, i64 a.Limit, i64 a.Next, .slice a.Panes.A a.Panes.n a.Panes.c, .slice a.Wins.A a.Wins.n a.Wins.c, .slice a.Sess.A a.Sess.n a.Sess.c], .agg #[i64 b.W, i64 b.H, i64 b.Limit, i64 b.Next, .slice b.Panes.A b.Panes.n b.Panes.c, .slice b.Wins.A b.Wins.n b.Wins.c, .slice b.Sess.A b.Sess.n b.Sess.c]] w fun e w' => e = .returned (.bool true) ∧ St w [] [] w' := by
 have nb_a_Panes := f_a.Panes_n
 have nl_a_Panes := f_a.Panes.sl.len
 have nb_a_Wins := f_a.Wins_n
 have nl_a_Wins := f_a.Wins.sl.len
 have nb_a_Sess := f_a.Sess_n
 have nl_a_Sess := f_a.Sess.sl.len
 have nb_b_Panes := f_b.Panes_n
 have nl_b_Panes := f_b.Panes.sl.len
 have nb_b_Wins := f_b.Wins_n
 have nl_b_Wins := f_b.Wins.sl.len
 have nb_b_Sess := f_b.Sess_n
 have nl_b_Sess := f_b.Sess.sl.len
 have e_W : a.W = b.W := congrArg (fun d : StateD => d.W) hab
 have e_H : a.H = b.H := congrArg (fun d : StateD => d.H) hab
 have e_Limit : a.Limit = b.Limit := congrArg (fun d : StateD => d.Limit) hab
 have e_Next : a.Next = b.Next := congrArg (fun d : StateD => d.Next) hab
 have e_Panes : a.Panes.xs.map PaneR.dat = b.Panes.xs.map PaneR.dat := congrArg (fun d : StateD => d.Panes) hab
 have e_Wins : a.Wins.xs.map WinR.dat = b.Wins.xs.map WinR.dat := congrArg (fun d : StateD => d.Wins) hab
 have e_Sess : a.Sess.xs.map SessR.dat = b.Sess.xs.map SessR.dat := congrArg (fun d : StateD => d.Sess) hab
 refine enter 43 Tryz.func15 rfl Tryz.ntmps15 rfl rfl ?_
 have hs1 := St.init w
 refine WC.sr (WL.bx hs1 rfl (fun b2 _ hs3 => WL.bx hs3 rfl (fun b4 _ hs5 => WL.r 1 hs5 [] rfl (WL.nil (WC.seq (fun K6 hK6 => WC.r1 hs5 [1, 0] rfl (WC.condF rfl (by simp [e_W, e_H, e_Limit, e_Next]) ?_)))))))
 refine WC.skip (hK6 _ _ (WC.seq (fun K8 hK8 => WC.r1 hs5 [1, 0] rfl (WC.condF rfl (by simp [e_W, e_H, e_Limit, e_Next]) (WC.skip (hK8 _ _ (WC.seq (fun K10 hK10 => ?_))))))))
 refine WC.r1 hs5 [1, 0] rfl (WC.condF rfl (by simp [e_W, e_H, e_Limit, e_Next]) (WC.skip (hK10 _ _ (WC.seq (fun K12 hK12 => WC.r1 hs5 [1, 0] rfl (WC.condF rfl (by simp [e_W, e_H, e_Limit, e_Next]) (WC.skip ?_)))))))
 refine hK12 _ _ (WC.seq (fun K14 hK14 => WC.sr (WL.r 4 hs5 [1, 0] rfl ?_)))
 refine WL.cl Tryz.call48 rfl (k74_ _ _ _ _ _ _ _ _ _ (SlN.st0 okPaneR.st0 f_a.Panes hs5) (SlN.st0 okPaneR.st0 f_b.Panes hs5) ?_ ?_) ?_
 iterate 2 first | assumption | rfl | omega
 rintro _ whs15 ⟨rfl, hs15⟩
 replace hs15 := hs5.call0 hs15
 refine ⟨_, rfl, WL.r 1 hs15 [] rfl (WL.nil (WC.condF rfl (by simp [e_W, e_H, e_Limit, e_Next]) (WC.skip (hK14 _ _ (WC.seq (fun K17 hK17 => WC.sr ?_))))))⟩
 refine WL.r 4 hs15 [1, 0] rfl (WL.cl Tryz.call49 rfl (k75_ _ _ _ _ _ _ _ _ _ (SlN.st0 okWinR.st0 f_a.Wins hs15) (SlN.st0 okWinR.st0 f_b.Wins hs15) ?_ ?_) ?_)
 iterate 2 first | assumption | rfl | omega
 rintro _ whs18 ⟨rfl, hs18⟩
 replace hs18 := hs15.call0 hs18
 refine ⟨_, rfl, WL.r 1 hs18 [] rfl (WL.nil (WC.condF rfl (by simp [e_W, e_H, e_Limit, e_Next]) (WC.skip (hK17 _ _ (WC.seq (fun K20 hK20 => WC.sr ?_))))))⟩
 refine WL.r 4 hs18 [1, 0] rfl (WL.cl Tryz.call50 rfl (k76_ _ _ _ _ _ _ _ _ _ (SlN.st0 okSessR.st0 f_a.Sess hs18) (SlN.st0 okSessR.st0 f_b.Sess hs18) ?_ ?_) ?_)
 iterate 2 first | assumption | rfl | omega
 rintro _ whs21 ⟨rfl, hs21⟩
 replace hs21 := hs18.call0 hs21
 refine ⟨_, rfl, WL.r 1 hs21 [] rfl (WL.nil (WC.condF rfl (by simp [e_W, e_H, e_Limit, e_Next]) (WC.skip (hK20 _ _ (WC.r1 hs21 [] rfl (WC.ret ?_))))))⟩
 refine rtv rfl rfl hs21 ?_
 rfl
set_option maxHeartbeats 8000000 in
theorem k78_ (aS : StateR) (p : Int) (w : World) (f_aS : okStateR 9223372036854775807 w aS) :
    Calls Tryz.prog 3 #[.agg #[i64 aS.W, i64 aS.H, i64 aS.Limit, i64 aS.Next, .slice aS.Panes.A aS.Panes.n aS.Panes.c, .slice aS.Wins.A aS.Wins.n aS.Wins.c, .slice aS.Sess.A aS.Sess.n aS.Sess.c], i64 p] w fun e w' => e = .returned (.bool true) ∧ St w [] [] w' := by
 have nb_aS_Panes := f_aS.Panes_n
 have nl_aS_Panes := f_aS.Panes.sl.len
 have nb_aS_Wins := f_aS.Wins_n
 have nl_aS_Wins := f_aS.Wins.sl.len
 have nb_aS_Sess := f_aS.Sess_n
 have nl_aS_Sess := f_aS.Sess.sl.len
 refine enter 31 Tryz.func3 rfl Tryz.ntmps3 rfl rfl ?_
 have hs1 := St.init w
 refine WC.sr (WL.bx hs1 rfl (fun b2 _ hs3 => WL.r 1 hs3 [] rfl (WL.nil (WC.r1 hs3 [] rfl (WC.sr (WL.r 2 hs3 [0] rfl ?_))))))
 refine WL.cl Tryz.call11 rfl (k63_ aS _ _ (okStateR.st0 f_aS hs3) ?_ ?_) ?_
 · first | assumption | omega | (simp only [endState]; first | done | assumption | omega)
 · first | assumption | omega | exact szR_b (by assumption) (by omega) (by first | assumption | omega) | (simp only [endState]; first | done | assumption | omega)
 rintro _ whs4 ⟨rfl, hs4⟩
 replace hs4 := hs3.call0 hs4
 refine ⟨_, rfl, WL.r 1 hs4 [] rfl (WL.nil (WC.seq (fun K5 hK5 => WC.r1 hs4 [] rfl ?_)))⟩
 refine WC.cD rfl (fun qh6 => ?_) (fun qh6 => ?_)
 ·refine WC.r1 hs4 [] rfl (WC.ret (tkR ?_))
  clear hK5
  refine rtv rfl rfl hs4 ?_
  rfl
 simp only [szR] at qh6
 have hb_aS : totState aS.dat ≤ 1048576 := by split at qh6 <;> omega
 have hsm_aS : smState 1048576 aS.dat := totState_sm hb_aS
 have hsB_aS : smState 549755813888 aS.dat := totState_sm (by omega)
 have f_aS := f_aS.to hsB_aS
 refine WC.skip (hK5 _ _ (WC.sr (WL.r 1 hs4 [0] rfl (WL.cl Tryz.call13 rfl (k64_ aS _ (okStateR.st0 f_aS hs4)) ?_))))
 rintro _ whs7 ⟨r8, L1_9, rfl, hs7, ho10, hd11⟩
 replace hs7 := hs4.callF hs7
 refine ⟨_, rfl, ?_⟩
 replace hs7 := St.back [_] hs7
 refine WL.r 1 hs7 [] rfl ?_
 refine WL.cl Tryz.call12 rfl (k50_ r8 _ _ (ownStateR.ok (B := 549755813888) ho10 (hs7.ow L1_9) (by rw [hd11]; assumption)) ?_) ?_
 · first | assumption | rfl | omega | (simp only [hd11, endState]; first | done | assumption | omega)
 rintro _ whs12 ⟨rfl, hs12⟩
 replace hs12 := hs7.call0 hs12
 refine ⟨_, rfl, WL.r 1 hs12 [] rfl (WL.nil (WC.sr (WL.r 1 hs12 [0] rfl (WL.cl Tryz.call13 rfl (k64_ aS _ (okStateR.st0 f_aS hs12)) ?_))))⟩
 rintro _ whs13 ⟨r14, L1_15, rfl, hs13, ho16, hd17⟩
 try simp only [hd11] at hd17
 replace hs13 := hs12.callF hs13
 refine ⟨_, rfl, ?_⟩
 replace hs13 := St.back [_] hs13
 refine WL.al hs13 Tryz.zeroValue33 rfl rfl (fun b18 _ hs19 => WL.st tbk hs19 0 rfl rfl (fun _ hs20 => WL.nil (WC.sr (WL.r 2 hs20 [0] rfl ?_))))
 refine WL.cl Tryz.call14 rfl (k49_ r14 _ _ (ownStateR.ok (B := 549755813888) ho16 (hs20.ow L1_15) (by rw [hd17]; assumption)) ?_) ?_
 · first | assumption | rfl | omega | (simp only [hd11, hd17, endState]; first | done | assumption | omega)
 rintro _ whs21 ⟨rfl, hs21⟩
 replace hs21 := hs20.call0 hs21
 refine ⟨_, rfl, WL.r 1 hs21 [] rfl (WL.nil (WC.seq (fun K22 hK22 => WC.r1 hs21 [] rfl ?_)))⟩
 refine WC.condF rfl (by first | (simp; done) | (simp; omega) | (simp [hd11, hd17]; done) | (simp [hd11, hd17]; omega) | (simp only [endState]; simp; omega)) (WC.skip (hK22 _ _ (WC.seq (fun K24 hK24 => WC.seq (fun K25 hK25 => WC.rH hs21 hs21 (fun _ hs26 => ?_))))))
 refine WH.rn [0, 1] hs26 [0, 1] rfl rfl (WH.o1 2 rfl (WL.cl Tryz.call13 rfl (k64_ aS _ (okStateR.st0 f_aS hs26)) ?_))
 rintro _ whs27 ⟨r28, L1_29, rfl, hs27, ho30, hd31⟩
 try simp only [hd11, hd17] at hd31
 replace hs27 := hs26.callF hs27
 refine ⟨_, rfl, ?_⟩
 replace hs27 := St.back [_, _] hs27
 refine WL.nil ⟨(hs27.rm L1_29), WH.o1 3 rfl ?_⟩
 refine WL.cl Tryz.call15 rfl (k77_ r14 r28 _ (ownStateR.ok (B := 549755813888) ho16 (hs27.ow L1_15) (by rw [hd17]; assumption)) (ownStateR.ok (B := 549755813888) ho30 (hs27.ow L1_29) (by rw [hd31]; assumption)) ?_) ?_
 · first | assumption | rfl | omega | (simp only [hd11, hd17, hd31, endState]; first | done | assumption | omega)
 rintro _ whs32 ⟨rfl, hs32⟩
 replace hs32 := hs27.call0 hs32
 refine ⟨_, rfl, WL.nil ⟨(hs32.rm L1_29), WH.rn [4] (hs32.rm L1_29) [] rfl rfl (WH.dn (hK25 _ _ ?_))⟩⟩
 refine WC.condF rfl (by first | (simp; done) | (simp; omega) | (simp [hd11, hd17, hd31]; done) | (simp [hd11, hd17, hd31]; omega) | (simp only [endState]; simp; omega)) (WC.skip (hK24 _ _ (WC.r1 hs32 [] rfl (WC.ret (rtv rfl rfl hs32 ?_)))))
 rfl
open Go Go.RowKit Go.ChangeShapes Go.WideShapes Go.ChangeAt Go.Deep
theorem list_succ {n : Nat} {l : List Value} (h : l.length = n + 1) : ∃ c r, l = c :: r ∧ r.length = n := by
 cases l with
 | nil => simp at h
 | cons c r => exact ⟨c, r, rfl, by simpa using h⟩
theorem list_zero {l : List Value} (h : l.length = 0) : l = [] := List.eq_nil_of_length_eq_zero h
section
variable {H : Type} {enc : TypeId × Value → H} {P : Program} {w : World} {base : Nat} {spare : Nat → Bool} {held : Bool} {fuel : Nat} {t e : TypeId} {cs : List Value} {x : DataW H × List MemPlace}
theorem trod_flds {fs : Array Field} (ht : P.underlying t = some (.struct fs)) (h : DataW.trod enc P w base spare held fuel t cs = some x) :
  cs.length = P.cellsOf t ∧ ∃ n, ∀ (i : Nat) (f : Field), fs.toList[i]? = some f → ∃ y, DataW.trod enc P w base spare held n f.type ((cs.drop f.offset).take (P.cellsOf f.type)) = some y := by
 obtain ⟨xs, n, _, _, hl, hlen, hg⟩ := DataW.trod_struct ht h
 refine ⟨hl, n, fun i f hf => ?_⟩
 have hf' : fs[i]? = some f := by simpa using hf
 have hi : i < xs.length := by rw [hlen]; exact (Array.getElem?_eq_some_iff.1 hf').1
 exact ⟨xs[i], (hg i f hf').trans (List.getElem?_eq_getElem hi)⟩
theorem open_i64 (ht : P.underlying t = some (.int .i64)) (h : DataW.trod enc P w base spare held fuel t cs = some x) : ∃ n, cs = [i64 n] ∧ In64 n := by
 obtain ⟨n, rfl, _, hw⟩ := DataW.trod_int ht h
 refine ⟨n, rfl, ?_⟩
 simp [Lit.wf, IntKind.min, IntKind.max, IntKind.signed, IntKind.bits] at hw
 exact hw
theorem open_str (ht : P.underlying t = some .string) (h : DataW.trod enc P w base spare held fuel t cs = some x) : ∃ s, cs = [.string s] ∧ s.size ≤ 9223372036854775807 := by
 obtain ⟨s, rfl, _, hw⟩ := DataW.trod_string ht h
 exact ⟨s, rfl, by simpa [maxLen] using hw⟩
theorem open_bool' (ht : P.underlying t = some .bool) (h : DataW.trod enc P w base spare held fuel t cs = some x) : ∃ b, cs = [.bool b] := by
 obtain ⟨b, rfl, _⟩ := DataW.trod_bool ht h
 exact ⟨b, rfl⟩
theorem open_SlF {α : Type} {F : Enc α} {good : α → Prop} (ht : P.underlying t = some (.slice e)) (hc : P.cellsOf e = F.sz)
  (hE : ∀ n cs' y, DataW.trod enc P w base spare held n e cs' = some y → ∃ d, cs' = F.enc d ∧ good d) (h : DataW.trod enc P w base spare held fuel t cs = some x) :
  ∃ A n c xs, cs = [.slice A n c] ∧ SlF F w A n xs ∧ n ≤ 9223372036854775807 ∧ ∀ d, d ∈ xs → good d := by
 rcases open_slice ht h with ⟨rfl, _⟩ | ⟨a, l, c, m, n, D, Pl, rfl, _, hl, hm, hmm, _, hx⟩
 ·exact ⟨none, 0, 0, [], rfl, ⟨rfl, SlR.nil _ _ _⟩, by omega, fun z h => by cases h⟩
 ·have hlm : l ≤ m := by rw [hmm]; split <;> omega
  have : Inhabited α := ⟨F.dflt⟩
  have each : ∀ i, i < l → ∃ d : α, good d ∧ ∀ r, r < F.sz → w.cell? (a.add (i * F.sz + r)) = (F.enc d)[r]? := by
   intro i hi
   obtain ⟨cs', h1, h2⟩ := hx i (by omega)
   obtain ⟨d, rfl, hg⟩ := hE _ _ _ h2
   obtain ⟨_, _, h3⟩ := World.cells?_some h1
   refine ⟨d, hg, fun r hr => ?_⟩
   have := h3 r (by rw [hc]; exact hr)
   rw [← this, hc]
   congr 1
   rw [Addr.add_add']
  obtain ⟨d, hd⟩ := choose_lt each
  have hlen : ((List.range l).map d).length = l := by simp
  refine ⟨some a, l, c, (List.range l).map d, rfl, ⟨hlen, ⟨by rw [rows_len, hlen], fun _ => rfl, fun j v hv => ?_⟩⟩, by simp only [maxLen] at hm; omega, fun z hz => ?_⟩
  ·have hj := (List.getElem?_eq_some_iff.1 hv).1
   rw [rows_len, hlen] at hj
   have hp := F.pos
   have hi : j / F.sz < l := Nat.div_lt_of_lt_mul (by rw [Nat.mul_comm]; exact hj)
   have hr : j % F.sz < F.sz := Nat.mod_lt _ hp
   have ej : j / F.sz * F.sz + j % F.sz = j := by rw [Nat.mul_comm]; exact Nat.div_add_mod _ _
   have e1 := (hd (j / F.sz) hi).2 (j % F.sz) hr
   rw [ej] at e1
   show w.cell? (a.add j) = some v
   rw [e1, ← hv]
   have e2 := rows_get (F := F) (xs := (List.range l).map d) (k := j / F.sz) (by rw [hlen]; exact hi) hr
   rw [ej] at e2
   rw [e2]
   have e3 : gat F ((List.range l).map d) (j / F.sz) = d (j / F.sz) := by
    have := gat_get (F := F) (xs := (List.range l).map d) (k := j / F.sz) (by rw [hlen]; exact hi)
    rw [List.getElem?_map, List.getElem?_range hi] at this
    exact (Option.some.inj this).symm
   rw [e3]
  ·obtain ⟨i, hi, rfl⟩ := List.mem_map.1 hz
   exact (hd i (by simpa using hi)).1
theorem open_u8 (ht : P.underlying t = some (.int .u8)) (h : DataW.trod enc P w base spare held fuel t cs = some x) : ∃ b : UInt8, cs = encB.enc b ∧ True := by
 obtain ⟨n, rfl, _, hw⟩ := DataW.trod_int ht h
 simp [Lit.wf, IntKind.min, IntKind.max, IntKind.signed, IntKind.bits] at hw
 refine ⟨UInt8.ofNat n.toNat, ?_, trivial⟩
 show [Value.int .u8 n] = [Value.int .u8 (UInt8.ofNat n.toNat).toNat]
 congr 2
 rw [UInt8.toNat_ofNat']
 omega
theorem open_e64 (ht : P.underlying t = some (.int .i64)) (h : DataW.trod enc P w base spare held fuel t cs = some x) : ∃ n : Int, cs = encI.enc n ∧ In64 n := open_i64 ht h
theorem open_SlE {α : Type} {F : Enc α} {good : α → Prop} (ht : P.underlying t = some (.slice e)) (hc : P.cellsOf e = F.sz)
  (hE : ∀ n cs' y, DataW.trod enc P w base spare held n e cs' = some y → ∃ d, cs' = F.enc d ∧ good d) (h : DataW.trod enc P w base spare held fuel t cs = some x) :
  ∃ A n c xs, cs = [.slice A n c] ∧ SlF F w A n xs ∧ n ≤ c ∧ n ≤ 9223372036854775807 ∧ ∀ d, d ∈ xs → good d := by
 obtain ⟨A, n, c, xs, e1, f, hn, hg⟩ := open_SlF ht hc hE h
 refine ⟨A, n, c, xs, e1, f, ?_, hn, hg⟩
 rcases open_slice ht h with ⟨e2, _⟩ | ⟨a, l, c', m, n', D, Pl, e2, _, hl, _⟩
 ·rw [e1] at e2
  cases e2
  exact Nat.le_refl _
 ·rw [e1] at e2
  cases e2
  exact hl
end
theorem cells_3 : Tryz.prog.cellsOf 3 = 1 := by kernel_rfl
theorem cells_4 : Tryz.prog.cellsOf 4 = 1 := by kernel_rfl
theorem cells_5 : Tryz.prog.cellsOf 5 = 1 := by kernel_rfl
theorem cells_44 : Tryz.prog.cellsOf 44 = 1 := by kernel_rfl
theorem cells_60 : Tryz.prog.cellsOf 60 = 1 := by kernel_rfl
theorem cells_132 : Tryz.prog.cellsOf 132 = 4 := by kernel_rfl
theorem open_VpR {H : Type} {enc : TypeId × Value → H} {w : World} {base : Nat} {spare : Nat → Bool} {held : Bool} {fuel : Nat} {cs : List Value} {x : DataW H × List MemPlace} (h : DataW.trod enc Tryz.prog w base spare held fuel 132 cs = some x) : ∃ d, cs = encVpR.enc d ∧ okVpR 9223372036854775807 w d := by
  obtain ⟨hl, n, hg⟩ := trod_flds Tryz.underlying132 h
  rw [cells_132] at hl
  obtain ⟨c0, l0, rfl, z0⟩ := list_succ hl
  obtain ⟨c1, l1, rfl, z1⟩ := list_succ z0
  obtain ⟨c2, l2, rfl, z2⟩ := list_succ z1
  obtain ⟨c3, l3, rfl, z3⟩ := list_succ z2
  obtain rfl := list_zero z3
  obtain ⟨y0, g0⟩ := hg 0 _ rfl
  rw [show Tryz.prog.cellsOf _ = 1 from cells_3] at g0
  replace g0 : DataW.trod _ _ _ _ _ _ _ 3 [c0] = _ := g0
  obtain ⟨x0, e0, w0⟩ := open_i64 Tryz.underlying3 g0
  obtain ⟨y1, g1⟩ := hg 1 _ rfl
  rw [show Tryz.prog.cellsOf _ = 1 from cells_4] at g1
  replace g1 : DataW.trod _ _ _ _ _ _ _ 4 [c1] = _ := g1
  obtain ⟨x1, e1⟩ := open_bool' Tryz.underlying4 g1
  obtain ⟨y2, g2⟩ := hg 2 _ rfl
  rw [show Tryz.prog.cellsOf _ = 1 from cells_60] at g2
  replace g2 : DataW.trod _ _ _ _ _ _ _ 60 [c2] = _ := g2
  obtain ⟨A2, n2, k2, x2, e2, f2, hc2, hn2, hg2⟩ := open_SlE (F := encI) (good := fun n => In64 n) Tryz.underlying60 cells_3 (fun _ _ _ h_ => open_e64 Tryz.underlying3 h_) g2
  obtain ⟨y3, g3⟩ := hg 3 _ rfl
  rw [show Tryz.prog.cellsOf _ = 1 from cells_44] at g3
  replace g3 : DataW.trod _ _ _ _ _ _ _ 44 [c3] = _ := g3
  obtain ⟨A3, n3, k3, x3, e3, f3, hc3, hn3, hg3⟩ := open_SlE (F := encB) (good := fun _ => True) Tryz.underlying44 cells_5 (fun _ _ _ h_ => open_u8 Tryz.underlying5 h_) g3
  cases e0
  cases e1
  cases e2
  cases e3
  exact ⟨⟨x0, x1, ⟨A2, n2, k2, x2⟩, ⟨A3, n3, k3, x3⟩⟩, rfl, ⟨f2, hc2, hn2, f3, hc3, hn3⟩⟩
theorem cells_136 : Tryz.prog.cellsOf 136 = 5 := by kernel_rfl
def goodAttr (d : AttrD) : Prop := In64 d.Fg ∧ In64 d.Bg
theorem open_Attr {H : Type} {enc : TypeId × Value → H} {w : World} {base : Nat} {spare : Nat → Bool} {held : Bool} {fuel : Nat} {cs : List Value} {x : DataW H × List MemPlace} (h : DataW.trod enc Tryz.prog w base spare held fuel 136 cs = some x) : ∃ d, cs = encAttr.enc d ∧ goodAttr d := by
  obtain ⟨hl, n, hg⟩ := trod_flds Tryz.underlying136 h
  rw [cells_136] at hl
  obtain ⟨c0, l0, rfl, z0⟩ := list_succ hl
  obtain ⟨c1, l1, rfl, z1⟩ := list_succ z0
  obtain ⟨c2, l2, rfl, z2⟩ := list_succ z1
  obtain ⟨c3, l3, rfl, z3⟩ := list_succ z2
  obtain ⟨c4, l4, rfl, z4⟩ := list_succ z3
  obtain rfl := list_zero z4
  obtain ⟨y0, g0⟩ := hg 0 _ rfl
  rw [show Tryz.prog.cellsOf _ = 1 from cells_3] at g0
  replace g0 : DataW.trod _ _ _ _ _ _ _ 3 [c0] = _ := g0
  obtain ⟨x0, e0, w0⟩ := open_i64 Tryz.underlying3 g0
  obtain ⟨y1, g1⟩ := hg 1 _ rfl
  rw [show Tryz.prog.cellsOf _ = 1 from cells_3] at g1
  replace g1 : DataW.trod _ _ _ _ _ _ _ 3 [c1] = _ := g1
  obtain ⟨x1, e1, w1⟩ := open_i64 Tryz.underlying3 g1
  obtain ⟨y2, g2⟩ := hg 2 _ rfl
  rw [show Tryz.prog.cellsOf _ = 1 from cells_4] at g2
  replace g2 : DataW.trod _ _ _ _ _ _ _ 4 [c2] = _ := g2
  obtain ⟨x2, e2⟩ := open_bool' Tryz.underlying4 g2
  obtain ⟨y3, g3⟩ := hg 3 _ rfl
  rw [show Tryz.prog.cellsOf _ = 1 from cells_4] at g3
  replace g3 : DataW.trod _ _ _ _ _ _ _ 4 [c3] = _ := g3
  obtain ⟨x3, e3⟩ := open_bool' Tryz.underlying4 g3
  obtain ⟨y4, g4⟩ := hg 4 _ rfl
  rw [show Tryz.prog.cellsOf _ = 1 from cells_4] at g4
  replace g4 : DataW.trod _ _ _ _ _ _ _ 4 [c4] = _ := g4
  obtain ⟨x4, e4⟩ := open_bool' Tryz.underlying4 g4
  cases e0
  cases e1
  cases e2
  cases e3
  cases e4
  exact ⟨⟨x0, x1, x2, x3, x4⟩, rfl, ⟨w0, w1⟩⟩
theorem cells_308 : Tryz.prog.cellsOf 308 = 6 := by kernel_rfl
def goodCell (d : CellD) : Prop := In64 d.R ∧ goodAttr d.A
theorem open_Cell {H : Type} {enc : TypeId × Value → H} {w : World} {base : Nat} {spare : Nat → Bool} {held : Bool} {fuel : Nat} {cs : List Value} {x : DataW H × List MemPlace} (h : DataW.trod enc Tryz.prog w base spare held fuel 308 cs = some x) : ∃ d, cs = encCell.enc d ∧ goodCell d := by
  obtain ⟨hl, n, hg⟩ := trod_flds Tryz.underlying308 h
  rw [cells_308] at hl
  obtain ⟨c0, l0, rfl, z0⟩ := list_succ hl
  obtain ⟨c1, l1, rfl, z1⟩ := list_succ z0
  obtain ⟨c2, l2, rfl, z2⟩ := list_succ z1
  obtain ⟨c3, l3, rfl, z3⟩ := list_succ z2
  obtain ⟨c4, l4, rfl, z4⟩ := list_succ z3
  obtain ⟨c5, l5, rfl, z5⟩ := list_succ z4
  obtain rfl := list_zero z5
  obtain ⟨y0, g0⟩ := hg 0 _ rfl
  rw [show Tryz.prog.cellsOf _ = 1 from cells_3] at g0
  replace g0 : DataW.trod _ _ _ _ _ _ _ 3 [c0] = _ := g0
  obtain ⟨x0, e0, w0⟩ := open_i64 Tryz.underlying3 g0
  obtain ⟨y1, g1⟩ := hg 1 _ rfl
  rw [show Tryz.prog.cellsOf _ = 5 from cells_136] at g1
  replace g1 : DataW.trod _ _ _ _ _ _ _ 136 [c1, c2, c3, c4, c5] = _ := g1
  obtain ⟨x1, e1, w1⟩ := open_Attr g1
  replace e1 : [c1, c2, c3, c4, c5] = [i64 x1.Fg, i64 x1.Bg, .bool x1.Bold, .bool x1.Under, .bool x1.Turn] := e1
  cases e0
  cases e1
  exact ⟨⟨x0, x1⟩, rfl, ⟨w0, w1⟩⟩
theorem cells_133 : Tryz.prog.cellsOf 133 = 1 := by kernel_rfl
theorem cells_135 : Tryz.prog.cellsOf 135 = 3 := by kernel_rfl
theorem open_GridR {H : Type} {enc : TypeId × Value → H} {w : World} {base : Nat} {spare : Nat → Bool} {held : Bool} {fuel : Nat} {cs : List Value} {x : DataW H × List MemPlace} (h : DataW.trod enc Tryz.prog w base spare held fuel 135 cs = some x) : ∃ d, cs = encGridR.enc d ∧ okGridR 9223372036854775807 w d := by
  obtain ⟨hl, n, hg⟩ := trod_flds Tryz.underlying135 h
  rw [cells_135] at hl
  obtain ⟨c0, l0, rfl, z0⟩ := list_succ hl
  obtain ⟨c1, l1, rfl, z1⟩ := list_succ z0
  obtain ⟨c2, l2, rfl, z2⟩ := list_succ z1
  obtain rfl := list_zero z2
  obtain ⟨y0, g0⟩ := hg 0 _ rfl
  rw [show Tryz.prog.cellsOf _ = 1 from cells_3] at g0
  replace g0 : DataW.trod _ _ _ _ _ _ _ 3 [c0] = _ := g0
  obtain ⟨x0, e0, w0⟩ := open_i64 Tryz.underlying3 g0
  obtain ⟨y1, g1⟩ := hg 1 _ rfl
  rw [show Tryz.prog.cellsOf _ = 1 from cells_3] at g1
  replace g1 : DataW.trod _ _ _ _ _ _ _ 3 [c1] = _ := g1
  obtain ⟨x1, e1, w1⟩ := open_i64 Tryz.underlying3 g1
  obtain ⟨y2, g2⟩ := hg 2 _ rfl
  rw [show Tryz.prog.cellsOf _ = 1 from cells_133] at g2
  replace g2 : DataW.trod _ _ _ _ _ _ _ 133 [c2] = _ := g2
  obtain ⟨A2, n2, k2, x2, e2, f2, hc2, hn2, hg2⟩ := open_SlE (F := encCell) (good := goodCell) Tryz.underlying133 cells_308 (fun _ _ _ h_ => open_Cell h_) g2
  cases e0
  cases e1
  cases e2
  exact ⟨⟨x0, x1, ⟨A2, n2, k2, x2⟩⟩, rfl, ⟨f2, hc2, hn2⟩⟩
theorem cells_285 : Tryz.prog.cellsOf 285 = 1 := by kernel_rfl
theorem open_RowR {H : Type} {enc : TypeId × Value → H} {w : World} {base : Nat} {spare : Nat → Bool} {held : Bool} {fuel : Nat} {cs : List Value} {x : DataW H × List MemPlace} (h : DataW.trod enc Tryz.prog w base spare held fuel 285 cs = some x) : ∃ d, cs = encRowR.enc d ∧ okRowR 9223372036854775807 w d := by
  obtain ⟨hl, n, hg⟩ := trod_flds Tryz.underlying285 h
  rw [cells_285] at hl
  obtain ⟨c0, l0, rfl, z0⟩ := list_succ hl
  obtain rfl := list_zero z0
  obtain ⟨y0, g0⟩ := hg 0 _ rfl
  rw [show Tryz.prog.cellsOf _ = 1 from cells_133] at g0
  replace g0 : DataW.trod _ _ _ _ _ _ _ 133 [c0] = _ := g0
  obtain ⟨A0, n0, k0, x0, e0, f0, hc0, hn0, hg0⟩ := open_SlE (F := encCell) (good := goodCell) Tryz.underlying133 cells_308 (fun _ _ _ h_ => open_Cell h_) g0
  cases e0
  exact ⟨⟨⟨A0, n0, k0, x0⟩⟩, rfl, ⟨f0, hc0, hn0⟩⟩
theorem cells_137 : Tryz.prog.cellsOf 137 = 1 := by kernel_rfl
theorem cells_139 : Tryz.prog.cellsOf 139 = 31 := by kernel_rfl
theorem open_ScrR {H : Type} {enc : TypeId × Value → H} {w : World} {base : Nat} {spare : Nat → Bool} {held : Bool} {fuel : Nat} {cs : List Value} {x : DataW H × List MemPlace} (h : DataW.trod enc Tryz.prog w base spare held fuel 139 cs = some x) : ∃ d, cs = encScrR.enc d ∧ okScrR 9223372036854775807 w d := by
  obtain ⟨hl, n, hg⟩ := trod_flds Tryz.underlying139 h
  rw [cells_139] at hl
  obtain ⟨c0, l0, rfl, z0⟩ := list_succ hl
  obtain ⟨c1, l1, rfl, z1⟩ := list_succ z0
  obtain ⟨c2, l2, rfl, z2⟩ := list_succ z1
  obtain ⟨c3, l3, rfl, z3⟩ := list_succ z2
  obtain ⟨c4, l4, rfl, z4⟩ := list_succ z3
  obtain ⟨c5, l5, rfl, z5⟩ := list_succ z4
  obtain ⟨c6, l6, rfl, z6⟩ := list_succ z5
  obtain ⟨c7, l7, rfl, z7⟩ := list_succ z6
  obtain ⟨c8, l8, rfl, z8⟩ := list_succ z7
  obtain ⟨c9, l9, rfl, z9⟩ := list_succ z8
  obtain ⟨c10, l10, rfl, z10⟩ := list_succ z9
  obtain ⟨c11, l11, rfl, z11⟩ := list_succ z10
  obtain ⟨c12, l12, rfl, z12⟩ := list_succ z11
  obtain ⟨c13, l13, rfl, z13⟩ := list_succ z12
  obtain ⟨c14, l14, rfl, z14⟩ := list_succ z13
  obtain ⟨c15, l15, rfl, z15⟩ := list_succ z14
  obtain ⟨c16, l16, rfl, z16⟩ := list_succ z15
  obtain ⟨c17, l17, rfl, z17⟩ := list_succ z16
  obtain ⟨c18, l18, rfl, z18⟩ := list_succ z17
  obtain ⟨c19, l19, rfl, z19⟩ := list_succ z18
  obtain ⟨c20, l20, rfl, z20⟩ := list_succ z19
  obtain ⟨c21, l21, rfl, z21⟩ := list_succ z20
  obtain ⟨c22, l22, rfl, z22⟩ := list_succ z21
  obtain ⟨c23, l23, rfl, z23⟩ := list_succ z22
  obtain ⟨c24, l24, rfl, z24⟩ := list_succ z23
  obtain ⟨c25, l25, rfl, z25⟩ := list_succ z24
  obtain ⟨c26, l26, rfl, z26⟩ := list_succ z25
  obtain ⟨c27, l27, rfl, z27⟩ := list_succ z26
  obtain ⟨c28, l28, rfl, z28⟩ := list_succ z27
  obtain ⟨c29, l29, rfl, z29⟩ := list_succ z28
  obtain ⟨c30, l30, rfl, z30⟩ := list_succ z29
  obtain rfl := list_zero z30
  obtain ⟨y0, g0⟩ := hg 0 _ rfl
  rw [show Tryz.prog.cellsOf _ = 1 from cells_3] at g0
  replace g0 : DataW.trod _ _ _ _ _ _ _ 3 [c0] = _ := g0
  obtain ⟨x0, e0, w0⟩ := open_i64 Tryz.underlying3 g0
  obtain ⟨y1, g1⟩ := hg 1 _ rfl
  rw [show Tryz.prog.cellsOf _ = 1 from cells_3] at g1
  replace g1 : DataW.trod _ _ _ _ _ _ _ 3 [c1] = _ := g1
  obtain ⟨x1, e1, w1⟩ := open_i64 Tryz.underlying3 g1
  obtain ⟨y2, g2⟩ := hg 2 _ rfl
  rw [show Tryz.prog.cellsOf _ = 3 from cells_135] at g2
  replace g2 : DataW.trod _ _ _ _ _ _ _ 135 [c2, c3, c4] = _ := g2
  obtain ⟨x2, e2, o2⟩ := open_GridR g2
  replace e2 : [c2, c3, c4] = [i64 x2.W, i64 x2.H, .slice x2.Cells.A x2.Cells.n x2.Cells.c] := e2
  obtain ⟨y3, g3⟩ := hg 3 _ rfl
  rw [show Tryz.prog.cellsOf _ = 3 from cells_135] at g3
  replace g3 : DataW.trod _ _ _ _ _ _ _ 135 [c5, c6, c7] = _ := g3
  obtain ⟨x3, e3, o3⟩ := open_GridR g3
  replace e3 : [c5, c6, c7] = [i64 x3.W, i64 x3.H, .slice x3.Cells.A x3.Cells.n x3.Cells.c] := e3
  obtain ⟨y4, g4⟩ := hg 4 _ rfl
  rw [show Tryz.prog.cellsOf _ = 1 from cells_4] at g4
  replace g4 : DataW.trod _ _ _ _ _ _ _ 4 [c8] = _ := g4
  obtain ⟨x4, e4⟩ := open_bool' Tryz.underlying4 g4
  obtain ⟨y5, g5⟩ := hg 5 _ rfl
  rw [show Tryz.prog.cellsOf _ = 1 from cells_3] at g5
  replace g5 : DataW.trod _ _ _ _ _ _ _ 3 [c9] = _ := g5
  obtain ⟨x5, e5, w5⟩ := open_i64 Tryz.underlying3 g5
  obtain ⟨y6, g6⟩ := hg 6 _ rfl
  rw [show Tryz.prog.cellsOf _ = 1 from cells_3] at g6
  replace g6 : DataW.trod _ _ _ _ _ _ _ 3 [c10] = _ := g6
  obtain ⟨x6, e6, w6⟩ := open_i64 Tryz.underlying3 g6
  obtain ⟨y7, g7⟩ := hg 7 _ rfl
  rw [show Tryz.prog.cellsOf _ = 1 from cells_4] at g7
  replace g7 : DataW.trod _ _ _ _ _ _ _ 4 [c11] = _ := g7
  obtain ⟨x7, e7⟩ := open_bool' Tryz.underlying4 g7
  obtain ⟨y8, g8⟩ := hg 8 _ rfl
  rw [show Tryz.prog.cellsOf _ = 5 from cells_136] at g8
  replace g8 : DataW.trod _ _ _ _ _ _ _ 136 [c12, c13, c14, c15, c16] = _ := g8
  obtain ⟨x8, e8, w8⟩ := open_Attr g8
  replace e8 : [c12, c13, c14, c15, c16] = [i64 x8.Fg, i64 x8.Bg, .bool x8.Bold, .bool x8.Under, .bool x8.Turn] := e8
  obtain ⟨y9, g9⟩ := hg 9 _ rfl
  rw [show Tryz.prog.cellsOf _ = 1 from cells_3] at g9
  replace g9 : DataW.trod _ _ _ _ _ _ _ 3 [c17] = _ := g9
  obtain ⟨x9, e9, w9⟩ := open_i64 Tryz.underlying3 g9
  obtain ⟨y10, g10⟩ := hg 10 _ rfl
  rw [show Tryz.prog.cellsOf _ = 1 from cells_3] at g10
  replace g10 : DataW.trod _ _ _ _ _ _ _ 3 [c18] = _ := g10
  obtain ⟨x10, e10, w10⟩ := open_i64 Tryz.underlying3 g10
  obtain ⟨y11, g11⟩ := hg 11 _ rfl
  rw [show Tryz.prog.cellsOf _ = 1 from cells_4] at g11
  replace g11 : DataW.trod _ _ _ _ _ _ _ 4 [c19] = _ := g11
  obtain ⟨x11, e11⟩ := open_bool' Tryz.underlying4 g11
  obtain ⟨y12, g12⟩ := hg 12 _ rfl
  rw [show Tryz.prog.cellsOf _ = 1 from cells_4] at g12
  replace g12 : DataW.trod _ _ _ _ _ _ _ 4 [c20] = _ := g12
  obtain ⟨x12, e12⟩ := open_bool' Tryz.underlying4 g12
  obtain ⟨y13, g13⟩ := hg 13 _ rfl
  rw [show Tryz.prog.cellsOf _ = 1 from cells_3] at g13
  replace g13 : DataW.trod _ _ _ _ _ _ _ 3 [c21] = _ := g13
  obtain ⟨x13, e13, w13⟩ := open_i64 Tryz.underlying3 g13
  obtain ⟨y14, g14⟩ := hg 14 _ rfl
  rw [show Tryz.prog.cellsOf _ = 1 from cells_3] at g14
  replace g14 : DataW.trod _ _ _ _ _ _ _ 3 [c22] = _ := g14
  obtain ⟨x14, e14, w14⟩ := open_i64 Tryz.underlying3 g14
  obtain ⟨y15, g15⟩ := hg 15 _ rfl
  rw [show Tryz.prog.cellsOf _ = 5 from cells_136] at g15
  replace g15 : DataW.trod _ _ _ _ _ _ _ 136 [c23, c24, c25, c26, c27] = _ := g15
  obtain ⟨x15, e15, w15⟩ := open_Attr g15
  replace e15 : [c23, c24, c25, c26, c27] = [i64 x15.Fg, i64 x15.Bg, .bool x15.Bold, .bool x15.Under, .bool x15.Turn] := e15
  obtain ⟨y16, g16⟩ := hg 16 _ rfl
  rw [show Tryz.prog.cellsOf _ = 1 from cells_60] at g16
  replace g16 : DataW.trod _ _ _ _ _ _ _ 60 [c28] = _ := g16
  obtain ⟨A16, n16, k16, x16, e16, f16, hc16, hn16, hg16⟩ := open_SlE (F := encI) (good := fun n => In64 n) Tryz.underlying60 cells_3 (fun _ _ _ h_ => open_e64 Tryz.underlying3 h_) g16
  obtain ⟨y17, g17⟩ := hg 17 _ rfl
  rw [show Tryz.prog.cellsOf _ = 1 from cells_3] at g17
  replace g17 : DataW.trod _ _ _ _ _ _ _ 3 [c29] = _ := g17
  obtain ⟨x17, e17, w17⟩ := open_i64 Tryz.underlying3 g17
  obtain ⟨y18, g18⟩ := hg 18 _ rfl
  rw [show Tryz.prog.cellsOf _ = 1 from cells_137] at g18
  replace g18 : DataW.trod _ _ _ _ _ _ _ 137 [c30] = _ := g18
  obtain ⟨A18, n18, k18, x18, e18, f18, hc18, hn18, hg18⟩ := open_SlE (F := encRowR) (good := fun d => okRowR 9223372036854775807 w d) Tryz.underlying137 cells_285 (fun _ _ _ h_ => open_RowR h_) g18
  cases e0
  cases e1
  cases e2
  cases e3
  cases e4
  cases e5
  cases e6
  cases e7
  cases e8
  cases e9
  cases e10
  cases e11
  cases e12
  cases e13
  cases e14
  cases e15
  cases e16
  cases e17
  cases e18
  exact ⟨⟨x0, x1, x2, x3, x4, x5, x6, x7, x8, x9, x10, x11, x12, x13, x14, x15, ⟨A16, n16, k16, x16⟩, x17, ⟨A18, n18, k18, x18⟩⟩, rfl, ⟨o2, o3, f16, hc16, hn16, ⟨f18, hg18⟩, hc18, hn18⟩⟩
theorem cells_141 : Tryz.prog.cellsOf 141 = 35 := by kernel_rfl
theorem open_TermR {H : Type} {enc : TypeId × Value → H} {w : World} {base : Nat} {spare : Nat → Bool} {held : Bool} {fuel : Nat} {cs : List Value} {x : DataW H × List MemPlace} (h : DataW.trod enc Tryz.prog w base spare held fuel 141 cs = some x) : ∃ d, cs = encTermR.enc d ∧ okTermR 9223372036854775807 w d := by
  obtain ⟨hl, n, hg⟩ := trod_flds Tryz.underlying141 h
  rw [cells_141] at hl
  obtain ⟨c0, l0, rfl, z0⟩ := list_succ hl
  obtain ⟨c1, l1, rfl, z1⟩ := list_succ z0
  obtain ⟨c2, l2, rfl, z2⟩ := list_succ z1
  obtain ⟨c3, l3, rfl, z3⟩ := list_succ z2
  obtain ⟨c4, l4, rfl, z4⟩ := list_succ z3
  obtain ⟨c5, l5, rfl, z5⟩ := list_succ z4
  obtain ⟨c6, l6, rfl, z6⟩ := list_succ z5
  obtain ⟨c7, l7, rfl, z7⟩ := list_succ z6
  obtain ⟨c8, l8, rfl, z8⟩ := list_succ z7
  obtain ⟨c9, l9, rfl, z9⟩ := list_succ z8
  obtain ⟨c10, l10, rfl, z10⟩ := list_succ z9
  obtain ⟨c11, l11, rfl, z11⟩ := list_succ z10
  obtain ⟨c12, l12, rfl, z12⟩ := list_succ z11
  obtain ⟨c13, l13, rfl, z13⟩ := list_succ z12
  obtain ⟨c14, l14, rfl, z14⟩ := list_succ z13
  obtain ⟨c15, l15, rfl, z15⟩ := list_succ z14
  obtain ⟨c16, l16, rfl, z16⟩ := list_succ z15
  obtain ⟨c17, l17, rfl, z17⟩ := list_succ z16
  obtain ⟨c18, l18, rfl, z18⟩ := list_succ z17
  obtain ⟨c19, l19, rfl, z19⟩ := list_succ z18
  obtain ⟨c20, l20, rfl, z20⟩ := list_succ z19
  obtain ⟨c21, l21, rfl, z21⟩ := list_succ z20
  obtain ⟨c22, l22, rfl, z22⟩ := list_succ z21
  obtain ⟨c23, l23, rfl, z23⟩ := list_succ z22
  obtain ⟨c24, l24, rfl, z24⟩ := list_succ z23
  obtain ⟨c25, l25, rfl, z25⟩ := list_succ z24
  obtain ⟨c26, l26, rfl, z26⟩ := list_succ z25
  obtain ⟨c27, l27, rfl, z27⟩ := list_succ z26
  obtain ⟨c28, l28, rfl, z28⟩ := list_succ z27
  obtain ⟨c29, l29, rfl, z29⟩ := list_succ z28
  obtain ⟨c30, l30, rfl, z30⟩ := list_succ z29
  obtain ⟨c31, l31, rfl, z31⟩ := list_succ z30
  obtain ⟨c32, l32, rfl, z32⟩ := list_succ z31
  obtain ⟨c33, l33, rfl, z33⟩ := list_succ z32
  obtain ⟨c34, l34, rfl, z34⟩ := list_succ z33
  obtain rfl := list_zero z34
  obtain ⟨y0, g0⟩ := hg 0 _ rfl
  rw [show Tryz.prog.cellsOf _ = 4 from cells_132] at g0
  replace g0 : DataW.trod _ _ _ _ _ _ _ 132 [c0, c1, c2, c3] = _ := g0
  obtain ⟨x0, e0, o0⟩ := open_VpR g0
  replace e0 : [c0, c1, c2, c3] = [i64 x0.State, .bool x0.Mark, .slice x0.Args.A x0.Args.n x0.Args.c, .slice x0.Part.A x0.Part.n x0.Part.c] := e0
  obtain ⟨y1, g1⟩ := hg 1 _ rfl
  rw [show Tryz.prog.cellsOf _ = 31 from cells_139] at g1
  replace g1 : DataW.trod _ _ _ _ _ _ _ 139 [c4, c5, c6, c7, c8, c9, c10, c11, c12, c13, c14, c15, c16, c17, c18, c19, c20, c21, c22, c23, c24, c25, c26, c27, c28, c29, c30, c31, c32, c33, c34] = _ := g1
  obtain ⟨x1, e1, o1⟩ := open_ScrR g1
  replace e1 : [c4, c5, c6, c7, c8, c9, c10, c11, c12, c13, c14, c15, c16, c17, c18, c19, c20, c21, c22, c23, c24, c25, c26, c27, c28, c29, c30, c31, c32, c33, c34] = (cScr x1) := e1
  cases e0
  cases e1
  exact ⟨⟨x0, x1⟩, rfl, ⟨o0, o1⟩⟩
theorem cells_9 : Tryz.prog.cellsOf 9 = 1 := by kernel_rfl
theorem cells_143 : Tryz.prog.cellsOf 143 = 41 := by kernel_rfl
theorem open_PaneR {H : Type} {enc : TypeId × Value → H} {w : World} {base : Nat} {spare : Nat → Bool} {held : Bool} {fuel : Nat} {cs : List Value} {x : DataW H × List MemPlace} (h : DataW.trod enc Tryz.prog w base spare held fuel 143 cs = some x) : ∃ d, cs = encPaneR.enc d ∧ okPaneR 9223372036854775807 w d := by
  obtain ⟨hl, n, hg⟩ := trod_flds Tryz.underlying143 h
  rw [cells_143] at hl
  obtain ⟨c0, l0, rfl, z0⟩ := list_succ hl
  obtain ⟨c1, l1, rfl, z1⟩ := list_succ z0
  obtain ⟨c2, l2, rfl, z2⟩ := list_succ z1
  obtain ⟨c3, l3, rfl, z3⟩ := list_succ z2
  obtain ⟨c4, l4, rfl, z4⟩ := list_succ z3
  obtain ⟨c5, l5, rfl, z5⟩ := list_succ z4
  obtain ⟨c6, l6, rfl, z6⟩ := list_succ z5
  obtain ⟨c7, l7, rfl, z7⟩ := list_succ z6
  obtain ⟨c8, l8, rfl, z8⟩ := list_succ z7
  obtain ⟨c9, l9, rfl, z9⟩ := list_succ z8
  obtain ⟨c10, l10, rfl, z10⟩ := list_succ z9
  obtain ⟨c11, l11, rfl, z11⟩ := list_succ z10
  obtain ⟨c12, l12, rfl, z12⟩ := list_succ z11
  obtain ⟨c13, l13, rfl, z13⟩ := list_succ z12
  obtain ⟨c14, l14, rfl, z14⟩ := list_succ z13
  obtain ⟨c15, l15, rfl, z15⟩ := list_succ z14
  obtain ⟨c16, l16, rfl, z16⟩ := list_succ z15
  obtain ⟨c17, l17, rfl, z17⟩ := list_succ z16
  obtain ⟨c18, l18, rfl, z18⟩ := list_succ z17
  obtain ⟨c19, l19, rfl, z19⟩ := list_succ z18
  obtain ⟨c20, l20, rfl, z20⟩ := list_succ z19
  obtain ⟨c21, l21, rfl, z21⟩ := list_succ z20
  obtain ⟨c22, l22, rfl, z22⟩ := list_succ z21
  obtain ⟨c23, l23, rfl, z23⟩ := list_succ z22
  obtain ⟨c24, l24, rfl, z24⟩ := list_succ z23
  obtain ⟨c25, l25, rfl, z25⟩ := list_succ z24
  obtain ⟨c26, l26, rfl, z26⟩ := list_succ z25
  obtain ⟨c27, l27, rfl, z27⟩ := list_succ z26
  obtain ⟨c28, l28, rfl, z28⟩ := list_succ z27
  obtain ⟨c29, l29, rfl, z29⟩ := list_succ z28
  obtain ⟨c30, l30, rfl, z30⟩ := list_succ z29
  obtain ⟨c31, l31, rfl, z31⟩ := list_succ z30
  obtain ⟨c32, l32, rfl, z32⟩ := list_succ z31
  obtain ⟨c33, l33, rfl, z33⟩ := list_succ z32
  obtain ⟨c34, l34, rfl, z34⟩ := list_succ z33
  obtain ⟨c35, l35, rfl, z35⟩ := list_succ z34
  obtain ⟨c36, l36, rfl, z36⟩ := list_succ z35
  obtain ⟨c37, l37, rfl, z37⟩ := list_succ z36
  obtain ⟨c38, l38, rfl, z38⟩ := list_succ z37
  obtain ⟨c39, l39, rfl, z39⟩ := list_succ z38
  obtain ⟨c40, l40, rfl, z40⟩ := list_succ z39
  obtain rfl := list_zero z40
  obtain ⟨y0, g0⟩ := hg 0 _ rfl
  rw [show Tryz.prog.cellsOf _ = 1 from cells_3] at g0
  replace g0 : DataW.trod _ _ _ _ _ _ _ 3 [c0] = _ := g0
  obtain ⟨x0, e0, w0⟩ := open_i64 Tryz.underlying3 g0
  obtain ⟨y1, g1⟩ := hg 1 _ rfl
  rw [show Tryz.prog.cellsOf _ = 1 from cells_9] at g1
  replace g1 : DataW.trod _ _ _ _ _ _ _ 9 [c1] = _ := g1
  obtain ⟨x1, e1, w1⟩ := open_str Tryz.underlying9 g1
  obtain ⟨y2, g2⟩ := hg 2 _ rfl
  rw [show Tryz.prog.cellsOf _ = 1 from cells_9] at g2
  replace g2 : DataW.trod _ _ _ _ _ _ _ 9 [c2] = _ := g2
  obtain ⟨x2, e2, w2⟩ := open_str Tryz.underlying9 g2
  obtain ⟨y3, g3⟩ := hg 3 _ rfl
  rw [show Tryz.prog.cellsOf _ = 1 from cells_3] at g3
  replace g3 : DataW.trod _ _ _ _ _ _ _ 3 [c3] = _ := g3
  obtain ⟨x3, e3, w3⟩ := open_i64 Tryz.underlying3 g3
  obtain ⟨y4, g4⟩ := hg 4 _ rfl
  rw [show Tryz.prog.cellsOf _ = 1 from cells_3] at g4
  replace g4 : DataW.trod _ _ _ _ _ _ _ 3 [c4] = _ := g4
  obtain ⟨x4, e4, w4⟩ := open_i64 Tryz.underlying3 g4
  obtain ⟨y5, g5⟩ := hg 5 _ rfl
  rw [show Tryz.prog.cellsOf _ = 1 from cells_3] at g5
  replace g5 : DataW.trod _ _ _ _ _ _ _ 3 [c5] = _ := g5
  obtain ⟨x5, e5, w5⟩ := open_i64 Tryz.underlying3 g5
  obtain ⟨y6, g6⟩ := hg 6 _ rfl
  rw [show Tryz.prog.cellsOf _ = 35 from cells_141] at g6
  replace g6 : DataW.trod _ _ _ _ _ _ _ 141 [c6, c7, c8, c9, c10, c11, c12, c13, c14, c15, c16, c17, c18, c19, c20, c21, c22, c23, c24, c25, c26, c27, c28, c29, c30, c31, c32, c33, c34, c35, c36, c37, c38, c39, c40] = _ := g6
  obtain ⟨x6, e6, o6⟩ := open_TermR g6
  replace e6 : [c6, c7, c8, c9, c10, c11, c12, c13, c14, c15, c16, c17, c18, c19, c20, c21, c22, c23, c24, c25, c26, c27, c28, c29, c30, c31, c32, c33, c34, c35, c36, c37, c38, c39, c40] = [i64 x6.P.State, .bool x6.P.Mark, .slice x6.P.Args.A x6.P.Args.n x6.P.Args.c, .slice x6.P.Part.A x6.P.Part.n x6.P.Part.c, i64 x6.S.W, i64 x6.S.H, i64 x6.S.Main.W, i64 x6.S.Main.H, .slice x6.S.Main.Cells.A x6.S.Main.Cells.n x6.S.Main.Cells.c, i64 x6.S.Alt.W, i64 x6.S.Alt.H, .slice x6.S.Alt.Cells.A x6.S.Alt.Cells.n x6.S.Alt.Cells.c, .bool x6.S.OnAlt, i64 x6.S.X, i64 x6.S.Y, .bool x6.S.Wrap, i64 x6.S.A.Fg, i64 x6.S.A.Bg, .bool x6.S.A.Bold, .bool x6.S.A.Under, .bool x6.S.A.Turn, i64 x6.S.Top, i64 x6.S.Bot, .bool x6.S.NoWrap, .bool x6.S.Hide, i64 x6.S.SaveX, i64 x6.S.SaveY, i64 x6.S.SaveA.Fg, i64 x6.S.SaveA.Bg, .bool x6.S.SaveA.Bold, .bool x6.S.SaveA.Under, .bool x6.S.SaveA.Turn, .slice x6.S.Tabs.A x6.S.Tabs.n x6.S.Tabs.c, i64 x6.S.Limit, .slice x6.S.Back.A x6.S.Back.n x6.S.Back.c] := e6
  cases e0
  cases e1
  cases e2
  cases e3
  cases e4
  cases e5
  cases e6
  exact ⟨⟨x0, x1, x2, x3, x4, x5, x6⟩, rfl, ⟨w1, w2, o6⟩⟩
theorem cells_230 : Tryz.prog.cellsOf 230 = 3 := by kernel_rfl
def goodNode (d : NodeD) : Prop := In64 d.Pane ∧ In64 d.First
theorem open_Node {H : Type} {enc : TypeId × Value → H} {w : World} {base : Nat} {spare : Nat → Bool} {held : Bool} {fuel : Nat} {cs : List Value} {x : DataW H × List MemPlace} (h : DataW.trod enc Tryz.prog w base spare held fuel 230 cs = some x) : ∃ d, cs = encNode.enc d ∧ goodNode d := by
  obtain ⟨hl, n, hg⟩ := trod_flds Tryz.underlying230 h
  rw [cells_230] at hl
  obtain ⟨c0, l0, rfl, z0⟩ := list_succ hl
  obtain ⟨c1, l1, rfl, z1⟩ := list_succ z0
  obtain ⟨c2, l2, rfl, z2⟩ := list_succ z1
  obtain rfl := list_zero z2
  obtain ⟨y0, g0⟩ := hg 0 _ rfl
  rw [show Tryz.prog.cellsOf _ = 1 from cells_3] at g0
  replace g0 : DataW.trod _ _ _ _ _ _ _ 3 [c0] = _ := g0
  obtain ⟨x0, e0, w0⟩ := open_i64 Tryz.underlying3 g0
  obtain ⟨y1, g1⟩ := hg 1 _ rfl
  rw [show Tryz.prog.cellsOf _ = 1 from cells_4] at g1
  replace g1 : DataW.trod _ _ _ _ _ _ _ 4 [c1] = _ := g1
  obtain ⟨x1, e1⟩ := open_bool' Tryz.underlying4 g1
  obtain ⟨y2, g2⟩ := hg 2 _ rfl
  rw [show Tryz.prog.cellsOf _ = 1 from cells_3] at g2
  replace g2 : DataW.trod _ _ _ _ _ _ _ 3 [c2] = _ := g2
  obtain ⟨x2, e2, w2⟩ := open_i64 Tryz.underlying3 g2
  cases e0
  cases e1
  cases e2
  exact ⟨⟨x0, x1, x2⟩, rfl, ⟨w0, w2⟩⟩
theorem cells_145 : Tryz.prog.cellsOf 145 = 1 := by kernel_rfl
theorem cells_147 : Tryz.prog.cellsOf 147 = 5 := by kernel_rfl
theorem open_WinR {H : Type} {enc : TypeId × Value → H} {w : World} {base : Nat} {spare : Nat → Bool} {held : Bool} {fuel : Nat} {cs : List Value} {x : DataW H × List MemPlace} (h : DataW.trod enc Tryz.prog w base spare held fuel 147 cs = some x) : ∃ d, cs = encWinR.enc d ∧ okWinR 9223372036854775807 w d := by
  obtain ⟨hl, n, hg⟩ := trod_flds Tryz.underlying147 h
  rw [cells_147] at hl
  obtain ⟨c0, l0, rfl, z0⟩ := list_succ hl
  obtain ⟨c1, l1, rfl, z1⟩ := list_succ z0
  obtain ⟨c2, l2, rfl, z2⟩ := list_succ z1
  obtain ⟨c3, l3, rfl, z3⟩ := list_succ z2
  obtain ⟨c4, l4, rfl, z4⟩ := list_succ z3
  obtain rfl := list_zero z4
  obtain ⟨y0, g0⟩ := hg 0 _ rfl
  rw [show Tryz.prog.cellsOf _ = 1 from cells_3] at g0
  replace g0 : DataW.trod _ _ _ _ _ _ _ 3 [c0] = _ := g0
  obtain ⟨x0, e0, w0⟩ := open_i64 Tryz.underlying3 g0
  obtain ⟨y1, g1⟩ := hg 1 _ rfl
  rw [show Tryz.prog.cellsOf _ = 1 from cells_9] at g1
  replace g1 : DataW.trod _ _ _ _ _ _ _ 9 [c1] = _ := g1
  obtain ⟨x1, e1, w1⟩ := open_str Tryz.underlying9 g1
  obtain ⟨y2, g2⟩ := hg 2 _ rfl
  rw [show Tryz.prog.cellsOf _ = 1 from cells_145] at g2
  replace g2 : DataW.trod _ _ _ _ _ _ _ 145 [c2] = _ := g2
  obtain ⟨A2, n2, k2, x2, e2, f2, hc2, hn2, hg2⟩ := open_SlE (F := encNode) (good := goodNode) Tryz.underlying145 cells_230 (fun _ _ _ h_ => open_Node h_) g2
  obtain ⟨y3, g3⟩ := hg 3 _ rfl
  rw [show Tryz.prog.cellsOf _ = 1 from cells_3] at g3
  replace g3 : DataW.trod _ _ _ _ _ _ _ 3 [c3] = _ := g3
  obtain ⟨x3, e3, w3⟩ := open_i64 Tryz.underlying3 g3
  obtain ⟨y4, g4⟩ := hg 4 _ rfl
  rw [show Tryz.prog.cellsOf _ = 1 from cells_4] at g4
  replace g4 : DataW.trod _ _ _ _ _ _ _ 4 [c4] = _ := g4
  obtain ⟨x4, e4⟩ := open_bool' Tryz.underlying4 g4
  cases e0
  cases e1
  cases e2
  cases e3
  cases e4
  exact ⟨⟨x0, x1, ⟨A2, n2, k2, x2⟩, x3, x4⟩, rfl, ⟨w1, f2, hc2, hn2⟩⟩
theorem cells_149 : Tryz.prog.cellsOf 149 = 3 := by kernel_rfl
theorem open_SessR {H : Type} {enc : TypeId × Value → H} {w : World} {base : Nat} {spare : Nat → Bool} {held : Bool} {fuel : Nat} {cs : List Value} {x : DataW H × List MemPlace} (h : DataW.trod enc Tryz.prog w base spare held fuel 149 cs = some x) : ∃ d, cs = encSessR.enc d ∧ okSessR 9223372036854775807 w d := by
  obtain ⟨hl, n, hg⟩ := trod_flds Tryz.underlying149 h
  rw [cells_149] at hl
  obtain ⟨c0, l0, rfl, z0⟩ := list_succ hl
  obtain ⟨c1, l1, rfl, z1⟩ := list_succ z0
  obtain ⟨c2, l2, rfl, z2⟩ := list_succ z1
  obtain rfl := list_zero z2
  obtain ⟨y0, g0⟩ := hg 0 _ rfl
  rw [show Tryz.prog.cellsOf _ = 1 from cells_9] at g0
  replace g0 : DataW.trod _ _ _ _ _ _ _ 9 [c0] = _ := g0
  obtain ⟨x0, e0, w0⟩ := open_str Tryz.underlying9 g0
  obtain ⟨y1, g1⟩ := hg 1 _ rfl
  rw [show Tryz.prog.cellsOf _ = 1 from cells_60] at g1
  replace g1 : DataW.trod _ _ _ _ _ _ _ 60 [c1] = _ := g1
  obtain ⟨A1, n1, k1, x1, e1, f1, hc1, hn1, hg1⟩ := open_SlE (F := encI) (good := fun n => In64 n) Tryz.underlying60 cells_3 (fun _ _ _ h_ => open_e64 Tryz.underlying3 h_) g1
  obtain ⟨y2, g2⟩ := hg 2 _ rfl
  rw [show Tryz.prog.cellsOf _ = 1 from cells_3] at g2
  replace g2 : DataW.trod _ _ _ _ _ _ _ 3 [c2] = _ := g2
  obtain ⟨x2, e2, w2⟩ := open_i64 Tryz.underlying3 g2
  cases e0
  cases e1
  cases e2
  exact ⟨⟨x0, ⟨A1, n1, k1, x1⟩, x2⟩, rfl, ⟨w0, f1, hc1, hn1⟩⟩
theorem cells_22 : Tryz.prog.cellsOf 22 = 1 := by kernel_rfl
theorem cells_23 : Tryz.prog.cellsOf 23 = 1 := by kernel_rfl
theorem cells_24 : Tryz.prog.cellsOf 24 = 1 := by kernel_rfl
theorem cells_26 : Tryz.prog.cellsOf 26 = 7 := by kernel_rfl
theorem open_StateR {H : Type} {enc : TypeId × Value → H} {w : World} {base : Nat} {spare : Nat → Bool} {held : Bool} {fuel : Nat} {cs : List Value} {x : DataW H × List MemPlace} (h : DataW.trod enc Tryz.prog w base spare held fuel 26 cs = some x) : ∃ d, cs = encStateR.enc d ∧ okStateR 9223372036854775807 w d := by
  obtain ⟨hl, n, hg⟩ := trod_flds Tryz.underlying26 h
  rw [cells_26] at hl
  obtain ⟨c0, l0, rfl, z0⟩ := list_succ hl
  obtain ⟨c1, l1, rfl, z1⟩ := list_succ z0
  obtain ⟨c2, l2, rfl, z2⟩ := list_succ z1
  obtain ⟨c3, l3, rfl, z3⟩ := list_succ z2
  obtain ⟨c4, l4, rfl, z4⟩ := list_succ z3
  obtain ⟨c5, l5, rfl, z5⟩ := list_succ z4
  obtain ⟨c6, l6, rfl, z6⟩ := list_succ z5
  obtain rfl := list_zero z6
  obtain ⟨y0, g0⟩ := hg 0 _ rfl
  rw [show Tryz.prog.cellsOf _ = 1 from cells_3] at g0
  replace g0 : DataW.trod _ _ _ _ _ _ _ 3 [c0] = _ := g0
  obtain ⟨x0, e0, w0⟩ := open_i64 Tryz.underlying3 g0
  obtain ⟨y1, g1⟩ := hg 1 _ rfl
  rw [show Tryz.prog.cellsOf _ = 1 from cells_3] at g1
  replace g1 : DataW.trod _ _ _ _ _ _ _ 3 [c1] = _ := g1
  obtain ⟨x1, e1, w1⟩ := open_i64 Tryz.underlying3 g1
  obtain ⟨y2, g2⟩ := hg 2 _ rfl
  rw [show Tryz.prog.cellsOf _ = 1 from cells_3] at g2
  replace g2 : DataW.trod _ _ _ _ _ _ _ 3 [c2] = _ := g2
  obtain ⟨x2, e2, w2⟩ := open_i64 Tryz.underlying3 g2
  obtain ⟨y3, g3⟩ := hg 3 _ rfl
  rw [show Tryz.prog.cellsOf _ = 1 from cells_3] at g3
  replace g3 : DataW.trod _ _ _ _ _ _ _ 3 [c3] = _ := g3
  obtain ⟨x3, e3, w3⟩ := open_i64 Tryz.underlying3 g3
  obtain ⟨y4, g4⟩ := hg 4 _ rfl
  rw [show Tryz.prog.cellsOf _ = 1 from cells_22] at g4
  replace g4 : DataW.trod _ _ _ _ _ _ _ 22 [c4] = _ := g4
  obtain ⟨A4, n4, k4, x4, e4, f4, hc4, hn4, hg4⟩ := open_SlE (F := encPaneR) (good := fun d => okPaneR 9223372036854775807 w d) Tryz.underlying22 cells_143 (fun _ _ _ h_ => open_PaneR h_) g4
  obtain ⟨y5, g5⟩ := hg 5 _ rfl
  rw [show Tryz.prog.cellsOf _ = 1 from cells_23] at g5
  replace g5 : DataW.trod _ _ _ _ _ _ _ 23 [c5] = _ := g5
  obtain ⟨A5, n5, k5, x5, e5, f5, hc5, hn5, hg5⟩ := open_SlE (F := encWinR) (good := fun d => okWinR 9223372036854775807 w d) Tryz.underlying23 cells_147 (fun _ _ _ h_ => open_WinR h_) g5
  obtain ⟨y6, g6⟩ := hg 6 _ rfl
  rw [show Tryz.prog.cellsOf _ = 1 from cells_24] at g6
  replace g6 : DataW.trod _ _ _ _ _ _ _ 24 [c6] = _ := g6
  obtain ⟨A6, n6, k6, x6, e6, f6, hc6, hn6, hg6⟩ := open_SlE (F := encSessR) (good := fun d => okSessR 9223372036854775807 w d) Tryz.underlying24 cells_149 (fun _ _ _ h_ => open_SessR h_) g6
  cases e0
  cases e1
  cases e2
  cases e3
  cases e4
  cases e5
  cases e6
  exact ⟨⟨x0, x1, x2, x3, ⟨A4, n4, k4, x4⟩, ⟨A5, n5, k5, x5⟩, ⟨A6, n6, k6, x6⟩⟩, rfl, ⟨⟨f4, hg4⟩, hc4, hn4, ⟨f5, hg5⟩, hc5, hn5, ⟨f6, hg6⟩, hc6, hn6⟩⟩
namespace fnExactWinOf
open Go.ChangeShapes Go.WideShapes Go.ChangeAt Go.RowKit
theorem own : ownKnob Tryz.prog.godebug = none := by kernel_rfl
theorem laidOut : laidOutB Tryz.prog = true := by kernel_rfl
set_option maxRecDepth 100000 in
set_option maxHeartbeats 1000000 in
theorem lifted (os : Os) (started : os.Started) (H : Type) (enc : TypeId × Value → H) :
    ReturnsInHanded {} Tryz.checked os 3 .any (Rows.fnExactWinOfSpec.pre6 enc Tryz.prog Tryz.f3 Rows.fnExactWinOfRow.domain false) (Rows.fnExactWinOfSpec.post enc Tryz.prog Tryz.f3 false true false false) := by
  refine returnsInHanded_of_change (C := Tryz.checked) own started (by kernel_rfl) Tryz.func3
    (ChangeSpec.witness6 (enc := enc) (C := Tryz.checked) false ⟨#[], #[(Value.agg #[Value.int IntKind.i64 0, Value.int IntKind.i64 0, Value.int IntKind.i64 0, Value.int IntKind.i64 0, Value.slice none 0 0, Value.slice none 0 0, Value.slice none 0 0]), .int .i64 0], []⟩ 8 (by kernel_rfl) (by kernel_rfl) (by kernel_rfl) (by kernel_rfl)) ?_
  intro W base args ds gs before hval0 hW hcnd _
  have hval : ∀ (j : Nat) t v, Tryz.f3.params[j]? = some t → args[j]? = some v → Value.okWide Tryz.prog W .any base t v := hval0
  have hW' := hW
  obtain ⟨p, q, hA0, hV, rfl, hfz, hnd⟩ := hW
  have hA : DataW.TrodAll enc Tryz.prog W 0 (fun _ => true) true Tryz.f3.params.toList args.toList ds p := hA0
  rw [Tryz.params3] at hA hval
  obtain ⟨v0, vs0, d0, ds0, p0, q0, hargs, rfl, rfl, h0, r0⟩ := trodAll_cons hA
  obtain ⟨v1, vs1, d1, ds1, p1, q1, rfl, rfl, rfl, h1, r1⟩ := trodAll_cons r0
  obtain ⟨rfl, rfl, rfl⟩ := trodAll_nil r1
  obtain rfl : args = #[v0, v1] := by cases args; simp_all
  obtain ⟨rfl, rfl⟩ := trodVars_none hV
  have k0 := h0
  have lt0 : ∀ x ∈ p0, x.block < W.heap.size := by obtain ⟨m, hm⟩ := k0; exact DataW.trod_lt m _ _ _ hm
  have k1 := h1
  have lt1 : ∀ x ∈ p1, x.block < W.heap.size := by obtain ⟨m, hm⟩ := k1; exact DataW.trod_lt m _ _ _ hm
  obtain ⟨cs0, rfl, hsz0⟩ := okWide_struct Tryz.underlying26 (hval 0 26 v0 rfl rfl)
  obtain ⟨l0⟩ := cs0
  obtain ⟨fuel0, hf0⟩ := h0
  replace hf0 : DataW.trod _ _ _ _ _ _ _ 26 l0 = _ := hf0
  obtain ⟨aS, rfl, f_aS⟩ := open_StateR hf0
  obtain ⟨q1, rfl⟩ := okWide_int Tryz.underlying3 (hval 1 3 v1 rfl rfl)
  obtain ⟨fuel1, hf1⟩ := h1
  replace hf1 : DataW.trod _ _ _ _ _ _ _ 3 [.int .i64 q1] = _ := hf1
  obtain ⟨p, e1, w_p⟩ := open_i64 Tryz.underlying3 hf1
  obtain rfl : p = q1 := by cases e1; rfl
  clear hA0 hval0
  refine (k78_ aS p W f_aS).mono fun e W' ⟨he, hst⟩ => ?_
  have bel := hst.toBelow
  subst he
  exact ⟨_, rfl, _, _, _, [], _, [], hW', trodAll_mk1 (shut_bool Tryz.underlying4 _), (trodAll_cons_mk (Below.trod laidOut (by kernel_rfl) (of_decide_eq_true (by kernel_rfl)) k0 bel lt0) (trodAll_cons_mk (Below.trod laidOut (by kernel_rfl) (of_decide_eq_true (by kernel_rfl)) k1 bel lt1) trodAll_mk0)), rfl, bel.frame _, fun h => by cases h⟩
theorem jq0 : laidOutB Tryz.pinned.checked.prog = true := by kernel_rfl
theorem jq1 : mapsRowed Tryz.pinned.checked.prog = true := by kernel_rfl
theorem jq2 : Tryz.pinned.checked.prog.inPlace 3 = Rows.fnExactWinOfRow.inPlace := by kernel_rfl
theorem jq3 : Tryz.pinned.checked.prog.unfollowed 3 = Rows.fnExactWinOfRow.unfollowed := by kernel_rfl
theorem jq4 : Tryz.pinned.checked.prog.recurses 3 = Rows.fnExactWinOfRow.recurses := by kernel_rfl
theorem jq5 : Tryz.pinned.checked.prog.varsNamed 3 = Rows.fnExactWinOfRow.named := by kernel_rfl
theorem closed : joinedFacts Tryz.pinned.checked.prog 3 Tryz.f3 Rows.fnExactWinOfSpec Rows.fnExactWinOfRow = true := by
  unfold joinedFacts
  rw [jq0, jq1, jq2, jq3, jq4, jq5]
  kernel_rfl
theorem fnIs : Tryz.pinned.checked.prog.funcNamed Rows.fnExactWinOfRow.func = some 3 := by kernel_rfl
theorem instIs : Tryz.f3.isInstance Tryz.pinned.checked.prog Rows.fnExactWinOfRow.origin Rows.fnExactWinOfRow.targs := of_decide_eq_true (by kernel_rfl)
theorem wrapIs : Tryz.f3.isWrapper Tryz.pinned.checked.prog Rows.fnExactWinOfRow.wrapper Rows.fnExactWinOfRow.mainSum := by unfold Func.isWrapper; first | (rw [if_pos (by decide +kernel)]; kernel_rfl) | (rw [if_neg (by decide +kernel)]; exact ⟨rfl, rfl⟩)
theorem over : Rows.fnExactWinOfRow.holds Tryz.pinned (OpenSpec.ofChange Rows.fnExactWinOfSpec) :=
  OpenClaim.holds_of_wide 3 Tryz.f3 rfl rfl rfl rfl rfl rfl rfl ⟨rfl, rfl, rfl, rfl, rfl⟩ rfl rfl rfl rfl rfl fnIs Tryz.func3 closed instIs wrapIs
    (fun os started H enc _ => lifted os started H enc)
end fnExactWinOf
theorem fnExactWinOf_holds : Rows.FnExactWinOfSaid := fnExactWinOf.over
end Go.Proofs.YthfhhldbglaieaaGreat
