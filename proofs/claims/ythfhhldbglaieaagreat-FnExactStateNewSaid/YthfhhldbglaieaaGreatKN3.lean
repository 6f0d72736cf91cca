/-
  What the proof stands on, part 3.
-/
import Derived.Test.YthfhhldbglaieaaGreatKN2
namespace Go.Proofs.YthfhhldbglaieaaGreat
open Go Go.RowKit
set_option linter.unusedVariables false
set_option linter.unusedSimpArgs false
theorem k34_ (q : WinR) (b_p : Nat) (p : Int) (w : World) (f_q : okWinR 549755813888 w q) (f_p : SlF encI w (some ⟨b_p, 0, none⟩) 1 [p]) (hq : q.Tree.n ≤ 1048576) :
    Calls Tryz.prog 45 #[.agg #[i64 q.Id, .string q.Name, .slice q.Tree.A q.Tree.n q.Tree.c, i64 q.Active, .bool q.Zoom], .pointer (some ⟨b_p, 0, none⟩)] w fun e w' => e = .returned (.bool (hasI (leavesL q.Tree.xs) p)) ∧ St w [] [] w' := by
 have nz_q_Name := f_q.Name_z
 have nb_q_Tree := f_q.Tree_n
 have nl_q_Tree := f_q.Tree.len
 have hll := leavesL_len q.Tree.xs
 refine enter 9 Tryz.func45 rfl Tryz.ntmps45 rfl rfl ?_
 have hs1 := St.init w
 refine WC.sr (WL.bx hs1 rfl (fun b2 _ hs3 => WL.r 1 hs3 [] rfl (WL.nil (WC.seq (fun K4 hK4 => WC.rH hs3 hs3 (fun _ hs5 => ?_))))))
 refine WH.rn [0, 1] hs5 [0] rfl rfl ?_
 refine WH.take 3 rfl (by kernel_rfl) rfl rfl rfl hs5 (fun w_ hs_ => (Run.load Tryz.isAgg3 rfl rfl (SlF.var (SlF.st0 f_p (hs_ : St _ _ _ _)) rfl))) ?_
 refine WH.o1 2 rfl (WL.cl Tryz.call47 rfl (k33_ _ _ _ _ _ (SlF.st0 f_q.Tree hs5) ?_) ?_)
 · first | assumption | rfl | omega
 rintro _ whs6 ⟨A7, c8, L1_9, rfl, hs6, ho10⟩
 replace hs6 := hs5.callF hs6
 refine ⟨_, rfl, ?_⟩
 replace hs6 := St.back [_] hs6
 refine WL.nil ⟨(hs6.rm L1_9), WH.o1 4 rfl (WL.cl Tryz.call46 rfl (k26_ _ _ _ _ _ _ (SlF.ofOwn ho10 (hs6.ow L1_9)) ?_) ?_)⟩
 · first | assumption | rfl | omega
 rintro _ whs11 ⟨rfl, hs11⟩
 replace hs11 := hs6.call0 hs11
 refine ⟨_, rfl, WL.nil ⟨(hs11.rm L1_9), WH.rn [5] (hs11.rm L1_9) [] rfl rfl (WH.dn (hK4 _ _ (WC.ret (rtv rfl rfl hs11 ?_))))⟩⟩
 rfl
theorem k35_ (A_s : Option Addr) (n_s c_s : Nat) (s : List WinR) (b_p : Nat) (p : Int) (w : World) (f_s : SlN encWinR (okWinR 549755813888) w A_s n_s s) (f_p : SlF encI w (some ⟨b_p, 0, none⟩) 1 [p]) (hn : n_s ≤ 549755813888) (hW : ∀ y, y ∈ s → y.Tree.n ≤ 1048576) :
    Calls Tryz.prog 44 #[.slice A_s n_s c_s, .func (.func 45) #[] #[.pointer (some ⟨b_p, 0, none⟩)]] w fun e w' => e = .returned (.int .i64 (findI (fun q : WinR => hasI (leavesL q.Tree.xs) p) s)) ∧ St w [] [] w' := by
 have hsl := f_s.sl.len
 refine enter 19 Tryz.func44 rfl Tryz.ntmps44 rfl rfl ?_
 have hs1 := St.init w
 refine WC.r1 hs1 [] rfl (WC.seq (fun K2 hK2 => WC.r1 hs1 [] rfl (WC.block ?_)))
 refine WC.lS [0, 1, 7] rfl hs1 (fun k_ f w' => ∃ (i : Nat), k_ = n_s - i ∧ (i ≤ n_s) ∧ (∀ j, j < i → (fun q : WinR => hasI (leavesL q.Tree.xs) p) (gat encWinR s j) = false) ∧ Sub [(8, .int .i64 i)] f) ((fun (i : Nat) => n_s - i) (0)) ?_ ?_
 ·refine ⟨0, rfl, ?_, ?_, ⟨rfl, trivial⟩⟩
  · exact Nat.zero_le _
  · exact fun j hj => absurd hj (by omega)
 clear hs1
 rintro _ f w ⟨i, rfl, p0, p1, hG⟩ hF hs3
 refine WC.sub _ (hG.app hF) ?_
 clear hG hF
 refine WC.r1 hs3 [] rfl (WC.seq (fun K4 hK4 => ?_))
 refine WC.cond rfl (fun h5 => ?_) (fun h5 => ?_)
 ·have qh5 := h5
  try simp only [decide_eq_true_eq, decide_eq_false_iff_not] at qh5
  have hWi := hW (gat encWinR s i) (gat_mem (by omega))
  refine WC.skip (hK4 _ _ (WC.seq (fun K6 hK6 => WC.block (WC.r1 hs3 [] rfl (WC.sr (WL.r 3 hs3 [] rfl ?_))))))
  refine WL.val rfl rfl rfl (Run.idxN Tryz.runUnderlying30 Tryz.sizeOf58 rfl rfl rfl ?_ ?_ ?_) ?_
  · exact SlF.some_ (SlF.st0 f_s.sl hs3)
  · omega
  · omega
  refine WL.val rfl rfl rfl (Run.loadA Tryz.isAgg58 Tryz.sizeOf58 rfl rfl (SlF.whole (SlF.st0 f_s.sl hs3) ?_)) ?_
  · omega
  refine WL.call rfl rfl rfl (Run.callC Tryz.call45 rfl rfl rfl) (k34_ (gat encWinR s i) _ _ _ (okWinR.st0 (SlN.nth f_s (by omega)) hs3) (SlF.st0 f_p hs3) ?_) ?_
  · first | assumption | rfl | omega
  rintro _ whs7 ⟨rfl, hs7⟩
  replace hs7 := hs3.call0 hs7
  refine ⟨_, rfl, WL.nil (WC.cond rfl (fun h8 => ?_) (fun h8 => ?_))⟩
  ·have qh8 := h8
   try simp only [decide_eq_true_eq, decide_eq_false_iff_not] at qh8
   refine WC.r1 hs7 [] rfl (WC.ret (ibR (tkR (tkR (ibR (tkR ?_))))))
   clear hK6 hK2
   refine rtv rfl rfl hs7 ?_
   rw [findI_some (F := encWinR) (by rw [f_s.sl.len]; omega) p1 h8]
  have qh8 := h8
  try simp only [decide_eq_true_eq, decide_eq_false_iff_not] at qh8
  refine WC.skip (hK6 _ _ (WC.region (WL.r 2 hs7 [] rfl (WL.nil (tkN ?_)))))
  refine ⟨sbF rfl, hs7, _, ?_, i + 1, rfl, ?_, ?_, ⟨rfl, trivial⟩⟩
  · omega
  · omega
  · intro j hj; rcases Nat.lt_or_ge j i with h_ | h_
    · exact p1 j h_
    · obtain rfl : j = i := by omega
      exact h8
 have qh5 := h5
 try simp only [decide_eq_true_eq, decide_eq_false_iff_not] at qh5
 refine WC.exit (hK2 _ _ (WC.r1 hs3 [] rfl (WC.ret (rtv rfl rfl hs3 ?_))))
 rw [findI_none (F := encWinR) (fun j hj => p1 j (by rw [f_s.sl.len] at hj; omega))]
theorem k36_ (s : StateR) (p : Int) (w : World) (f_s : okStateR 549755813888 w s) (hT : totState s.dat ≤ 1048576) :
    Calls Tryz.prog 14 #[.agg #[i64 s.W, i64 s.H, i64 s.Limit, i64 s.Next, .slice s.Panes.A s.Panes.n s.Panes.c, .slice s.Wins.A s.Wins.n s.Wins.c, .slice s.Sess.A s.Sess.n s.Sess.c], i64 p] w fun e w' => e = .returned (.int .i64 (findI (winHas p) s.dat.Wins)) ∧ St w [] [] w' := by
 have nb_s_Panes := f_s.Panes_n
 have nl_s_Panes := f_s.Panes.sl.len
 have nb_s_Wins := f_s.Wins_n
 have nl_s_Wins := f_s.Wins.sl.len
 have nb_s_Sess := f_s.Sess_n
 have nl_s_Sess := f_s.Sess.sl.len
 have hsm0 : smState 1048576 s.dat := totState_sm hT
 have hWn : ∀ y, y ∈ s.Wins.xs → y.Tree.n ≤ 1048576 := fun y hy => by have h1 := (f_s.Wins.all y hy).Tree.len; have h2 : y.Tree.xs.length ≤ 1048576 := (hsm0.2.2.2.1 _ (List.mem_map_of_mem hy)).2; omega
 refine enter 9 Tryz.func14 rfl Tryz.ntmps14 rfl rfl ?_
 have hs1 := St.init w
 refine WC.sr (WL.bx hs1 rfl (fun b2 _ hs3 => WL.bx hs3 rfl (fun b4 _ hs5 => WL.r 1 hs5 [] rfl (WL.nil (WC.sr (WL.r 2 hs5 [1] rfl (WL.val rfl rfl rfl (Run.makeFunc rfl rfl) ?_)))))))
 refine WL.cl Tryz.call44 rfl (k35_ _ _ _ _ _ _ _ (SlN.st0 okWinR.st0 f_s.Wins hs5) (SlF.own1 (hs5.own _ (nthL_mem (i := 0) rfl)).1) ?_ ?_) ?_
 iterate 2 first | assumption | rfl | omega
 rintro _ whs6 ⟨rfl, hs6⟩
 replace hs6 := hs5.call0 hs6
 refine ⟨_, rfl, WL.r 1 hs6 [] rfl (WL.nil (WC.ret (rtv rfl rfl hs6 ?_)))⟩
 rw [show s.dat.Wins = s.Wins.xs.map WinR.dat from rfl, findI_map]; rfl
theorem k37_ (s : StateR) (p : Int) (w : World) (f_s : okStateR 549755813888 w s) (hT : totState s.dat ≤ 1048576) :
    Calls Tryz.prog 12 #[.agg #[i64 s.W, i64 s.H, i64 s.Limit, i64 s.Next, .slice s.Panes.A s.Panes.n s.Panes.c, .slice s.Wins.A s.Wins.n s.Wins.c, .slice s.Sess.A s.Sess.n s.Sess.c], i64 p] w fun e w' => e = .returned (.int .i64 (findI (winHas p) s.dat.Wins)) ∧ St w [] [] w' := by
 have nb_s_Panes := f_s.Panes_n
 have nl_s_Panes := f_s.Panes.sl.len
 have nb_s_Wins := f_s.Wins_n
 have nl_s_Wins := f_s.Wins.sl.len
 have nb_s_Sess := f_s.Sess_n
 have nl_s_Sess := f_s.Sess.sl.len
 have hsm0 : smState 1048576 s.dat := totState_sm hT
 have hWn : ∀ y, y ∈ s.Wins.xs → y.Tree.n ≤ 1048576 := fun y hy => by have h1 := (f_s.Wins.all y hy).Tree.len; have h2 : y.Tree.xs.length ≤ 1048576 := (hsm0.2.2.2.1 _ (List.mem_map_of_mem hy)).2; omega
 refine enter 22 Tryz.func12 rfl Tryz.ntmps12 rfl rfl ?_
 have hs1 := St.init w
 refine WC.sr (WL.bx hs1 rfl (fun b2 _ hs3 => WL.r 1 hs3 [] rfl (WL.nil (WC.seq (fun K4 hK4 => WC.r1 hs3 [0] rfl (WC.block ?_))))))
 refine WC.lS [1, 8, 9] rfl hs3 (fun k_ f w' => ∃ (i : Nat), k_ = s.Wins.n - i ∧ (i ≤ s.Wins.n) ∧ (∀ j, j < i → (fun q : WinR => hasI (leavesL q.Tree.xs) p) (gat encWinR s.Wins.xs j) = false) ∧ Sub [(10, .int .i64 i)] f) ((fun (i : Nat) => s.Wins.n - i) (0)) ?_ ?_
 ·refine ⟨0, rfl, ?_, ?_, ⟨rfl, trivial⟩⟩
  · exact Nat.zero_le _
  · exact fun j hj => absurd hj (by omega)
 clear hs3
 rintro _ f w ⟨i, rfl, p0, p1, hG⟩ hF hs5
 refine WC.sub _ (hG.app hF) ?_
 clear hG hF
 refine WC.r1 hs5 [] rfl (WC.seq (fun K6 hK6 => ?_))
 refine WC.cq rfl (fun h7 qh7 => ?_) (fun h7 qh7 => ?_)
 ·have hWi := hWn (gat encWinR s.Wins.xs i) (gat_mem (by omega))
  have hll := leavesL_len (gat encWinR s.Wins.xs i).Tree.xs
  have hTl := (SlN.nth f_s.Wins (show i < s.Wins.n by omega)).Tree.len
  refine WC.skip (hK6 _ _ (WC.seq (fun K8 hK8 => WC.block (WC.sr (WL.r 1 hs5 [] rfl ?_)))))
  refine WL.val rfl rfl rfl (Run.idxN Tryz.runUnderlying30 Tryz.sizeOf58 rfl rfl rfl ?_ ?_ ?_) ?_
  · exact SlF.some_ (SlF.st0 f_s.Wins.sl hs5)
  · omega
  · omega
  refine WL.val rfl rfl rfl (Run.loadA Tryz.isAgg58 Tryz.sizeOf58 rfl rfl (SlF.whole (SlF.st0 f_s.Wins.sl hs5) ?_)) ?_
  · omega
  refine WL.al hs5 Tryz.zeroValue58 rfl rfl (fun b9 _ hs10 => WL.r 1 hs10 [] rfl (WL.st tbk hs10 0 rfl rfl (fun _ hs11 => WL.nil (WC.sr (WL.r 2 hs11 [0] rfl ?_)))))
  refine WL.cl Tryz.call40 rfl (k29_ _ _ _ _ _ (SlF.st0 (SlN.nth f_s.Wins (by omega)).Tree hs11) ?_) ?_
  · first | assumption | rfl | omega
  rintro _ whs12 ⟨A13, c14, L1_15, rfl, hs12, ho16⟩
  replace hs12 := hs11.callF hs12
  refine ⟨_, rfl, ?_⟩
  replace hs12 := St.back [_, _] hs12
  refine WL.r 1 hs12 [] rfl (WL.cl Tryz.call39 rfl (k27_ _ _ _ _ _ _ (SlF.ofOwn ho16 (hs12.ow L1_15)) ?_) ?_)
  · first | assumption | rfl | omega
  rintro _ whs17 ⟨rfl, hs17⟩
  replace hs17 := hs12.call0 hs17
  refine ⟨_, rfl, WL.nil (WC.cq rfl (fun h18 qh18 => ?_) (fun h18 qh18 => ?_))⟩
  ·refine WC.r1 hs17 [] rfl (WC.ret (ibR (tkR (tkR (ibR (tkR ?_))))))
   clear hK8 hK4
   refine rtv rfl rfl hs17 ?_
   rw [show s.dat.Wins = s.Wins.xs.map WinR.dat from rfl, findI_map]; exact congrArg (Value.int _) (findI_some (F := encWinR) (p := (fun q : WinR => hasI (leavesL q.Tree.xs) p)) (xs := s.Wins.xs) (by omega) p1 h18).symm
  refine WC.skip (hK8 _ _ (WC.region (WL.r 2 hs17 [] rfl (WL.nil (tkN ?_)))))
  refine ⟨sbF rfl, (hs17.drop (by repeat (first | exact List.Sublist.refl _ | exact List.sublist_append_left _ _ | exact List.Sublist.trans (List.sublist_append_left _ _) (List.sublist_append_left _ _) | apply List.Sublist.cons | refine List.Sublist.trans ?_ (sR _)))), _, ?_, i + 1, rfl, ?_, ?_, ⟨rfl, trivial⟩⟩
  · omega
  · omega
  · intro j hj; rcases Nat.lt_or_ge j i with h_ | h_
    · exact p1 j h_
    · obtain rfl : j = i := by omega
      exact h18
 refine WC.exit (hK4 _ _ (WC.r1 hs5 [] rfl (WC.ret (rtv rfl rfl hs5 ?_))))
 rw [show s.dat.Wins = s.Wins.xs.map WinR.dat from rfl, findI_map]; exact congrArg (Value.int _) (findI_none (F := encWinR) (p := (fun q : WinR => hasI (leavesL q.Tree.xs) p)) (xs := s.Wins.xs) (fun j hj => p1 j (by omega))).symm
theorem inf71 : Tryz.prog.info? 71 = some Tryz.t71 := by kernel_rfl
set_option maxHeartbeats 1000000 in
theorem k38_ (n_Pane : Int) (n_Down : Bool) (n_First : Int) (r_Pane : Int) (r_X : Int) (r_Y : Int) (r_W : Int) (r_H : Int) (w : World) (hb : -1000000 ≤ n_First ∧ n_First ≤ 1000000 ∧ 0 ≤ r_X ∧ r_X ≤ 1000 ∧ 0 ≤ r_Y ∧ r_Y ≤ 1000 ∧ 0 ≤ r_W ∧ r_W ≤ 1000 ∧ 0 ≤ r_H ∧ r_H ≤ 1000) :
    Calls Tryz.prog 264 #[.agg #[i64 n_Pane, .bool n_Down, i64 n_First], .agg #[i64 r_Pane, i64 r_X, i64 r_Y, i64 r_W, i64 r_H]] w fun e w' => e = .returned (.tuple #[.agg (encRect.enc (firstR (⟨n_Pane, n_Down, n_First⟩ : NodeD) (⟨r_Pane, r_X, r_Y, r_W, r_H⟩ : RectD))).toArray, .agg (encRect.enc (secondR (⟨n_Pane, n_Down, n_First⟩ : NodeD) (⟨r_Pane, r_X, r_Y, r_W, r_H⟩ : RectD))).toArray, .bool (decide (3 ≤ sizeR (⟨n_Pane, n_Down, n_First⟩ : NodeD) (⟨r_Pane, r_X, r_Y, r_W, r_H⟩ : RectD)))]) ∧ St w [] [] w' := by
 refine enter 56 Tryz.func264 rfl Tryz.ntmps264 rfl rfl ?_
 have hs1 := St.init w
 refine WC.sr (WL.bx hs1 rfl (fun b2 _ hs3 => WL.bx hs3 rfl (fun b4 _ hs5 => WL.al hs5 Tryz.zeroValue71 rfl rfl (fun b6 _ hs7 => WL.al hs7 Tryz.zeroValue71 rfl rfl (fun b8 _ hs9 => WL.r 1 hs9 [] rfl (WL.nil (WC.seq (fun K10 hK10 => ?_))))))))
 apply WC.join2 (fun b11 b12 => (b11, .cells (List.toArray [i64 (r_Pane), i64 (r_X), i64 (r_Y), i64 (r_W), i64 (r_H)]) _ _) :: (b12, .cells (List.toArray [i64 (r_Pane), i64 (r_X), i64 (r_Y), i64 (r_W), i64 (r_H)]) _ _) :: (b8, _) :: (b6, _) :: (b4, _) :: (b2, _) :: _) (fun b11 b12 => [(0, _), (1, _), (2, _), (3, _), (4, _), (5, _), (6, _), (7, _), (8, _)])
 ·refine WC.rH hs9 hs9 (fun _ hs13 => ?_)
  refine WH.rn [0, 1] hs13 [2, 2] rfl rfl (WH.all [2, 3] (by kernel_rfl) rfl (WHs.cons (i := 2) rfl ?_ (WHs.cons (i := 3) rfl ?_ WHs.nil)))
  ·refine WL.al hs13 Tryz.zeroValue71 rfl rfl (fun b14 _ hs15 => WL.nil ⟨hs15.d1, WH.o1 3 rfl (WL.al hs15 Tryz.zeroValue71 rfl rfl (fun b16 _ hs17 => WL.nil ⟨hs17.d1.d1, WH.o1 4 rfl (WL.st tbk hs17 1 rfl rfl (fun _ hs18 => WL.nil ⟨hs18.d1.d1, ?_⟩))⟩))⟩)
   refine WH.o1 5 rfl (WL.st tbk hs18 0 rfl rfl (fun _ hs19 => WL.nil ⟨hs19.d1.d1, WH.dn (⟨rfl, b14, b16, (St.swap [] hs19), ⟨rfl, rfl, rfl, rfl, rfl, rfl, rfl, rfl, rfl, trivial⟩⟩)⟩))
  refine WL.al hs13 Tryz.zeroValue71 rfl rfl (fun b20 _ hs21 => WL.nil ⟨hs21.d1, WH.o1 2 rfl (WL.al hs21 Tryz.zeroValue71 rfl rfl (fun b22 _ hs23 => WL.nil ⟨hs23.d1.d1, WH.o1 4 rfl (WL.st tbk hs23 0 rfl rfl (fun _ hs24 => WL.nil ⟨hs24.d1.d1, ?_⟩))⟩))⟩)
  refine WH.o1 5 rfl (WL.st tbk hs24 1 rfl rfl (fun _ hs25 => WL.nil ⟨hs25.d1.d1, WH.dn (⟨rfl, b22, b20, hs25, ⟨rfl, rfl, rfl, rfl, rfl, rfl, rfl, rfl, rfl, trivial⟩⟩)⟩))
 ·rintro f_hs26 whs26 ⟨b11, b12, hs26, hG27⟩
  replace hs26 : St _ _ _ _ := hs26
  refine hK10 _ _ (WC.sub _ hG27 (WC.r1 hs26 [4] rfl (WC.seq (fun K28 hK28 => WC.r1 hs26 [5] rfl ?_))))
  refine WC.cq rfl (fun h29 qh29 => ?_) (fun h29 qh29 => ?_)
  ·have hd : n_Down = true := qh29
   have e1 : firstR (⟨n_Pane, n_Down, n_First⟩ : NodeD) (⟨r_Pane, r_X, r_Y, r_W, r_H⟩ : RectD) = ⟨r_Pane, r_X, r_Y, r_W, min n_First (r_H - 2)⟩ := by simp [firstR, hd]
   have e2 : secondR (⟨n_Pane, n_Down, n_First⟩ : NodeD) (⟨r_Pane, r_X, r_Y, r_W, r_H⟩ : RectD) = ⟨r_Pane, r_X, r_Y + min n_First (r_H - 2) + 1, r_W, r_H - min n_First (r_H - 2) - 1⟩ := by simp [secondR, hd]
   have e3 : sizeR (⟨n_Pane, n_Down, n_First⟩ : NodeD) (⟨r_Pane, r_X, r_Y, r_W, r_H⟩ : RectD) = r_H := by simp [sizeR, hd]
   refine WC.region (WL.r 3 hs26 [4] rfl (WL.nil (hK28 _ _ (WC.r1 hs26 [5] rfl (WC.seq (fun K30 hK30 => WC.r1 hs26 [5] rfl (WC.condT rfl h29 ?_)))))))
   apply WC.join0 ((b11, .cells (List.toArray [i64 (r_Pane), i64 (r_X), i64 (r_Y), i64 (r_W), i64 (min n_First (r_H - 2))]) _ _) :: (b12, .cells (List.toArray [i64 (r_Pane), i64 (r_X), i64 (r_Y + min n_First (r_H - 2) + 1), i64 (r_W), i64 (r_H - min n_First (r_H - 2) - 1)]) _ _) :: (b8, _) :: (b6, _) :: (b4, _) :: (b2, _) :: _) ([(0, _), (1, _), (2, _), (3, _), (4, _), (5, _), (6, _), (7, _), (8, _), (9, _), (10, _), (13, _), (14, _), (15, _), (16, _), (17, _), (18, _), (19, _), (20, _), (21, _), (22, _), (23, _), (24, _), (25, _)])
   ·refine WC.rH hs26.d1.d1 hs26 (fun _ hs32 => ?_)
    refine WH.rn [0, 1, 2, 3, 4, 5, 6, 7, 8, 9, 10] hs32.d1.d1 [2] rfl rfl (WH.o1 11 rfl (WL.st tbk hs32 0 rfl rfl (fun _ hs33 => WL.nil ⟨hs33.d1.d1, WH.rn [12] hs33.d1.d1 [] rfl rfl (WH.o1 13 rfl (WL.st tbk hs33 1 rfl rfl (fun _ hs34 => WL.nil ⟨hs34.d1.d1, ?_⟩)))⟩)))
    refine WH.rn [14] hs34.d1.d1 [] rfl rfl (WH.o1 15 rfl (WL.st tbk hs34 1 rfl rfl (fun _ hs35 => WL.nil ⟨hs35.d1.d1, WH.dn (⟨rfl, hs35, ⟨rfl, rfl, rfl, rfl, rfl, rfl, rfl, rfl, rfl, rfl, rfl, rfl, rfl, rfl, rfl, rfl, rfl, rfl, rfl, rfl, rfl, rfl, rfl, rfl, trivial⟩⟩)⟩)))
   ·rintro f_hs36 whs36 ⟨hs36, hG37⟩
    replace hs36 : St _ _ _ _ := hs36
    refine hK30 _ _ (WC.sub _ hG37 (WC.seq (fun K38 hK38 => ?_)))
    apply WC.join0 ((b11, _) :: (b12, _) :: (b8, .cells (List.toArray [i64 (r_Pane), i64 (r_X), i64 (r_Y + min n_First (r_H - 2) + 1), i64 (r_W), i64 (r_H - min n_First (r_H - 2) - 1)]) _ _) :: (b6, .cells (List.toArray [i64 (r_Pane), i64 (r_X), i64 (r_Y), i64 (r_W), i64 (min n_First (r_H - 2))]) _ _) :: (b4, _) :: (b2, _) :: _) ([(0, _), (1, _), (2, _), (3, _), (4, _), (5, _), (7, _), (8, _), (9, _), (10, _), (13, _), (14, _), (15, _), (16, _), (17, _), (18, _), (19, _), (20, _), (21, _), (22, _), (23, _), (24, _), (25, _), (6, _)])
    ·refine WC.rH ((hs36.fb b8).d1.fb b6).d1 hs36 (fun _ hs39 => ?_)
     refine WH.rn [0, 1, 2, 3] ((hs39.fb b8).d1.fb b6).d1 [0, 1] rfl rfl (WH.o1 4 rfl (WL.st tbk hs39 3 rfl rfl (fun _ hs40 => WL.nil ⟨((hs40.fb b8).d1.fb b6).d1, WH.o1 5 rfl (WL.st tbk hs40 2 rfl rfl (fun _ hs41 => WL.nil ⟨((hs41.fb b8).d1.fb b6).d1, WH.rn [6] ((hs41.fb b8).d1.fb b6).d1 [] rfl rfl ?_⟩))⟩)))
     refine WH.dn (⟨rfl, hs41, ⟨rfl, rfl, rfl, rfl, rfl, rfl, rfl, rfl, rfl, rfl, rfl, rfl, rfl, rfl, rfl, rfl, rfl, rfl, rfl, rfl, rfl, rfl, rfl, rfl, trivial⟩⟩)
    ·rintro f_hs42 whs42 ⟨hs42, hG43⟩
     replace hs42 : St _ _ _ _ := hs42
     refine hK38 _ _ (WC.sub _ hG43 (WC.ret (retV3 rfl (resV.cellA tbk hs42 3 rfl rfl rfl rfl) (resV.cellA tbk hs42 2 rfl rfl rfl rfl) (resV.tmp rfl) (⟨congrArg Ending.returned ?_, hs42.nil⟩))))
     rw [e1, e2, e3]; rfl
  have hd : n_Down = false := qh29
  have e1 : firstR (⟨n_Pane, n_Down, n_First⟩ : NodeD) (⟨r_Pane, r_X, r_Y, r_W, r_H⟩ : RectD) = ⟨r_Pane, r_X, r_Y, min n_First (r_W - 2), r_H⟩ := by simp [firstR, hd]
  have e2 : secondR (⟨n_Pane, n_Down, n_First⟩ : NodeD) (⟨r_Pane, r_X, r_Y, r_W, r_H⟩ : RectD) = ⟨r_Pane, r_X + min n_First (r_W - 2) + 1, r_Y, r_W - min n_First (r_W - 2) - 1, r_H⟩ := by simp [secondR, hd]
  have e3 : sizeR (⟨n_Pane, n_Down, n_First⟩ : NodeD) (⟨r_Pane, r_X, r_Y, r_W, r_H⟩ : RectD) = r_W := by simp [sizeR, hd]
  refine WC.skip (hK28 _ _ (WC.r1 hs26 [5] rfl (WC.seq (fun K44 hK44 => WC.r1 hs26 [5] rfl (WC.condF rfl h29 ?_)))))
  apply WC.join0 ((b11, .cells (List.toArray [i64 (r_Pane), i64 (r_X), i64 (r_Y), i64 (min n_First (r_W - 2)), i64 (r_H)]) _ _) :: (b12, .cells (List.toArray [i64 (r_Pane), i64 (r_X + min n_First (r_W - 2) + 1), i64 (r_Y), i64 (r_W - min n_First (r_W - 2) - 1), i64 (r_H)]) _ _) :: (b8, _) :: (b6, _) :: (b4, _) :: (b2, _) :: _) ([(0, _), (1, _), (2, _), (3, _), (4, _), (5, _), (6, _), (7, _), (8, _), (9, _), (10, _), (13, _), (14, _), (15, _), (16, _), (19, _), (20, _), (21, _), (22, _), (23, _), (24, _), (25, _)])
  ·refine WC.rH hs26.d1.d1 hs26 (fun _ hs46 => ?_)
   refine WH.rn [0, 1, 2, 3, 4, 5, 6, 7, 8, 9, 10] hs46.d1.d1 [2] rfl rfl (WH.o1 11 rfl (WL.st tbk hs46 0 rfl rfl (fun _ hs47 => WL.nil ⟨hs47.d1.d1, WH.rn [12] hs47.d1.d1 [] rfl rfl (WH.o1 13 rfl (WL.st tbk hs47 1 rfl rfl (fun _ hs48 => WL.nil ⟨hs48.d1.d1, ?_⟩)))⟩)))
   refine WH.rn [14] hs48.d1.d1 [] rfl rfl (WH.o1 15 rfl (WL.st tbk hs48 1 rfl rfl (fun _ hs49 => WL.nil ⟨hs49.d1.d1, WH.dn (⟨rfl, hs49, ⟨rfl, rfl, rfl, rfl, rfl, rfl, rfl, rfl, rfl, rfl, rfl, rfl, rfl, rfl, rfl, rfl, rfl, rfl, rfl, rfl, rfl, rfl, trivial⟩⟩)⟩)))
  ·rintro f_hs50 whs50 ⟨hs50, hG51⟩
   replace hs50 : St _ _ _ _ := hs50
   refine hK44 _ _ (WC.sub _ hG51 (WC.seq (fun K52 hK52 => ?_)))
   apply WC.join0 ((b11, _) :: (b12, _) :: (b8, .cells (List.toArray [i64 (r_Pane), i64 (r_X + min n_First (r_W - 2) + 1), i64 (r_Y), i64 (r_W - min n_First (r_W - 2) - 1), i64 (r_H)]) _ _) :: (b6, .cells (List.toArray [i64 (r_Pane), i64 (r_X), i64 (r_Y), i64 (min n_First (r_W - 2)), i64 (r_H)]) _ _) :: (b4, _) :: (b2, _) :: _) ([(0, _), (1, _), (2, _), (3, _), (4, _), (5, _), (7, _), (8, _), (9, _), (10, _), (13, _), (14, _), (15, _), (16, _), (19, _), (20, _), (21, _), (22, _), (23, _), (24, _), (25, _), (6, _)])
   ·refine WC.rH ((hs50.fb b8).d1.fb b6).d1 hs50 (fun _ hs53 => ?_)
    refine WH.rn [0, 1, 2, 3] ((hs53.fb b8).d1.fb b6).d1 [0, 1] rfl rfl (WH.o1 4 rfl (WL.st tbk hs53 3 rfl rfl (fun _ hs54 => WL.nil ⟨((hs54.fb b8).d1.fb b6).d1, WH.o1 5 rfl (WL.st tbk hs54 2 rfl rfl (fun _ hs55 => WL.nil ⟨((hs55.fb b8).d1.fb b6).d1, WH.rn [6] ((hs55.fb b8).d1.fb b6).d1 [] rfl rfl ?_⟩))⟩)))
    refine WH.dn (⟨rfl, hs55, ⟨rfl, rfl, rfl, rfl, rfl, rfl, rfl, rfl, rfl, rfl, rfl, rfl, rfl, rfl, rfl, rfl, rfl, rfl, rfl, rfl, rfl, rfl, trivial⟩⟩)
   ·rintro f_hs56 whs56 ⟨hs56, hG57⟩
    replace hs56 : St _ _ _ _ := hs56
    refine hK52 _ _ (WC.sub _ hG57 (WC.ret (retV3 rfl (resV.cellA tbk hs56 3 rfl rfl rfl rfl) (resV.cellA tbk hs56 2 rfl rfl rfl rfl) (resV.tmp rfl) (⟨congrArg Ending.returned ?_, hs56.nil⟩))))
    rw [e1, e2, e3]; rfl
theorem k39_ (f : Int) (n : Int) (w : World) (hb : -1000000 ≤ n ∧ n ≤ 1000000) :
    Calls Tryz.prog 214 #[i64 f, i64 n] w fun e w' => e = .returned (.int .i64 (min f (n - 2))) ∧ St w [] [] w' := by
 refine enter 12 Tryz.func214 rfl Tryz.ntmps214 rfl rfl ?_
 have hs1 := St.init w
 refine WC.r1 hs1 [] rfl (WC.seq (fun K2 hK2 => WC.r1 hs1 [] rfl ?_))
 refine WC.cD rfl (fun qh3 => ?_) (fun qh3 => ?_)
 ·refine WC.r1 hs1 [] rfl (WC.ret (tkR ?_))
  clear hK2
  refine rtv rfl rfl hs1 ?_
  refine congrArg (Value.int .i64) ?_; omega
 refine WC.skip (hK2 _ _ (WC.r1 hs1 [] rfl (WC.ret (rtv rfl rfl hs1 ?_))))
 refine congrArg (Value.int .i64) ?_; omega
set_option maxHeartbeats 2000000 in
theorem k40_ (m_ : Nat) : ∀ (A_t : Option Addr) (n_t c_t : Nat) (t : List NodeD) (at_ : Int) (i : Nat) (r_Pane : Int) (r_X : Int) (r_Y : Int) (r_W : Int) (r_H : Int) (S : Tr) (w : World) (f_t : SlF encNode w A_t n_t t) (hn : n_t ≤ 268435456) (hat : at_ = (i : Int)) (hS : At t i S) (hr : Fine (⟨r_Pane, r_X, r_Y, r_W, r_H⟩ : RectD)) (hm_ : S.flat.length = m_), Calls Tryz.prog 172 #[.slice A_t n_t c_t, i64 at_, .agg #[i64 r_Pane, i64 r_X, i64 r_Y, i64 r_W, i64 r_H]] w fun e w' => ∃ A c L1, e = .returned (.tuple #[.slice A ((placeS S (⟨r_Pane, r_X, r_Y, r_W, r_H⟩ : RectD)).1).length c, .bool (placeS S (⟨r_Pane, r_X, r_Y, r_W, r_H⟩ : RectD)).2]) ∧ St w [] L1 w' ∧ OwnF encRect 71 (.slice A ((placeS S (⟨r_Pane, r_X, r_Y, r_W, r_H⟩ : RectD)).1).length c) ((placeS S (⟨r_Pane, r_X, r_Y, r_W, r_H⟩ : RectD)).1) L1 := by
 induction m_ using Nat.strongRecOn with
 | ind m_ IH =>
  intro A_t n_t c_t t at_ i r_Pane r_X r_Y r_W r_H S w f_t hn hat hS hr hm_
  subst hat
  have hl := f_t.len
  have hlt := hS.lt
  have hnode := hS.ok (gat encNode t i) (by have := hS.head; exact List.mem_of_mem_head? this)
  have hpb := nodeOk_pane hnode
  obtain ⟨hr0, hr1, hr2, hr3, hr4, hr5, hr6⟩ := id hr
  simp only at hr0 hr1 hr2 hr3 hr4 hr5 hr6
  refine enter 102 Tryz.func172 rfl Tryz.ntmps172 rfl rfl ?_
  have hs1 := St.init w
  refine WC.sr (WL.bx hs1 rfl (fun b2 _ hs3 => WL.r 2 hs3 [] rfl (WL.nil (WC.sr (WL.r 2 hs3 [] rfl ?_)))))
  refine WL.val rfl rfl rfl (Run.idxN Tryz.runUnderlying56 Tryz.sizeOf103 rfl rfl rfl ?_ ?_ ?_) ?_
  · exact SlF.some_ (SlF.st0 f_t hs3)
  · omega
  · omega
  refine WL.val rfl rfl rfl (Run.loadA Tryz.isAgg103 Tryz.sizeOf103 rfl rfl (SlF.whole (SlF.st0 f_t hs3) ?_)) ?_
  · omega
  refine WL.al hs3 Tryz.zeroValue103 rfl rfl (fun b4 _ hs5 => WL.st tbk hs5 0 rfl rfl (fun _ hs6 => WL.nil (WC.seq (fun K7 hK7 => WC.r1 hs6 [0] rfl ?_))))
  refine WC.cD rfl (fun qh8 => ?_) (fun qh8 => ?_)
  ·have hlf : isSplit t i = false := by simp [isSplit]; omega
   have hSe := hS.of_leaf hlf
   subst hSe
   refine WC.sr (WL.r 3 hs6 [0] rfl (WL.st tbk hs6 1 rfl rfl (fun _ hs9 => WL.nil (WC.sr (WL.r 1 hs9 [1] rfl (WL.buildF (F := encRect) hs9 ([⟨(gat encNode t i).Pane, r_X, r_Y, r_W, r_H⟩]) Tryz.runUnderlying158 Tryz.sizeOf71 Tryz.zeroValue71 rfl rfl rfl rfl rfl rfl rfl rfl rfl rfl rfl rfl (fun A13 c14 L10 whs11 hs11 ho12 => ?_)))))))
   replace hs11 := St.back [_, _] hs11
   refine WL.r 2 hs11 [] rfl (WL.nil (WC.ret (tkR ?_)))
   clear hK7
   refine retV2 rfl (resV.tmp rfl) (resV.tmp rfl) (⟨_, _, _, rfl, (St.keep1 (hs11.fr L10)), ho12⟩)
  have hsp : isSplit t i = true := by simp [isSplit]; omega
  obtain ⟨n, a, b, rfl⟩ := hS.of_split hsp
  obtain ⟨hn', ha, hb⟩ := hS.parts
  subst hn'
  have hF : 1 ≤ (gat encNode t i).First ∧ (gat encNode t i).First ≤ 120 := by
    have := hnode; rw [nodeOk, if_pos (by simpa [isSplit] using hsp), within_iff] at this; exact this
  have hle := hS.le
  simp only [Tr.flat, List.length_cons, List.length_append] at hle
  refine WC.skip (hK7 _ _ (WC.sr (WL.r 1 hs6 [1] rfl (WL.al hs6 Tryz.zeroValue71 rfl rfl (fun b15 _ hs16 => WL.st tbk hs16 0 rfl rfl (fun _ hs17 => WL.nil (WC.sr ?_)))))))
  refine WL.r 1 hs17 [2] rfl (WL.al hs17 Tryz.zeroValue71 rfl rfl (fun b18 _ hs19 => WL.st tbk hs19 0 rfl rfl (fun _ hs20 => WL.nil (WC.seq (fun K21 hK21 => WC.r1 hs20 [2] rfl ?_)))))
  refine WC.cq rfl (fun h22 qh22 => ?_) (fun h22 qh22 => ?_)
  ·have hd : (gat encNode t i).Down = true := qh22
   refine WC.seq (fun K23 hK23 => WC.r1 hs20 [3] rfl ?_)
   refine WC.cD rfl (fun qh24 => ?_) (fun qh24 => ?_)
   ·have hpl : placeS (.split (gat encNode t i) a b) (⟨r_Pane, r_X, r_Y, r_W, r_H⟩ : RectD) = ([], false) := by
      have : ¬ 3 ≤ sizeR (gat encNode t i) (⟨r_Pane, r_X, r_Y, r_W, r_H⟩ : RectD) := by simp only [sizeR, hd]; simp; omega
      simp only [placeS, if_neg this]
    refine WC.r1 hs20 [] rfl (WC.ret (tkR (tkR ?_)))
    clear hK23 hK21
    refine retV2 rfl (resV.tmp rfl) (resV.tmp rfl) ?_
    rw [hpl]
    exact ⟨_, _, _, rfl, hs20.nil, OwnF.nil encRect 71⟩
   have hs3 : 3 ≤ sizeR (gat encNode t i) (⟨r_Pane, r_X, r_Y, r_W, r_H⟩ : RectD) := by simp only [sizeR, hd]; simp; omega
   have hfe : firstR (gat encNode t i) (⟨r_Pane, r_X, r_Y, r_W, r_H⟩ : RectD) = ⟨r_Pane, r_X, r_Y, r_W, min (gat encNode t i).First (r_H - 2)⟩ := by simp [firstR, hd]
   have hse : secondR (gat encNode t i) (⟨r_Pane, r_X, r_Y, r_W, r_H⟩ : RectD) = ⟨r_Pane, r_X, r_Y + min (gat encNode t i).First (r_H - 2) + 1, r_W, r_H - min (gat encNode t i).First (r_H - 2) - 1⟩ := by simp [secondR, hd]
   have hpl : placeS (.split (gat encNode t i) a b) (⟨r_Pane, r_X, r_Y, r_W, r_H⟩ : RectD) = ((placeS a ⟨r_Pane, r_X, r_Y, r_W, min (gat encNode t i).First (r_H - 2)⟩).1 ++ (placeS b ⟨r_Pane, r_X, r_Y + min (gat encNode t i).First (r_H - 2) + 1, r_W, r_H - min (gat encNode t i).First (r_H - 2) - 1⟩).1, (placeS a ⟨r_Pane, r_X, r_Y, r_W, min (gat encNode t i).First (r_H - 2)⟩).2 && (placeS b ⟨r_Pane, r_X, r_Y + min (gat encNode t i).First (r_H - 2) + 1, r_W, r_H - min (gat encNode t i).First (r_H - 2) - 1⟩).2) := by simp only [placeS, if_pos hs3, hfe, hse]
   refine WC.skip (hK23 _ _ (WC.sr (WL.r 4 hs20 [2, 3] rfl ?_)))
   refine WL.cl Tryz.call214 rfl (k39_ _ _ _ ?_) ?_
   · first | assumption | rfl | omega
   rintro _ whs25 ⟨rfl, hs25⟩
   replace hs25 := hs20.call0 hs25
   refine ⟨_, rfl, WL.r 1 hs25 [] rfl (WL.st tbk hs25 1 rfl rfl (fun _ hs26 => WL.nil (WC.sr (WL.r 7 hs26 [3, 1] rfl (WL.st tbk hs26 0 rfl rfl (fun _ hs27 => WL.nil ?_))))))⟩
   refine WC.region (WL.r 7 hs27 [3, 1] rfl (WL.st tbk hs27 0 rfl rfl (fun _ hs28 => WL.nil (hK21 _ _ (WC.sr (WL.r 4 hs28 [1] rfl ?_))))))
   refine WL.cl Tryz.call172 rfl (IH _ ?_ _ _ _ _ _ (i + 1) _ _ _ _ _ a _ (SlF.st0 f_t hs28) ?_ ?_ ?_ ?_ rfl) ?_
   · (rw [← hm_]; simp only [Tr.flat, List.length_cons, List.length_append]; omega)
   · exact hn
   · rfl
   · exact ha
   · exact hfe ▸ Fine.first hr hF.1 hs3
   rintro _ whs29 ⟨A30, c31, L1_32, rfl, hs29, ho33⟩
   replace hs29 := hs28.callF hs29
   refine ⟨_, rfl, ?_⟩
   replace hs29 := St.back [_, _, _, _] hs29
   refine WL.r 5 hs29 [] rfl (WL.nil (WC.seq (fun K34 hK34 => WC.rH hs29 hs29 (fun _ hs35 => ?_))))
   refine WH.rn [0, 1, 2, 3, 5] hs35 [0] rfl rfl (WH.o1 4 rfl (WL.cl Tryz.call161 rfl (k23_ _ _ _ _ (i + 1) _ (SlF.st0 f_t hs35) ?_ ?_) ?_))
   iterate 2 omega
   rintro _ whs36 ⟨rfl, hs36⟩
   replace hs36 := hs35.call0 hs36
   refine ⟨_, rfl, WL.nil ⟨hs36, WH.o1 6 rfl (WL.cl Tryz.call172 rfl (IH _ ?_ _ _ _ _ _ (i + 1 + a.flat.length) _ _ _ _ _ b _ (SlF.st0 f_t hs36) ?_ ?_ ?_ ?_ rfl) ?_)⟩⟩
   · (rw [← hm_]; simp only [Tr.flat, List.length_cons, List.length_append]; omega)
   · exact hn
   · (have := ha.sEnd; omega)
   · exact hb
   · exact hse ▸ Fine.second hr hF.1 hs3
   rintro _ whs37 ⟨A38, c39, L1_40, rfl, hs37, ho41⟩
   replace hs37 := hs36.callF hs37
   refine ⟨_, rfl, ?_⟩
   replace hs37 := St.back [_, _, _, _] hs37
   refine WL.nil ⟨(hs37.rm L1_40), WH.rn [7, 8, 9, 10, 11] (hs37.rm L1_40) [] rfl rfl (WH.dn (hK34 _ _ (WC.sr (WL.r 2 hs37 [] rfl ?_))))⟩
   refine WL.appendG (hs37.fr L1_32) ho33 (SlF.src (SlF.ofOwn ho41 (hs37.ow L1_40)) Tryz.underlying158) Tryz.underlying158 inf71 rfl rfl rfl rfl rfl rfl rfl rfl rfl rfl ?_ (fun A45 c46 L42 whs43 hs43 ho44 => ?_)
   · refine Nat.le_trans (Nat.add_le_add placeS_len placeS_len) ?_; omega
   replace hs43 := St.back [_, _, _, _] hs43
   refine WL.r 2 hs43 [] rfl (WL.pA tbk 1 Acts.nil hs43 [] rfl rfl rfl rfl (fun g_ => trivial) (WL.r 2 hs43 [] rfl (WL.nil (WC.ret (retV2 rfl (resV.tmp rfl) (resV.tmp rfl) ?_)))))
   rw [hpl]
   exact ⟨_, _, _, rfl, (St.keep1 (hs43.fr L42)), ho44⟩
  have hd : (gat encNode t i).Down = false := qh22
  refine WC.seq (fun K47 hK47 => WC.r1 hs20 [3] rfl ?_)
  refine WC.cD rfl (fun qh48 => ?_) (fun qh48 => ?_)
  ·have hpl : placeS (.split (gat encNode t i) a b) (⟨r_Pane, r_X, r_Y, r_W, r_H⟩ : RectD) = ([], false) := by
     have : ¬ 3 ≤ sizeR (gat encNode t i) (⟨r_Pane, r_X, r_Y, r_W, r_H⟩ : RectD) := by simp only [sizeR, hd]; simp; omega
     simp only [placeS, if_neg this]
   refine WC.r1 hs20 [] rfl (WC.ret (tkR (tkR ?_)))
   clear hK47 hK21
   refine retV2 rfl (resV.tmp rfl) (resV.tmp rfl) ?_
   rw [hpl]
   exact ⟨_, _, _, rfl, hs20.nil, OwnF.nil encRect 71⟩
  have hs3 : 3 ≤ sizeR (gat encNode t i) (⟨r_Pane, r_X, r_Y, r_W, r_H⟩ : RectD) := by simp only [sizeR, hd]; simp; omega
  have hfe : firstR (gat encNode t i) (⟨r_Pane, r_X, r_Y, r_W, r_H⟩ : RectD) = ⟨r_Pane, r_X, r_Y, min (gat encNode t i).First (r_W - 2), r_H⟩ := by simp [firstR, hd]
  have hse : secondR (gat encNode t i) (⟨r_Pane, r_X, r_Y, r_W, r_H⟩ : RectD) = ⟨r_Pane, r_X + min (gat encNode t i).First (r_W - 2) + 1, r_Y, r_W - min (gat encNode t i).First (r_W - 2) - 1, r_H⟩ := by simp [secondR, hd]
  have hpl : placeS (.split (gat encNode t i) a b) (⟨r_Pane, r_X, r_Y, r_W, r_H⟩ : RectD) = ((placeS a ⟨r_Pane, r_X, r_Y, min (gat encNode t i).First (r_W - 2), r_H⟩).1 ++ (placeS b ⟨r_Pane, r_X + min (gat encNode t i).First (r_W - 2) + 1, r_Y, r_W - min (gat encNode t i).First (r_W - 2) - 1, r_H⟩).1, (placeS a ⟨r_Pane, r_X, r_Y, min (gat encNode t i).First (r_W - 2), r_H⟩).2 && (placeS b ⟨r_Pane, r_X + min (gat encNode t i).First (r_W - 2) + 1, r_Y, r_W - min (gat encNode t i).First (r_W - 2) - 1, r_H⟩).2) := by simp only [placeS, if_pos hs3, hfe, hse]
  refine WC.skip (hK47 _ _ (WC.sr (WL.r 4 hs20 [2, 3] rfl ?_)))
  refine WL.cl Tryz.call214 rfl (k39_ _ _ _ ?_) ?_
  · first | assumption | rfl | omega
  rintro _ whs49 ⟨rfl, hs49⟩
  replace hs49 := hs20.call0 hs49
  refine ⟨_, rfl, WL.r 1 hs49 [] rfl (WL.st tbk hs49 1 rfl rfl (fun _ hs50 => WL.nil (WC.sr (WL.r 7 hs50 [3, 1] rfl (WL.st tbk hs50 0 rfl rfl (fun _ hs51 => WL.nil ?_))))))⟩
  refine WC.region (WL.r 7 hs51 [3, 1] rfl (WL.st tbk hs51 0 rfl rfl (fun _ hs52 => WL.nil (hK21 _ _ (WC.sr (WL.r 4 hs52 [1] rfl ?_))))))
  refine WL.cl Tryz.call172 rfl (IH _ ?_ _ _ _ _ _ (i + 1) _ _ _ _ _ a _ (SlF.st0 f_t hs52) ?_ ?_ ?_ ?_ rfl) ?_
  · (rw [← hm_]; simp only [Tr.flat, List.length_cons, List.length_append]; omega)
  · exact hn
  · rfl
  · exact ha
  · exact hfe ▸ Fine.first hr hF.1 hs3
  rintro _ whs53 ⟨A54, c55, L1_56, rfl, hs53, ho57⟩
  replace hs53 := hs52.callF hs53
  refine ⟨_, rfl, ?_⟩
  replace hs53 := St.back [_, _, _, _] hs53
  refine WL.r 5 hs53 [] rfl (WL.nil (WC.seq (fun K58 hK58 => WC.rH hs53 hs53 (fun _ hs59 => ?_))))
  refine WH.rn [0, 1, 2, 3, 5] hs59 [0] rfl rfl (WH.o1 4 rfl (WL.cl Tryz.call161 rfl (k23_ _ _ _ _ (i + 1) _ (SlF.st0 f_t hs59) ?_ ?_) ?_))
  iterate 2 omega
  rintro _ whs60 ⟨rfl, hs60⟩
  replace hs60 := hs59.call0 hs60
  refine ⟨_, rfl, WL.nil ⟨hs60, WH.o1 6 rfl (WL.cl Tryz.call172 rfl (IH _ ?_ _ _ _ _ _ (i + 1 + a.flat.length) _ _ _ _ _ b _ (SlF.st0 f_t hs60) ?_ ?_ ?_ ?_ rfl) ?_)⟩⟩
  · (rw [← hm_]; simp only [Tr.flat, List.length_cons, List.length_append]; omega)
  · exact hn
  · (have := ha.sEnd; omega)
  · exact hb
  · exact hse ▸ Fine.second hr hF.1 hs3
  rintro _ whs61 ⟨A62, c63, L1_64, rfl, hs61, ho65⟩
  replace hs61 := hs60.callF hs61
  refine ⟨_, rfl, ?_⟩
  replace hs61 := St.back [_, _, _, _] hs61
  refine WL.nil ⟨(hs61.rm L1_64), WH.rn [7, 8, 9, 10, 11] (hs61.rm L1_64) [] rfl rfl (WH.dn (hK58 _ _ (WC.sr (WL.r 2 hs61 [] rfl ?_))))⟩
  refine WL.appendG (hs61.fr L1_56) ho57 (SlF.src (SlF.ofOwn ho65 (hs61.ow L1_64)) Tryz.underlying158) Tryz.underlying158 inf71 rfl rfl rfl rfl rfl rfl rfl rfl rfl rfl ?_ (fun A69 c70 L66 whs67 hs67 ho68 => ?_)
  · refine Nat.le_trans (Nat.add_le_add placeS_len placeS_len) ?_; omega
  replace hs67 := St.back [_, _, _, _] hs67
  refine WL.r 2 hs67 [] rfl (WL.pA tbk 1 Acts.nil hs67 [] rfl rfl rfl rfl (fun g_ => trivial) (WL.r 2 hs67 [] rfl (WL.nil (WC.ret (retV2 rfl (resV.tmp rfl) (resV.tmp rfl) ?_)))))
  rw [hpl]
  exact ⟨_, _, _, rfl, (St.keep1 (hs67.fr L66)), ho68⟩
theorem k41_ (A_t : Option Addr) (n_t c_t : Nat) (t : List NodeD) (at_ : Int) (i : Nat) (r_Pane : Int) (r_X : Int) (r_Y : Int) (r_W : Int) (r_H : Int) (S : Tr) (w : World) (f_t : SlF encNode w A_t n_t t) (hn : n_t ≤ 268435456) (hat : at_ = (i : Int)) (hS : At t i S) (hr : Fine (⟨r_Pane, r_X, r_Y, r_W, r_H⟩ : RectD)) :
    Calls Tryz.prog 172 #[.slice A_t n_t c_t, i64 at_, .agg #[i64 r_Pane, i64 r_X, i64 r_Y, i64 r_W, i64 r_H]] w fun e w' => ∃ A c L1, e = .returned (.tuple #[.slice A ((placeS S (⟨r_Pane, r_X, r_Y, r_W, r_H⟩ : RectD)).1).length c, .bool (placeS S (⟨r_Pane, r_X, r_Y, r_W, r_H⟩ : RectD)).2]) ∧ St w [] L1 w' ∧ OwnF encRect 71 (.slice A ((placeS S (⟨r_Pane, r_X, r_Y, r_W, r_H⟩ : RectD)).1).length c) ((placeS S (⟨r_Pane, r_X, r_Y, r_W, r_H⟩ : RectD)).1) L1 := k40_ _ A_t n_t c_t t at_ i r_Pane r_X r_Y r_W r_H S w f_t hn hat hS hr rfl
set_option maxHeartbeats 2000000 in
theorem k42_ (m_ : Nat) : ∀ (A_t : Option Addr) (n_t c_t : Nat) (t : List NodeD) (at_ : Int) (i : Nat) (r_Pane r_X r_Y r_W r_H : Int) (S : Tr) (b_t b_o b_f b_p : Nat) (A_o : Option Addr) (c_o : Nat) (zs : List RectD) (L_o : Hp) (w : World) (f_t : SlF encNode w A_t n_t t) (g_t : SlF encH w (some ⟨b_t, 0, none⟩) 1 [⟨A_t, n_t, c_t⟩]) (g_p : SlF encFn w (some ⟨b_p, 0, none⟩) 1 [⟨.func 263, [.pointer (some ⟨b_t, 0, none⟩), .pointer (some ⟨b_o, 0, none⟩), .pointer (some ⟨b_f, 0, none⟩), .pointer (some ⟨b_p, 0, none⟩)]⟩]) (o_o : OwnF encRect 71 (.slice A_o zs.length c_o) zs L_o) (hh : ∀ p, p ∈ [(b_o, Obj.cells (List.toArray [.slice A_o (zs).length c_o]) 158 (0, 0)), (b_f, Obj.cells (List.toArray [.bool true]) 4 (0, 0))] ++ L_o → w.heap[p.1]? = some p.2) (hd : (([(b_o, Obj.cells (List.toArray [.slice A_o (zs).length c_o]) 158 (0, 0)), (b_f, Obj.cells (List.toArray [.bool true]) 4 (0, 0))] ++ L_o).map (·.1)).Nodup) (s_t : 0 < n_t → (adr A_t).block ∉ (([(b_o, Obj.cells (List.toArray [.slice A_o (zs).length c_o]) 158 (0, 0)), (b_f, Obj.cells (List.toArray [.bool true]) 4 (0, 0))] ++ L_o).map (·.1))) (v_t : 0 < 1 → (adr (some ⟨b_t, 0, none⟩)).block ∉ (([(b_o, Obj.cells (List.toArray [.slice A_o (zs).length c_o]) 158 (0, 0)), (b_f, Obj.cells (List.toArray [.bool true]) 4 (0, 0))] ++ L_o).map (·.1))) (v_p : 0 < 1 → (adr (some ⟨b_p, 0, none⟩)).block ∉ (([(b_o, Obj.cells (List.toArray [.slice A_o (zs).length c_o]) 158 (0, 0)), (b_f, Obj.cells (List.toArray [.bool true]) 4 (0, 0))] ++ L_o).map (·.1))) (hn : n_t ≤ 268435456) (hat : at_ = (i : Int)) (hS : At t i S) (hr : Fine (⟨r_Pane, r_X, r_Y, r_W, r_H⟩ : RectD)) (hz : zs.length + S.flat.length ≤ 268435456) (hm_ : S.flat.length = m_), Calls Tryz.prog 263 #[i64 at_, .agg #[i64 r_Pane, i64 r_X, i64 r_Y, i64 r_W, i64 r_H], .pointer (some ⟨b_t, 0, none⟩), .pointer (some ⟨b_o, 0, none⟩), .pointer (some ⟨b_f, 0, none⟩), .pointer (some ⟨b_p, 0, none⟩)] w fun e w' => ∃ A c L1, e = .returned (.tuple #[]) ∧ St w (([(b_o, Obj.cells (List.toArray [.slice A_o (zs).length c_o]) 158 (0, 0)), (b_f, Obj.cells (List.toArray [.bool true]) 4 (0, 0))] ++ L_o).map (·.1)) ((b_o, Obj.cells (List.toArray [.slice A (zs ++ (putL S (⟨r_Pane, r_X, r_Y, r_W, r_H⟩ : RectD)).1).length c]) 158 (0, 0)) :: (b_f, Obj.cells (List.toArray [.bool (putL S (⟨r_Pane, r_X, r_Y, r_W, r_H⟩ : RectD)).2]) 4 (0, 0)) :: L1) w' ∧ OwnF encRect 71 (.slice A (zs ++ (putL S (⟨r_Pane, r_X, r_Y, r_W, r_H⟩ : RectD)).1).length c) (zs ++ (putL S (⟨r_Pane, r_X, r_Y, r_W, r_H⟩ : RectD)).1) L1 := by
 induction m_ using Nat.strongRecOn with
 | ind m_ IH =>
  intro A_t n_t c_t t at_ i r_Pane r_X r_Y r_W r_H S b_t b_o b_f b_p A_o c_o zs L_o w f_t g_t g_p o_o hh hd s_t v_t v_p hn hat hS hr hz hm_
  subst hat
  have hl := f_t.len
  have hlt := hS.lt
  have hnode := hS.ok (gat encNode t i) (by have := hS.head; exact List.mem_of_mem_head? this)
  have hpb := nodeOk_pane hnode
  obtain ⟨hr0, hr1, hr2, hr3, hr4, hr5, hr6⟩ := id hr
  simp only at hr0 hr1 hr2 hr3 hr4 hr5 hr6
  have hst0 := St.takeN w [(b_o, Obj.cells (List.toArray [.slice A_o (zs).length c_o]) 158 (0, 0)), (b_f, Obj.cells (List.toArray [.bool true]) 4 (0, 0))] L_o hh hd
  refine enter 56 Tryz.func263 rfl Tryz.ntmps263 rfl rfl ?_
  have hs1 := hst0
  refine WC.sr (WL.bx hs1 rfl (fun b2 _ hs3 => WL.nil (WC.sr (WL.val rfl rfl rfl (Run.load Tryz.isAgg56 rfl rfl (SlF.var (v := .slice A_t n_t c_t) (SlF.st g_t hs3 v_t) rfl)) (WL.r 1 hs3 [] rfl ?_)))))
  refine WL.val rfl rfl rfl (Run.idxK (i) Tryz.runUnderlying56 Tryz.sizeOf103 rfl rfl rfl ?_ ?_ ?_) ?_
  · exact SlF.some_ (SlF.st f_t hs3 s_t)
  · omega
  · omega
  refine WL.val rfl rfl rfl (Run.fieldO Tryz.runUnderlying103 rfl rfl rfl Tryz.sizeOf3 rfl) (WL.val rfl rfl rfl (Run.load Tryz.isAgg3 rfl rfl (SlF.fld (SlF.st f_t hs3 s_t) ?_ rfl)) ?_)
  · omega
  refine WL.r 1 hs3 [] rfl (WL.st tbk hs3 0 rfl rfl (fun _ hs4 => WL.nil (WC.sr (WL.r 2 hs4 [1, 0] rfl (WL.buildSlice hs4 Tryz.runUnderlying158 Tryz.sizeOf71 Tryz.zeroValue71 rfl rfl rfl rfl rfl rfl rfl rfl rfl rfl (fun b5 whs6 hs6 => ?_))))))
  refine WL.appendG (hs6.fr L_o) o_o (srcF (F := encRect) (ys := [⟨(gat encNode t i).Pane, r_X, r_Y, r_W, r_H⟩]) Tryz.underlying158 rfl rfl (hs6.own _ (nthL_mem (i := 0) rfl)).1) Tryz.underlying158 inf71 rfl rfl rfl rfl rfl rfl rfl rfl rfl rfl ?_ (fun A10 c11 L7 whs8 hs8 ho9 => ?_)
  · simp only [List.length_cons, List.length_nil]; omega
  replace hs8 := St.back [_, _, _, _] hs8
  refine WL.st tbk hs8 2 rfl rfl (fun _ hs12 => WL.nil (WC.seq (fun K13 hK13 => WC.sr (WL.val rfl rfl rfl (Run.load Tryz.isAgg56 rfl rfl (SlF.var (v := .slice A_t n_t c_t) (SlF.st g_t hs12 v_t) rfl)) (WL.r 1 hs12 [] rfl ?_)))))
  refine WL.val rfl rfl rfl (Run.idxK (i) Tryz.runUnderlying56 Tryz.sizeOf103 rfl rfl rfl ?_ ?_ ?_) ?_
  · exact SlF.some_ (SlF.st f_t hs12 s_t)
  · omega
  · omega
  refine WL.val rfl rfl rfl (Run.loadA Tryz.isAgg103 Tryz.sizeOf103 rfl rfl (SlF.whole (SlF.st f_t hs12 s_t) ?_)) ?_
  · omega
  refine WL.cl Tryz.call168 rfl (k19_ _ _ _ _) ?_
  rintro _ whs14 ⟨rfl, hs14⟩
  replace hs14 := hs12.call0 hs14
  refine ⟨_, rfl, WL.r 1 hs14 [] rfl (WL.pO tbk 2 Acts.nil hs14 [3] rfl rfl rfl rfl (fun g_ => ⟨rfl, trivial⟩) (WL.nil (WC.cq rfl (fun h15 qh15 => ?_) (fun h15 qh15 => ?_))))⟩
  ·have hlf : isSplit t i = false := by simp at qh15; simp [isSplit]; omega
   have hSe := hS.of_leaf hlf
   subst hSe
   have hpl : putL (.leaf (gat encNode t i)) (⟨r_Pane, r_X, r_Y, r_W, r_H⟩ : RectD) = ([⟨(gat encNode t i).Pane, r_X, r_Y, r_W, r_H⟩], true) := by simp [putL]
   refine WC.ret (tkR ?_)
   clear hK13
   refine retK0' rfl ?_
   rw [hpl]
   have hx_ := OwnF.eqOf (xs := zs ++ [⟨(gat encNode t i).Pane, r_X, r_Y, r_W, r_H⟩]) ho9 (by simp)
   rw [← hx_]
   exact ⟨_, _, _, rfl, St.keep1 (St.front (L1 := (b_o, _) :: (b_f, _) :: L7) [_, _] hs14), ho9⟩
  have hsp : isSplit t i = true := by simp at qh15; simp [isSplit]; omega
  obtain ⟨n, a, b, rfl⟩ := hS.of_split hsp
  obtain ⟨hn', ha, hb⟩ := hS.parts
  subst hn'
  have hF : 1 ≤ (gat encNode t i).First ∧ (gat encNode t i).First ≤ 120 := by
    have := hnode; rw [nodeOk, if_pos (by simpa [isSplit] using hsp), within_iff] at this; exact this
  have hle := hS.le
  simp only [Tr.flat, List.length_cons, List.length_append] at hle
  have hRR : (⟨r_Pane, r_X, r_Y, r_W, r_H⟩ : RectD) = (⟨(gat encNode t i).Pane, r_X, r_Y, r_W, r_H⟩ : RectD) := by
    have h1_ : (gat encNode t i).Pane = 0 := by simpa [isSplit] using hsp
    rw [h1_, hr0]
  refine WC.skip (hK13 _ _ (WC.seq (fun K16 hK16 => ?_)))
  apply WC.join2 (fun b17 b18 => (b17, .cells (List.toArray (encRect.enc (firstR (gat encNode t i) (⟨(gat encNode t i).Pane, r_X, r_Y, r_W, r_H⟩ : RectD)))) _ _) :: (b18, .cells (List.toArray (encRect.enc (secondR (gat encNode t i) (⟨(gat encNode t i).Pane, r_X, r_Y, r_W, r_H⟩ : RectD)))) _ _) :: (b5, _) :: (b2, _) :: (b_o, _) :: (b_f, _) :: _) (fun b17 b18 => [(0, _), (1, _), (2, _), (3, _), (4, _), (5, _), (7, _), (11, _), (12, _), (13, _), (14, _), (15, _), (16, _), (17, _), (18, _), (19, _), (20, _), (21, _), (22, _), (23, _), (24, _), (25, _), (26, _), (29, _), (8, _), (9, _), (10, _)])
  ·refine WC.rH hs14 hs14 (fun _ hs19 => ?_)
   refine WH.take 0 rfl (by kernel_rfl) rfl rfl rfl hs19 (fun w_ hs_ => (Run.load Tryz.isAgg56 rfl rfl (SlF.var (v := .slice A_t n_t c_t) (SlF.st g_t (hs_ : St _ _ _ _) v_t) rfl))) ?_
   refine WH.rn [1] hs19 [] rfl rfl ?_
   refine WH.take 2 rfl (by kernel_rfl) rfl rfl rfl hs19 (fun w_ hs_ => (Run.idxK (i) Tryz.runUnderlying56 Tryz.sizeOf103 rfl rfl rfl ?_ ?_ ?_)) ?_
   · exact SlF.some_ (SlF.st f_t (hs_ : St _ _ _ _) s_t)
   · omega
   · omega
   refine WH.take 3 rfl (by kernel_rfl) rfl rfl rfl hs19 (fun w_ hs_ => (Run.loadA Tryz.isAgg103 Tryz.sizeOf103 rfl rfl (SlF.whole (SlF.st f_t (hs_ : St _ _ _ _) s_t) ?_))) ?_
   · omega
   refine WH.rn [4] hs19 [1] rfl rfl (WH.all [5, 10, 11] (by kernel_rfl) rfl (WHs.cons (i := 5) rfl ?_ (WHs.cons (i := 10) rfl ?_ (WHs.cons (i := 11) rfl ?_ WHs.nil))))
   ·refine WL.cl Tryz.call264 rfl (k38_ _ _ _ _ _ _ _ _ _ ?_) ?_
    · (refine ⟨?_, ?_, ?_, ?_, ?_, ?_, ?_, ?_, ?_, ?_⟩ <;> omega)
    rintro _ whs20 ⟨rfl, hs20⟩
    replace hs20 := hs19.call0 hs20
    refine ⟨_, rfl, WL.nil ⟨hs20, WH.rn [6, 7, 8, 9] hs20 [] rfl rfl (WH.all [10, 11] (by kernel_rfl) rfl (WHs.cons (i := 10) rfl ?_ (WHs.cons (i := 11) rfl ?_ WHs.nil)))⟩⟩
    ·refine WL.al hs20 Tryz.zeroValue71 rfl rfl (fun b21 _ hs22 => WL.nil ⟨hs22.d1, WH.o1 11 rfl (WL.al hs22 Tryz.zeroValue71 rfl rfl (fun b23 _ hs24 => WL.nil ⟨hs24.d1.d1, WH.o1 12 rfl (WL.st tbk hs24 1 rfl rfl (fun _ hs25 => WL.nil ⟨hs25.d1.d1, ?_⟩))⟩))⟩)
     refine WH.o1 13 rfl (WL.st tbk hs25 0 rfl rfl (fun _ hs26 => WL.nil ⟨hs26.d1.d1, WH.rn [14] hs26.d1.d1 [] rfl rfl (WH.dn (⟨rfl, b21, b23, (St.swap [] hs26), ⟨rfl, rfl, rfl, rfl, rfl, rfl, rfl, rfl, rfl, rfl, rfl, rfl, rfl, rfl, rfl, rfl, rfl, rfl, rfl, rfl, rfl, rfl, rfl, rfl, rfl, rfl, rfl, trivial⟩⟩))⟩))
    refine WL.al hs20 Tryz.zeroValue71 rfl rfl (fun b27 _ hs28 => WL.nil ⟨hs28.d1, WH.o1 10 rfl (WL.al hs28 Tryz.zeroValue71 rfl rfl (fun b29 _ hs30 => WL.nil ⟨hs30.d1.d1, WH.o1 12 rfl (WL.st tbk hs30 0 rfl rfl (fun _ hs31 => WL.nil ⟨hs31.d1.d1, ?_⟩))⟩))⟩)
    refine WH.o1 13 rfl (WL.st tbk hs31 1 rfl rfl (fun _ hs32 => WL.nil ⟨hs32.d1.d1, WH.rn [14] hs32.d1.d1 [] rfl rfl (WH.dn (⟨rfl, b29, b27, hs32, ⟨rfl, rfl, rfl, rfl, rfl, rfl, rfl, rfl, rfl, rfl, rfl, rfl, rfl, rfl, rfl, rfl, rfl, rfl, rfl, rfl, rfl, rfl, rfl, rfl, rfl, rfl, rfl, trivial⟩⟩))⟩))
   ·refine WL.al hs19 Tryz.zeroValue71 rfl rfl (fun b33 _ hs34 => WL.nil ⟨hs34.d1, ?_⟩)
    refine WH.all [5, 11] (by kernel_rfl) rfl (WHs.cons (i := 5) rfl ?_ (WHs.cons (i := 11) rfl ?_ WHs.nil))
    ·refine WL.cl Tryz.call264 rfl (k38_ _ _ _ _ _ _ _ _ _ ?_) ?_
     · (refine ⟨?_, ?_, ?_, ?_, ?_, ?_, ?_, ?_, ?_, ?_⟩ <;> omega)
     rintro _ whs35 ⟨rfl, hs35⟩
     replace hs35 := hs34.call0 hs35
     refine ⟨_, rfl, WL.nil ⟨hs35.d1, WH.rn [6, 7, 8, 9] hs35.d1 [] rfl rfl (WH.o1 11 rfl (WL.al hs35 Tryz.zeroValue71 rfl rfl (fun b36 _ hs37 => WL.nil ⟨hs37.d1.d1, WH.o1 12 rfl (WL.st tbk hs37 1 rfl rfl (fun _ hs38 => ?_))⟩)))⟩⟩
     refine WL.nil ⟨hs38.d1.d1, WH.o1 13 rfl (WL.st tbk hs38 0 rfl rfl (fun _ hs39 => WL.nil ⟨hs39.d1.d1, WH.rn [14] hs39.d1.d1 [] rfl rfl (WH.dn (⟨rfl, b33, b36, (St.swap [] hs39), ⟨rfl, rfl, rfl, rfl, rfl, rfl, rfl, rfl, rfl, rfl, rfl, rfl, rfl, rfl, rfl, rfl, rfl, rfl, rfl, rfl, rfl, rfl, rfl, rfl, rfl, rfl, rfl, trivial⟩⟩))⟩))⟩
    refine WL.al hs34 Tryz.zeroValue71 rfl rfl (fun b40 _ hs41 => WL.nil ⟨hs41.d1.d1, WH.o1 5 rfl ?_⟩)
    refine WL.cl Tryz.call264 rfl (k38_ _ _ _ _ _ _ _ _ _ ?_) ?_
    · (refine ⟨?_, ?_, ?_, ?_, ?_, ?_, ?_, ?_, ?_, ?_⟩ <;> omega)
    rintro _ whs42 ⟨rfl, hs42⟩
    replace hs42 := hs41.call0 hs42
    refine ⟨_, rfl, WL.nil ⟨hs42.d1.d1, WH.rn [6, 7, 8, 9] hs42.d1.d1 [] rfl rfl (WH.o1 12 rfl (WL.st tbk hs42 1 rfl rfl (fun _ hs43 => WL.nil ⟨hs43.d1.d1, WH.o1 13 rfl (WL.st tbk hs43 0 rfl rfl (fun _ hs44 => ?_))⟩)))⟩⟩
    refine WL.nil ⟨hs44.d1.d1, WH.rn [14] hs44.d1.d1 [] rfl rfl (WH.dn (⟨rfl, b33, b40, (St.swap [] hs44), ⟨rfl, rfl, rfl, rfl, rfl, rfl, rfl, rfl, rfl, rfl, rfl, rfl, rfl, rfl, rfl, rfl, rfl, rfl, rfl, rfl, rfl, rfl, rfl, rfl, rfl, rfl, rfl, trivial⟩⟩))⟩
   refine WL.al hs19 Tryz.zeroValue71 rfl rfl (fun b45 _ hs46 => WL.nil ⟨hs46.d1, ?_⟩)
   refine WH.all [5, 10] (by kernel_rfl) rfl (WHs.cons (i := 5) rfl ?_ (WHs.cons (i := 10) rfl ?_ WHs.nil))
   ·refine WL.cl Tryz.call264 rfl (k38_ _ _ _ _ _ _ _ _ _ ?_) ?_
    · (refine ⟨?_, ?_, ?_, ?_, ?_, ?_, ?_, ?_, ?_, ?_⟩ <;> omega)
    rintro _ whs47 ⟨rfl, hs47⟩
    replace hs47 := hs46.call0 hs47
    refine ⟨_, rfl, WL.nil ⟨hs47.d1, WH.rn [6, 7, 8, 9] hs47.d1 [] rfl rfl (WH.o1 10 rfl (WL.al hs47 Tryz.zeroValue71 rfl rfl (fun b48 _ hs49 => WL.nil ⟨hs49.d1.d1, WH.o1 12 rfl (WL.st tbk hs49 0 rfl rfl (fun _ hs50 => ?_))⟩)))⟩⟩
    refine WL.nil ⟨hs50.d1.d1, WH.o1 13 rfl (WL.st tbk hs50 1 rfl rfl (fun _ hs51 => WL.nil ⟨hs51.d1.d1, WH.rn [14] hs51.d1.d1 [] rfl rfl (WH.dn (⟨rfl, b48, b45, hs51, ⟨rfl, rfl, rfl, rfl, rfl, rfl, rfl, rfl, rfl, rfl, rfl, rfl, rfl, rfl, rfl, rfl, rfl, rfl, rfl, rfl, rfl, rfl, rfl, rfl, rfl, rfl, rfl, trivial⟩⟩))⟩))⟩
   refine WL.al hs46 Tryz.zeroValue71 rfl rfl (fun b52 _ hs53 => WL.nil ⟨hs53.d1.d1, WH.o1 5 rfl ?_⟩)
   refine WL.cl Tryz.call264 rfl (k38_ _ _ _ _ _ _ _ _ _ ?_) ?_
   · (refine ⟨?_, ?_, ?_, ?_, ?_, ?_, ?_, ?_, ?_, ?_⟩ <;> omega)
   rintro _ whs54 ⟨rfl, hs54⟩
   replace hs54 := hs53.call0 hs54
   refine ⟨_, rfl, WL.nil ⟨hs54.d1.d1, WH.rn [6, 7, 8, 9] hs54.d1.d1 [] rfl rfl (WH.o1 12 rfl (WL.st tbk hs54 0 rfl rfl (fun _ hs55 => WL.nil ⟨hs55.d1.d1, WH.o1 13 rfl (WL.st tbk hs55 1 rfl rfl (fun _ hs56 => ?_))⟩)))⟩⟩
   refine WL.nil ⟨hs56.d1.d1, WH.rn [14] hs56.d1.d1 [] rfl rfl (WH.dn (⟨rfl, b52, b45, hs56, ⟨rfl, rfl, rfl, rfl, rfl, rfl, rfl, rfl, rfl, rfl, rfl, rfl, rfl, rfl, rfl, rfl, rfl, rfl, rfl, rfl, rfl, rfl, rfl, rfl, rfl, rfl, rfl, trivial⟩⟩))⟩
  ·rintro f_hs57 whs57 ⟨b17, b18, hs57, hG58⟩
   replace hs57 : St _ _ _ _ := hs57
   refine hK16 _ _ (WC.sub _ hG58 (WC.seq (fun K59 hK59 => WC.sr (WL.r 1 hs57 [] rfl (WL.st tbk hs57 5 rfl rfl (fun _ hs60 => WL.nil (WC.r1 hs60 [] rfl ?_)))))))
   refine WC.cq rfl (fun h61 qh61 => ?_) (fun h61 qh61 => ?_)
   ·have hs3 : ¬ 3 ≤ sizeR (gat encNode t i) (⟨(gat encNode t i).Pane, r_X, r_Y, r_W, r_H⟩ : RectD) := by simpa using h61
    have hpl : putL (.split (gat encNode t i) a b) (⟨r_Pane, r_X, r_Y, r_W, r_H⟩ : RectD) = ([⟨(gat encNode t i).Pane, r_X, r_Y, r_W, r_H⟩], false) := by rw [hRR]; simp only [putL, if_neg hs3]
    have hdec : decide (3 ≤ sizeR (gat encNode t i) (⟨(gat encNode t i).Pane, r_X, r_Y, r_W, r_H⟩ : RectD)) = false := decide_eq_false hs3
    rw [hdec] at hs60
    refine WC.ret (tkR ?_)
    clear hK59
    refine retK0' rfl ?_
    rw [hpl]
    have hx_ := OwnF.eqOf (xs := zs ++ [⟨(gat encNode t i).Pane, r_X, r_Y, r_W, r_H⟩]) ho9 (by simp)
    rw [← hx_]
    exact ⟨_, _, _, rfl, St.keep1 (St.front (L1 := (b_o, _) :: (b_f, _) :: L7) [_, _, _, _] hs60), ho9⟩
   have hs3 : 3 ≤ sizeR (gat encNode t i) (⟨(gat encNode t i).Pane, r_X, r_Y, r_W, r_H⟩ : RectD) := by simpa using h61
   have hdec : decide (3 ≤ sizeR (gat encNode t i) (⟨(gat encNode t i).Pane, r_X, r_Y, r_W, r_H⟩ : RectD)) = true := decide_eq_true hs3
   rw [hdec] at hs60
   refine WC.skip (hK59 _ _ (WC.sr (WL.val rfl rfl rfl (Run.load Tryz.isAgg272 rfl rfl (SlF.var (SlF.st g_p hs60 v_p) rfl)) (WL.r 3 hs60 [0] rfl ?_))))
   have hF62 := St.front (L1 := (b_o, _) :: (b_f, _) :: L7) [_, _, _, _] hs60
   refine WL.call rfl rfl rfl (Run.callC Tryz.call263 rfl rfl rfl) (IH _ ?_ _ _ _ _ _ (i + 1) _ _ _ _ _ a _ _ _ _ _ _ _ _ _ (SlF.st f_t hF62 s_t) (SlF.st g_t hF62 v_t) (SlF.st g_p hF62 v_p) ho9 (St.ownA hF62) (St.nodupL hF62) (St.sepT hF62 f_t s_t) (St.sepT hF62 g_t v_t) (St.sepT hF62 g_p v_p) ?_ ?_ ?_ ?_ ?_ rfl) ?_
   · rw [← hm_]; simp only [Tr.flat, List.length_cons, List.length_append]; omega
   · exact hn
   · rfl
   · exact ha
   · exact Fine.first (hRR ▸ hr) hF.1 hs3
   · simp only [List.length_append, List.length_cons, List.length_nil]; simp only [Tr.flat, List.length_cons, List.length_append] at hz; omega
   rintro _ whs66 ⟨A63, c64, L65, rfl, hs66, ho67⟩
   replace hs66 := St.lend hF62 hs66
   replace hs66 := St.back [_, _, _, _] hs66
   simp only [List.cons_append, List.nil_append] at hs66
   refine ⟨_, rfl, WL.nil (WC.r1 hs66 [5] rfl (WC.cq rfl (fun h68 qh68 => ?_) (fun h68 qh68 => ?_)))⟩
   ·have hpl : putL (.split (gat encNode t i) a b) (⟨r_Pane, r_X, r_Y, r_W, r_H⟩ : RectD) = (⟨(gat encNode t i).Pane, r_X, r_Y, r_W, r_H⟩ :: ((putL a (firstR (gat encNode t i) (⟨(gat encNode t i).Pane, r_X, r_Y, r_W, r_H⟩ : RectD))).1 ++ (putL b (secondR (gat encNode t i) (⟨(gat encNode t i).Pane, r_X, r_Y, r_W, r_H⟩ : RectD))).1), (putL b (secondR (gat encNode t i) (⟨(gat encNode t i).Pane, r_X, r_Y, r_W, r_H⟩ : RectD))).2) := by rw [hRR]; simp only [putL, if_pos hs3, if_pos h68]
    rw [h68] at hs66
    refine WC.rH (((hs66.fb b_o).d1.fb b_f).d1.rm L65) hs66 (fun _ hs69 => ?_)
    refine WH.take 0 rfl (by kernel_rfl) rfl rfl rfl (((hs69.fb b_o).d1.fb b_f).d1.rm L65) (fun w_ hs_ => (Run.load Tryz.isAgg272 rfl rfl (SlF.var (SlF.st g_p (hs_ : St _ _ _ _) v_p) rfl))) ?_
    refine WH.take 1 rfl (by kernel_rfl) rfl rfl rfl (((hs69.fb b_o).d1.fb b_f).d1.rm L65) (fun w_ hs_ => (Run.load Tryz.isAgg56 rfl rfl (SlF.var (v := .slice A_t n_t c_t) (SlF.st g_t (hs_ : St _ _ _ _) v_t) rfl))) ?_
    refine WH.rn [2, 3, 5] (((hs69.fb b_o).d1.fb b_f).d1.rm L65) [1] rfl rfl (WH.o1 4 rfl (WL.cl Tryz.call165 rfl (k21_ _ _ _ _ _ _ (SlF.st f_t hs69 s_t) ?_) ?_))
    · first | assumption | rfl | omega
    rintro _ whs70 ⟨rfl, hs70⟩
    replace hs70 := hs69.call0 hs70
    refine ⟨_, rfl, WL.nil ⟨(((hs70.fb b_o).d1.fb b_f).d1.rm L65), WH.o1 6 rfl ?_⟩⟩
    have hF71 := St.front (L1 := (b_o, _) :: (b_f, _) :: L65) [_, _, _, _] hs70
    refine WL.call rfl rfl rfl (Run.callC Tryz.call263 rfl rfl rfl) (IH _ ?_ _ _ _ _ _ (i + 1 + a.flat.length) _ _ _ _ _ b _ _ _ _ _ _ _ _ _ (SlF.st f_t hF71 s_t) (SlF.st g_t hF71 v_t) (SlF.st g_p hF71 v_p) ho67 (St.ownA hF71) (St.nodupL hF71) (St.sepT hF71 f_t s_t) (St.sepT hF71 g_t v_t) (St.sepT hF71 g_p v_p) ?_ ?_ ?_ ?_ ?_ rfl) ?_
    · rw [← hm_]; simp only [Tr.flat, List.length_cons, List.length_append]; omega
    · exact hn
    · have h_ : endI t ((i : Int) + 1) = (i + 1 + a.flat.length : Nat) := ha.endI
      omega
    · exact hb
    · exact Fine.second (hRR ▸ hr) hF.1 hs3
    · simp only [List.length_append, List.length_cons, List.length_nil]; simp only [Tr.flat, List.length_cons, List.length_append] at hz
      refine Nat.le_trans (Nat.add_le_add_right (Nat.add_le_add_left putL_len _) _) ?_
      omega
    rintro _ whs75 ⟨A72, c73, L74, rfl, hs75, ho76⟩
    replace hs75 := St.lend hF71 hs75
    replace hs75 := St.back [_, _, _, _] hs75
    simp only [List.cons_append, List.nil_append] at hs75
    refine ⟨_, rfl, WL.nil ⟨(((hs75.fb b_o).d1.fb b_f).d1.rm L74), WH.dn (retK0 rfl ?_)⟩⟩
    rw [hpl]
    have hx_ := OwnF.eqOf (xs := zs ++ (⟨(gat encNode t i).Pane, r_X, r_Y, r_W, r_H⟩ :: ((putL a (firstR (gat encNode t i) (⟨(gat encNode t i).Pane, r_X, r_Y, r_W, r_H⟩ : RectD))).1 ++ (putL b (secondR (gat encNode t i) (⟨(gat encNode t i).Pane, r_X, r_Y, r_W, r_H⟩ : RectD))).1))) ho76 (by simp)
    rw [← hx_]
    exact ⟨_, _, _, rfl, St.keep1 (St.front (L1 := (b_o, _) :: (b_f, _) :: L74) [_, _, _, _] hs75), ho76⟩
   have hpl : putL (.split (gat encNode t i) a b) (⟨r_Pane, r_X, r_Y, r_W, r_H⟩ : RectD) = (⟨(gat encNode t i).Pane, r_X, r_Y, r_W, r_H⟩ :: (putL a (firstR (gat encNode t i) (⟨(gat encNode t i).Pane, r_X, r_Y, r_W, r_H⟩ : RectD))).1, false) := by
     have : ¬ (putL a (firstR (gat encNode t i) (⟨(gat encNode t i).Pane, r_X, r_Y, r_W, r_H⟩ : RectD))).2 = true := by simpa using h68
     rw [hRR]; simp only [putL, if_pos hs3, if_neg this]
   rw [h68] at hs66
   refine WC.skip (retK0 rfl ?_)
   rw [hpl]
   have hx_ := OwnF.eqOf (xs := zs ++ (⟨(gat encNode t i).Pane, r_X, r_Y, r_W, r_H⟩ :: (putL a (firstR (gat encNode t i) (⟨(gat encNode t i).Pane, r_X, r_Y, r_W, r_H⟩ : RectD))).1)) ho67 (by simp)
   rw [← hx_]
   exact ⟨_, _, _, rfl, St.keep1 (St.front (L1 := (b_o, _) :: (b_f, _) :: L65) [_, _, _, _] hs66), ho67⟩
theorem k43_ (A_t : Option Addr) (n_t c_t : Nat) (t : List NodeD) (at_ : Int) (i : Nat) (r_Pane r_X r_Y r_W r_H : Int) (S : Tr) (b_t b_o b_f b_p : Nat) (A_o : Option Addr) (c_o : Nat) (zs : List RectD) (L_o : Hp) (w : World) (f_t : SlF encNode w A_t n_t t) (g_t : SlF encH w (some ⟨b_t, 0, none⟩) 1 [⟨A_t, n_t, c_t⟩]) (g_p : SlF encFn w (some ⟨b_p, 0, none⟩) 1 [⟨.func 263, [.pointer (some ⟨b_t, 0, none⟩), .pointer (some ⟨b_o, 0, none⟩), .pointer (some ⟨b_f, 0, none⟩), .pointer (some ⟨b_p, 0, none⟩)]⟩]) (o_o : OwnF encRect 71 (.slice A_o zs.length c_o) zs L_o) (hh : ∀ p, p ∈ [(b_o, Obj.cells (List.toArray [.slice A_o (zs).length c_o]) 158 (0, 0)), (b_f, Obj.cells (List.toArray [.bool true]) 4 (0, 0))] ++ L_o → w.heap[p.1]? = some p.2) (hd : (([(b_o, Obj.cells (List.toArray [.slice A_o (zs).length c_o]) 158 (0, 0)), (b_f, Obj.cells (List.toArray [.bool true]) 4 (0, 0))] ++ L_o).map (·.1)).Nodup) (s_t : 0 < n_t → (adr A_t).block ∉ (([(b_o, Obj.cells (List.toArray [.slice A_o (zs).length c_o]) 158 (0, 0)), (b_f, Obj.cells (List.toArray [.bool true]) 4 (0, 0))] ++ L_o).map (·.1))) (v_t : 0 < 1 → (adr (some ⟨b_t, 0, none⟩)).block ∉ (([(b_o, Obj.cells (List.toArray [.slice A_o (zs).length c_o]) 158 (0, 0)), (b_f, Obj.cells (List.toArray [.bool true]) 4 (0, 0))] ++ L_o).map (·.1))) (v_p : 0 < 1 → (adr (some ⟨b_p, 0, none⟩)).block ∉ (([(b_o, Obj.cells (List.toArray [.slice A_o (zs).length c_o]) 158 (0, 0)), (b_f, Obj.cells (List.toArray [.bool true]) 4 (0, 0))] ++ L_o).map (·.1))) (hn : n_t ≤ 268435456) (hat : at_ = (i : Int)) (hS : At t i S) (hr : Fine (⟨r_Pane, r_X, r_Y, r_W, r_H⟩ : RectD)) (hz : zs.length + S.flat.length ≤ 268435456) :
    Calls Tryz.prog 263 #[i64 at_, .agg #[i64 r_Pane, i64 r_X, i64 r_Y, i64 r_W, i64 r_H], .pointer (some ⟨b_t, 0, none⟩), .pointer (some ⟨b_o, 0, none⟩), .pointer (some ⟨b_f, 0, none⟩), .pointer (some ⟨b_p, 0, none⟩)] w fun e w' => ∃ A c L1, e = .returned (.tuple #[]) ∧ St w (([(b_o, Obj.cells (List.toArray [.slice A_o (zs).length c_o]) 158 (0, 0)), (b_f, Obj.cells (List.toArray [.bool true]) 4 (0, 0))] ++ L_o).map (·.1)) ((b_o, Obj.cells (List.toArray [.slice A (zs ++ (putL S (⟨r_Pane, r_X, r_Y, r_W, r_H⟩ : RectD)).1).length c]) 158 (0, 0)) :: (b_f, Obj.cells (List.toArray [.bool (putL S (⟨r_Pane, r_X, r_Y, r_W, r_H⟩ : RectD)).2]) 4 (0, 0)) :: L1) w' ∧ OwnF encRect 71 (.slice A (zs ++ (putL S (⟨r_Pane, r_X, r_Y, r_W, r_H⟩ : RectD)).1).length c) (zs ++ (putL S (⟨r_Pane, r_X, r_Y, r_W, r_H⟩ : RectD)).1) L1 := k42_ _ A_t n_t c_t t at_ i r_Pane r_X r_Y r_W r_H S b_t b_o b_f b_p A_o c_o zs L_o w f_t g_t g_p o_o hh hd s_t v_t v_p hn hat hS hr hz rfl
theorem built_71_3_4 (x0 : Int) (x1 : Int) : Tryz.prog.built 71 [(3, .int .i64 x0), (4, .int .i64 x1)] = some (List.toArray [.int .i64 0, .int .i64 0, .int .i64 0, .int .i64 x0, .int .i64 x1]) := by kernel_rfl
theorem k44_ (A_t : Option Addr) (n_t c_t : Nat) (t : List NodeD) (w_ : Int) (h_ : Int) (w : World) (f_t : SlF encNode w A_t n_t t) (hn : n_t ≤ 268435456) (hk : treeOk t = true) (hw : within w_ 1 120 = true) (hh : within h_ 1 120 = true) :
    Calls Tryz.prog 215 #[.slice A_t n_t c_t, i64 w_, i64 h_] w fun e w' => ∃ A c L1, e = .returned (.tuple #[.slice A ((putL (theT t) ⟨0, 0, 0, w_, h_⟩).1).length c, .bool (putL (theT t) ⟨0, 0, 0, w_, h_⟩).2]) ∧ St w [] L1 w' ∧ OwnF encRect 71 (.slice A ((putL (theT t) ⟨0, 0, 0, w_, h_⟩).1).length c) ((putL (theT t) ⟨0, 0, 0, w_, h_⟩).1) L1 := by
 have hl := f_t.len
 refine enter 20 Tryz.func215 rfl Tryz.ntmps215 rfl rfl ?_
 have hs1 := St.init w
 refine WC.sr (WL.bx hs1 rfl (fun b2 _ hs3 => WL.r 2 hs3 [] rfl (WL.nil (WC.sr (WL.buildF (F := encRect) hs3 ([]) Tryz.runUnderlying158 Tryz.sizeOf71 Tryz.zeroValue71 rfl rfl rfl rfl rfl rfl rfl rfl rfl rfl rfl rfl (fun A7 c8 L4 whs5 hs5 ho6 => ?_))))))
 replace hs5 := St.back [_] hs5
 refine WL.al hs5 Tryz.zeroValue158 rfl rfl (fun b9 _ hs10 => WL.al hs10 Tryz.zeroValue4 rfl rfl (fun b11 _ hs12 => WL.st tbk hs12 1 rfl rfl (fun _ hs13 => WL.st tbk hs13 0 rfl rfl (fun _ hs14 => WL.nil (WC.sr (WL.al hs14 Tryz.zeroValue272 rfl rfl (fun b15 _ hs16 => WL.nil ?_)))))))
 refine WC.sr (WL.val rfl rfl rfl (Run.makeFunc rfl rfl) (WL.st tbk hs16 0 rfl rfl (fun _ hs17 => WL.nil (WC.sr (WL.r 3 hs17 [0] rfl ?_)))))
 refine WL.val rfl rfl rfl (Run.build rfl rfl rfl rfl (built_71_3_4 _ _)) ?_
 replace hs17 := ((((hs17.fb b11).fb b9).fb b2).fb b15)
 have hF18 := St.front (L1 := (b9, _) :: (b11, _) :: L4) [_, _] hs17
 refine WL.call rfl rfl rfl (Run.callC Tryz.call263 rfl rfl rfl) (k43_ _ _ _ _ _ 0 _ _ _ _ _ (theT t) _ _ _ _ _ _ _ _ _ (SlF.st0 f_t hF18) (SlF.own1 (hs17.own _ (nthL_mem (i := 1) rfl)).1) (SlF.own1 (hs17.own _ (nthL_mem (i := 0) rfl)).1) ho6 (St.ownA hF18) (St.nodupL hF18) (St.sep hF18 f_t) (fun _ => St.sepOwn hF18 (List.mem_append_left _ (List.mem_cons_of_mem _ List.mem_cons_self))) (fun _ => St.sepOwn hF18 (List.mem_append_left _ List.mem_cons_self)) ?_ ?_ ?_ ?_ ?_) ?_
 · omega
 · rfl
 · exact (theT_at hk).1
 · exact fine0 hw hh
 · rw [(theT_at hk).2.1]; simp; omega
 rintro _ whs22 ⟨A19, c20, L21, rfl, hs22, ho23⟩
 replace hs22 := St.lend hF18 hs22
 replace hs22 := St.back [_, _] hs22
 simp only [List.cons_append, List.nil_append] at hs22
 refine ⟨_, rfl, WL.nil (WC.q1 hs22 [2, 3] rfl (fun _ hs24 => WC.ret (retV2 rfl (resV.tmp rfl) (resV.tmp rfl) ?_)))⟩
 have hx_ := OwnF.eqOf (xs := (putL (theT t) ⟨0, 0, 0, w_, h_⟩).1) ho23 (by simp)
 rw [← hx_]
 first | exact ⟨_, _, _, rfl, (St.keep1 (hs24.fr L21)), ho23⟩ | exact ⟨A19, c20, _, by rw [OwnF.len_ ho23], (St.keep1 (hs24.fr L21)), by rw [OwnF.len_ ho23]; exact ho23⟩
theorem k45_ (A_t : Option Addr) (n_t c_t : Nat) (t : List NodeD) (w_ : Int) (h_ : Int) (w : World) (f_t : SlF encNode w A_t n_t t) (hn : n_t ≤ 268435456) :
    Calls Tryz.prog 173 #[.slice A_t n_t c_t, i64 w_, i64 h_] w fun e w' => ∃ A c L1, e = .returned (.tuple #[.slice A (areasL t w_ h_).length c, .bool (placesOk t w_ h_)]) ∧ St w [] L1 w' ∧ OwnF encRect 71 (.slice A (areasL t w_ h_).length c) (areasL t w_ h_) L1 := by
 have hl := f_t.len
 refine enter 27 Tryz.func173 rfl Tryz.ntmps173 rfl rfl ?_
 have hs1 := St.init w
 refine WC.r1 hs1 [] rfl (WC.seq (fun K2 hK2 => WC.sr (WL.r 1 hs1 [] rfl ?_)))
 refine WL.cl Tryz.call106 rfl (k32_ _ _ _ _ _ (SlF.st0 f_t hs1) ?_) ?_
 · first | assumption | rfl | omega
 rintro _ whs3 ⟨rfl, hs3⟩
 replace hs3 := hs1.call0 hs3
 refine ⟨_, rfl, WL.r 2 hs3 [] rfl ?_⟩
 apply WL.gO 3 Acts.nil hs3 rfl
 ·intro g4 J5
  have qg4 := g4
  try simp only [bf, within_iff, within_not] at qg4
  refine WL.runA tbk 1 (Acts.nil.cons (j := 3) rfl g4) hs3 [] rfl trivial (WL.call (wantF rfl g4) rfl rfl (Run.call Tryz.call58 rfl rfl rfl) (k0_ _ _ _ _) ?_)
  rintro _ whs6 ⟨rfl, hs6⟩
  replace hs6 := hs3.call0 hs6
  refine ⟨_, rfl, WL.runA tbk 1 (Acts.nil.cons (j := 3) rfl g4) hs6 [] rfl trivial (WL.eO 3 Acts.nil J5 hs6 g4 rfl rfl)⟩
 intro _ hs7
 refine WL.r 1 hs7 [] rfl ?_
 apply WL.gO 3 Acts.nil hs7 rfl
 ·intro g8 J9
  have qg8 := g8
  try simp only [bf, within_iff, within_not] at qg8
  refine WL.runA tbk 1 (Acts.nil.cons (j := 8) rfl g8) hs7 [] rfl trivial (WL.call (wantF rfl g8) rfl rfl (Run.call Tryz.call58 rfl rfl rfl) (k0_ _ _ _ _) ?_)
  rintro _ whs10 ⟨rfl, hs10⟩
  replace hs10 := hs7.call0 hs10
  refine ⟨_, rfl, WL.runA tbk 1 (Acts.nil.cons (j := 8) rfl g8) hs10 [] rfl trivial (WL.eO 3 Acts.nil J9 hs10 g8 rfl rfl)⟩
 intro _ hs11
 refine WL.nil (WC.cq rfl (fun h12 qh12 => ?_) (fun h12 qh12 => ?_))
 ·have hk : sidesOk t w_ h_ = false := by
    rw [← Bool.not_eq_true]; intro h_1
    simp only [sidesOk, Bool.and_eq_true] at h_1
    simp [h_1] at h12
  refine WC.r1 hs11 [] rfl (WC.ret (tkR ?_))
  clear hK2
  refine retV2 rfl (resV.tmp rfl) (resV.tmp rfl) ?_
  rw [show placesOk t w_ h_ = false by simp [placesOk, hk]]
  have hx_ := OwnF.eqOf (xs := areasL t w_ h_) (OwnF.nil encRect 71) (by simp [areasL, hk])
  rw [← hx_]
  exact ⟨_, _, _, rfl, hs11.nil, (OwnF.nil encRect 71)⟩
 have hk : treeOk t = true ∧ within w_ 1 120 = true ∧ within h_ 1 120 = true := by simp at h12; exact ⟨h12.1.1, h12.1.2, h12.2⟩
 have hs : sidesOk t w_ h_ = true := by simp [sidesOk, hk]
 refine WC.skip (hK2 _ _ (WC.sr (WL.r 3 hs11 [] rfl ?_)))
 refine WL.cl Tryz.call215 rfl (k44_ _ _ _ _ _ _ _ (SlF.st0 f_t hs11) ?_ ?_ ?_ ?_) ?_
 · omega
 · exact hk.1
 · exact hk.2.1
 · exact hk.2.2
 rintro _ whs13 ⟨A14, c15, L1_16, rfl, hs13, ho17⟩
 replace hs13 := hs11.callF hs13
 refine ⟨_, rfl, WL.r 4 hs13 [] rfl (WL.nil (WC.ret (retV2 rfl (resV.tmp rfl) (resV.tmp rfl) ?_)))⟩
 rw [show placesOk t w_ h_ = (putL (theT t) ⟨0, 0, 0, w_, h_⟩).2 by simp [placesOk, hs, put_eq hk.1]]
 have hx_ := OwnF.eqOf (xs := areasL t w_ h_) ho17 (by simp [areasL, hs])
 rw [← hx_]
 first | exact ⟨_, _, _, rfl, (St.keep1 hs13), ho17⟩ | exact ⟨A14, c15, _, by rw [OwnF.len_ ho17], (St.keep1 hs13), by rw [OwnF.len_ ho17]; exact ho17⟩
theorem k46_ (r_Pane : Int) (r_X : Int) (r_Y : Int) (r_W : Int) (r_H : Int) (w : World) :
    Calls Tryz.prog 175 #[.agg #[i64 r_Pane, i64 r_X, i64 r_Y, i64 r_W, i64 r_H]] w fun e w' => e = .returned (.bool (decide (r_Pane = 0))) ∧ St w [] [] w' := by
 refine enter 6 Tryz.func175 rfl Tryz.ntmps175 rfl rfl ?_
 have hs1 := St.init w
 refine WC.sr (WL.bx hs1 rfl (fun b2 _ hs3 => WL.r 1 hs3 [] rfl (WL.nil (WC.r1 hs3 [0] rfl (WC.ret (rtv rfl rfl hs3 ?_))))))
 rfl
theorem k47_ (A_s : Option Addr) (n_s c_s : Nat) (s : List RectD) (w : World) (f_s : SlF encRect w A_s n_s s) (hn : n_s ≤ 1099511627776) :
    Calls Tryz.prog 113 #[.slice A_s n_s c_s, .func (.func 175) #[] #[]] w fun e w' => e = .returned (.int .i64 (findI (fun r : RectD => decide (r.Pane = 0)) s)) ∧ St w [] [] w' := by
 refine enter 19 Tryz.func113 rfl Tryz.ntmps113 rfl rfl ?_
 have hs1 := St.init w
 refine WC.r1 hs1 [] rfl (WC.seq (fun K2 hK2 => WC.r1 hs1 [] rfl (WC.block ?_)))
 refine WC.lS [0, 1, 7] rfl hs1 (fun k_ f w' => ∃ (i : Nat), k_ = n_s - i ∧ (i ≤ n_s) ∧ (∀ j, j < i → (fun r : RectD => decide (r.Pane = 0)) (gat encRect s j) = false) ∧ Sub [(8, .int .i64 i)] f) ((fun (i : Nat) => n_s - i) (0)) ?_ ?_
 ·refine ⟨0, rfl, ?_, ?_, ⟨rfl, trivial⟩⟩
  · exact Nat.zero_le _
  · exact fun j hj => absurd hj (by omega)
 clear hs1
 rintro _ f w ⟨i, rfl, p0, p1, hG⟩ hF hs3
 refine WC.sub _ (hG.app hF) ?_
 clear hG hF
 refine WC.r1 hs3 [] rfl (WC.seq (fun K4 hK4 => ?_))
 refine WC.cond rfl (fun h5 => ?_) (fun h5 => ?_)
 ·have qh5 := h5
  try simp only [decide_eq_true_eq, decide_eq_false_iff_not] at qh5
  refine WC.skip (hK4 _ _ (WC.seq (fun K6 hK6 => WC.block (WC.r1 hs3 [] rfl (WC.sr (WL.r 3 hs3 [] rfl ?_))))))
  refine WL.val rfl rfl rfl (Run.idxN Tryz.runUnderlying158 Tryz.sizeOf71 rfl rfl rfl ?_ ?_ ?_) ?_
  · exact SlF.some_ (SlF.st0 f_s hs3)
  · omega
  · omega
  refine WL.val rfl rfl rfl (Run.loadA Tryz.isAgg71 Tryz.sizeOf71 rfl rfl (SlF.whole (SlF.st0 f_s hs3) ?_)) ?_
  · omega
  refine WL.cl Tryz.call175 rfl (k46_ _ _ _ _ _ _) ?_
  rintro _ whs7 ⟨rfl, hs7⟩
  replace hs7 := hs3.call0 hs7
  refine ⟨_, rfl, WL.nil (WC.cond rfl (fun h8 => ?_) (fun h8 => ?_))⟩
  ·have qh8 := h8
   try simp only [decide_eq_true_eq, decide_eq_false_iff_not] at qh8
   refine WC.r1 hs7 [] rfl (WC.ret (ibR (tkR (tkR (ibR (tkR ?_))))))
   clear hK6 hK2
   refine rtv rfl rfl hs7 ?_
   rw [findI_some (F := encRect) (by rw [f_s.len]; omega) p1 h8]
  have qh8 := h8
  try simp only [decide_eq_true_eq, decide_eq_false_iff_not] at qh8
  refine WC.skip (hK6 _ _ (WC.region (WL.r 2 hs7 [] rfl (WL.nil (tkN ?_)))))
  refine ⟨sbF rfl, hs7, _, ?_, i + 1, rfl, ?_, ?_, ⟨rfl, trivial⟩⟩
  · omega
  · omega
  · intro j hj; rcases Nat.lt_or_ge j i with h_ | h_
    · exact p1 j h_
    · obtain rfl : j = i := by omega
      exact h8
 have qh5 := h5
 try simp only [decide_eq_true_eq, decide_eq_false_iff_not] at qh5
 refine WC.exit (hK2 _ _ (WC.r1 hs3 [] rfl (WC.ret (rtv rfl rfl hs3 ?_))))
 rw [findI_none (F := encRect) (fun j hj => p1 j (by rw [f_s.len] at hj; omega))]
theorem k48_ (v_s : Value) (s : List RectD) (L_s : Hp) (w : World) (o_s : OwnF encRect 71 v_s s L_s) (h_s : Hh w L_s) (hn : s.length ≤ 268435456) :
    Calls Tryz.prog 174 #[v_s, .func (.func 175) #[] #[]] w fun e w' => ∃ A c L1, e = .returned (.slice A (s.filter (fun r : RectD => !decide (r.Pane = 0))).length c) ∧ St w (L_s.map (·.1)) L1 w' ∧ OwnF encRect 71 (.slice A (s.filter (fun r : RectD => !decide (r.Pane = 0))).length c) (s.filter (fun r : RectD => !decide (r.Pane = 0))) L1 := by
 obtain ⟨A_s, c_s, rfl⟩ := o_s.shape
 refine enter 42 Tryz.func174 rfl Tryz.ntmps174 rfl rfl ?_
 have hs1 := St.lent1 w L_s o_s h_s
 refine WC.r1 hs1 [] rfl (WC.sr (WL.r 2 hs1 [] rfl (WL.cl Tryz.call113 rfl (k47_ _ _ _ _ _ (SlF.ofOwn o_s (hs1.ow L_s)) ?_) ?_)))
 · first | assumption | rfl | omega
 rintro _ whs2 ⟨rfl, hs2⟩
 replace hs2 := hs1.call0 hs2
 refine ⟨_, rfl, WL.r 1 hs2 [] rfl (WL.nil (WC.seq (fun K3 hK3 => WC.r1 hs2 [] rfl ?_)))⟩
 refine WC.cq rfl (fun h4 qh4 => ?_) (fun h4 qh4 => ?_)
 ·have hall : s.filter (fun r : RectD => !decide (r.Pane = 0)) = s := by
    rcases findI_cases (p := fun r : RectD => decide (r.Pane = 0)) (xs := s) with ⟨_, h1_⟩ | ⟨i1, _, h1_, _⟩
    · exact filter_none h1_
    · omega
  refine WC.r1 hs2 [] rfl (WC.ret (tkR ?_))
  clear hK3
  refine retV1 rfl (resV.tmp rfl) ?_
  have hx_ := OwnF.eqOf (xs := s.filter (fun r : RectD => !decide (r.Pane = 0))) o_s (by rw [hall])
  rw [← hx_]
  first | exact ⟨_, _, _, rfl, (St.keep1 hs2), o_s⟩ | exact ⟨A_s, c_s, _, by rw [OwnF.len_ o_s], (St.keep1 hs2), by rw [OwnF.len_ o_s]; exact o_s⟩
 obtain ⟨i0, hi0, hf0, hp0, hb0⟩ : ∃ i0 : Nat, ∃ hi : i0 < s.length, findI (fun r : RectD => decide (r.Pane = 0)) s = (i0 : Int) ∧ decide (s[i0].Pane = 0) = true ∧ ∀ j (hj : j < i0), decide ((s[j]'(by omega)).Pane = 0) = false := by
   rcases findI_cases (p := fun r : RectD => decide (r.Pane = 0)) (xs := s) with ⟨h1_, _⟩ | ⟨i1, hi, h1_, h2_, h3_⟩
   · omega
   · exact ⟨i1, hi, h1_, h2_, h3_⟩
 rw [hf0]
 have hinit : s.take i0 = (s.take (i0 + 1)).filter (fun r : RectD => !decide (r.Pane = 0)) := by
   rw [filter_take (F := encRect) hi0]
   have hg : gat encRect s i0 = s[i0] := by have e_ := gat_get (F := encRect) hi0; rw [List.getElem?_eq_getElem hi0] at e_; exact (Option.some.inj e_).symm
   rw [if_neg (by rw [hg]; simpa using hp0), List.append_nil, filter_none]
   intro x hx
   obtain ⟨j, hj, rfl⟩ := List.mem_iff_getElem.1 hx
   rw [List.length_take] at hj
   rw [List.getElem_take]
   exact hb0 j (by omega)
 refine WC.skip (hK3 _ _ (WC.seq (fun K5 hK5 => WC.r1 hs2 [] rfl (WC.block ?_))))
 refine WC.lO [1, 4, 12] rfl hs2 (fun k_ f L_ => ∃ (zs : List RectD) (i j : Nat), k_ = s.length - j ∧ (i < j) ∧ (j ≤ s.length) ∧ (zs.length = s.length) ∧ (zs.take i = (s.take j).filter (fun r : RectD => !decide (r.Pane = 0))) ∧ (∀ k, j ≤ k → gat encRect zs k = gat encRect s k) ∧ OwnF encRect 71 (.slice A_s (s.length) c_s) (zs) L_ ∧ Sub [(0, .slice A_s (s.length) c_s), (5, .int .i64 i), (6, .int .i64 j)] f) (((fun (zs : List RectD) (i j : Nat) => s.length - j) (s) (i0) ((i0 + 1)))) ?_ ?_
 ·refine ⟨s, i0, (i0 + 1), rfl, ?_, ?_, ?_, ?_, ?_, o_s, ⟨rfl, rfl, rfl, trivial⟩⟩
  · omega
  · omega
  · rfl
  · exact hinit
  · exact fun k _ => rfl
 clear hs2
 rintro _ f w L8 ⟨zs, i, j, rfl, p0, p1, p2, p3, p4, ho9, hG⟩ hF hs10
 refine WC.sub _ (hG.app hF) ?_
 clear hG hF
 refine WC.seq (fun K11 hK11 => WC.r1 hs10 [] rfl ?_)
 refine WC.cq rfl (fun h12 qh12 => ?_) (fun h12 qh12 => ?_)
 ·refine WC.skip (hK11 _ _ (WC.seq (fun K13 hK13 => WC.block (WC.sr (WL.r 2 hs10 [] rfl ?_)))))
  refine WL.val rfl rfl rfl (Run.idxN Tryz.runUnderlying158 Tryz.sizeOf71 rfl rfl rfl ?_ ?_ ?_) ?_
  · exact SlF.some_ (SlF.ofOwn ho9 (hs10.ow L8))
  · omega
  · omega
  refine WL.val rfl rfl rfl (Run.loadA Tryz.isAgg71 Tryz.sizeOf71 rfl rfl (SlF.whole (SlF.ofOwn ho9 (hs10.ow L8)) ?_)) ?_
  · omega
  refine WL.al hs10 Tryz.zeroValue71 rfl rfl (fun b14 _ hs15 => WL.st tbk hs15 0 rfl rfl (fun _ hs16 => WL.nil (WC.sr (WL.r 2 hs16 [0] rfl (WL.cl Tryz.call175 rfl (k46_ _ _ _ _ _ _) ?_)))))
  rintro _ whs17 ⟨rfl, hs17⟩
  replace hs17 := hs16.call0 hs17
  refine ⟨_, rfl, WL.r 1 hs17 [] rfl (WL.nil (WC.cq rfl (fun h18 qh18 => ?_) (fun h18 qh18 => ?_)))⟩
  ·refine WC.sr (WL.r 3 hs17 [0] rfl (WL.val rfl rfl rfl (Run.idxN Tryz.runUnderlying158 Tryz.sizeOf71 rfl rfl rfl ?_ ?_ ?_) ?_))
   · exact SlF.some_ (SlF.ofOwn ho9 (hs17.ow L8))
   · omega
   · omega
   refine WL.storeF1 (x' := (gat encRect zs j)) (hs17.fr L8) ho9 Tryz.sizeOf71 rfl rfl rfl rfl rfl rfl rfl rfl rfl ?_ rfl (fun L19 whs20 hs20 ho21 _ => ?_)
   · omega
   replace hs20 := St.back [_] hs20
   refine WL.nil (WC.region (WL.r 3 hs20 [] rfl (WL.nil (hK13 _ _ (WC.region (WL.r 3 hs20 [] rfl (WL.nil ?_)))))))
   refine tkN ?_
   replace hs20 := hs20.d1
   refine ⟨sbF rfl, _, hs20, _, ?_, _, (i + 1), (j + 1), rfl, ?_, ?_, ?_, ?_, ?_, ho21, ⟨rfl, rfl, rfl, trivial⟩⟩
   · omega
   · omega
   · omega
   · first | omega | (rw [List.length_set]; omega)
   · first | (rw [set_take (by omega), p3, filter_take (F := encRect) (by omega), if_pos (by rw [← p4 j (Nat.le_refl _)]; simpa using h18), p4 j (Nat.le_refl _)]) | (rw [p3, filter_take (F := encRect) (by omega), if_neg (by rw [← p4 j (Nat.le_refl _)]; simpa using h18), List.append_nil])
   · intro k hk; first | (rw [gat_set_ne (by omega)]; exact p4 k (by omega)) | exact p4 k (by omega)
  refine WC.skip (hK13 _ _ (WC.region (WL.r 3 hs17 [] rfl (WL.nil (tkN ?_)))))
  replace hs17 := hs17.d1
  refine ⟨sbF rfl, _, hs17, _, ?_, _, i, (j + 1), rfl, ?_, ?_, ?_, ?_, ?_, ho9, ⟨rfl, rfl, rfl, trivial⟩⟩
  · omega
  · omega
  · omega
  · first | omega | (rw [List.length_set]; omega)
  · first | (rw [set_take (by omega), p3, filter_take (F := encRect) (by omega), if_pos (by rw [← p4 j (Nat.le_refl _)]; simpa using h18), p4 j (Nat.le_refl _)]) | (rw [p3, filter_take (F := encRect) (by omega), if_neg (by rw [← p4 j (Nat.le_refl _)]; simpa using h18), List.append_nil])
  · intro k hk; first | (rw [gat_set_ne (by omega)]; exact p4 k (by omega)) | exact p4 k (by omega)
 refine WC.exit (hK5 _ _ (WC.sr (WL.r 2 hs10 [] rfl ?_)))
 have hc_ := OwnF.cap ho9
 refine WL.val rfl rfl rfl (Run.sliceL (i) Tryz.runUnderlying158 Tryz.sizeOf71 rfl rfl rfl ?_ ?_) ?_
 · first | rfl | (omega)
 · refine ⟨?_, ?_, ?_⟩ <;> (omega)
 refine WL.clearF (lo := i) hs10 ho9 Tryz.underlying158 Tryz.zeroValue71 rfl rfl rfl rfl rfl ?_ (fun L22 whs23 hs23 ho24 _ => ?_)
 · omega
 refine WL.nil (WC.sr (WL.r 2 hs23 [] rfl ?_))
 have ho25 := OwnF.take (k := i) ho24 (by omega)
 have hcho25 := OwnF.cap ho25
 refine WL.val rfl rfl rfl (Run.sliceH0 (i) Tryz.runUnderlying158 Tryz.sizeOf71 rfl rfl rfl ?_ ?_) ?_
 · first | rfl | (omega)
 · first | (exact Nat.zero_le _) | (omega)
 refine WL.r 1 hs23 [] rfl (WL.nil (WC.ret (retV1 rfl (resV.tmp rfl) ?_)))
 have hx_ := OwnF.eqOf (xs := s.filter (fun r : RectD => !decide (r.Pane = 0))) ho25 (by first | (rw [List.take_left' (by rw [List.length_take]; omega), p3, List.take_of_length_le (by omega)]) | (rw [List.take_append_of_le_length (by rw [List.length_take]; omega), List.take_take, Nat.min_self, p3, List.take_of_length_le (by omega)]))
 rw [← hx_]
 first | exact ⟨_, _, _, rfl, (St.keep1 hs23), ho25⟩ | exact ⟨A_s, c_s, _, by rw [OwnF.len_ ho25], (St.keep1 hs23), by rw [OwnF.len_ ho25]; exact ho25⟩
theorem k49_ (A_t : Option Addr) (n_t c_t : Nat) (t : List NodeD) (w_ : Int) (h_ : Int) (w : World) (f_t : SlF encNode w A_t n_t t) (hn : n_t ≤ 268435456) :
    Calls Tryz.prog 112 #[.slice A_t n_t c_t, i64 w_, i64 h_] w fun e w' => ∃ A c L1, e = .returned (.tuple #[.slice A (placesL t w_ h_).length c, .bool (placesOk t w_ h_)]) ∧ St w [] L1 w' ∧ OwnF encRect 71 (.slice A (placesL t w_ h_).length c) (placesL t w_ h_) L1 := by
 have hal := areasL_len t w_ h_
 refine enter 21 Tryz.func112 rfl Tryz.ntmps112 rfl rfl ?_
 have hs1 := St.init w
 refine WC.r1 hs1 [] rfl (WC.sr (WL.r 3 hs1 [] rfl (WL.cl Tryz.call173 rfl (k45_ _ _ _ _ _ _ _ (SlF.st0 f_t hs1) ?_) ?_)))
 · first | assumption | rfl | omega
 rintro _ whs2 ⟨A3, c4, L1_5, rfl, hs2, ho6⟩
 replace hs2 := hs1.callF hs2
 refine ⟨_, rfl, WL.r 5 hs2 [] rfl (WL.nil (WC.seq (fun K7 hK7 => WC.r1 hs2 [] rfl ?_)))⟩
 refine WC.cq rfl (fun h8 qh8 => ?_) (fun h8 qh8 => ?_)
 ·have hk : placesOk t w_ h_ = false := by simpa using h8
  refine WC.r1 hs2 [] rfl (WC.ret (tkR ?_))
  clear hK7
  refine retV2 rfl (resV.tmp rfl) (resV.tmp rfl) ?_
  rw [hk]
  have hx_ := OwnF.eqOf (xs := placesL t w_ h_) (OwnF.nil encRect 71) (by simp [placesL, hk])
  rw [← hx_]
  exact ⟨_, _, _, rfl, hs2.nil, (OwnF.nil encRect 71)⟩
 have hk : placesOk t w_ h_ = true := by simpa using h8
 have haf := areas_filter hk
 refine WC.skip (hK7 _ _ (WC.sr (WL.r 1 hs2 [] rfl ?_)))
 refine WL.cl Tryz.call174 rfl (k48_ _ _ _ _ ho6 (hs2.ow L1_5) ?_) ?_
 · first | assumption | rfl | omega
 rintro _ whs9 ⟨A10, c11, L1_12, rfl, hs9, ho13⟩
 replace hs9 := St.lend hs2 hs9
 refine ⟨_, rfl, WL.r 2 hs9 [] rfl (WL.nil (WC.ret (retV2 rfl (resV.tmp rfl) (resV.tmp rfl) ?_)))⟩
 rw [hk]
 have hx_ := OwnF.eqOf (xs := placesL t w_ h_) ho13 (by rw [haf])
 rw [← hx_]
 first | exact ⟨_, _, _, rfl, (St.keep1 hs9), ho13⟩ | exact ⟨A10, c11, _, by rw [OwnF.len_ ho13], (St.keep1 hs9), by rw [OwnF.len_ ho13]; exact ho13⟩
theorem k50_ (A_t : Option Addr) (n_t c_t : Nat) (t : List NodeD) (w_ : Int) (h_ : Int) (w : World) (f_t : SlF encNode w A_t n_t t) (hn : n_t ≤ 268435456) :
    Calls Tryz.prog 111 #[.slice A_t n_t c_t, i64 w_, i64 h_] w fun e w' => ∃ A c L1, e = .returned (.tuple #[.slice A (placesL t w_ h_).length c, .bool (placesOk t w_ h_)]) ∧ St w [] L1 w' ∧ OwnF encRect 71 (.slice A (placesL t w_ h_).length c) (placesL t w_ h_) L1 := by
 have hl := f_t.len
 refine enter 40 Tryz.func111 rfl Tryz.ntmps111 rfl rfl ?_
 have hs1 := St.init w
 refine WC.r1 hs1 [] rfl (WC.seq (fun K2 hK2 => WC.sr (WL.r 1 hs1 [] rfl ?_)))
 refine WL.cl Tryz.call101 rfl (k28_ _ _ _ _ _ (SlF.st0 f_t hs1) ?_) ?_
 · first | assumption | rfl | omega
 rintro _ whs3 ⟨rfl, hs3⟩
 replace hs3 := hs1.call0 hs3
 refine ⟨_, rfl, WL.r 2 hs3 [] rfl (WL.pO tbk 2 Acts.nil hs3 [] rfl rfl rfl rfl (fun g_ => trivial) (WL.r 1 hs3 [] rfl (WL.pO tbk 2 Acts.nil hs3 [] rfl rfl rfl rfl (fun g_ => trivial) (WL.r 1 hs3 [] rfl (WL.pO tbk 2 Acts.nil hs3 [] rfl rfl rfl rfl (fun g_ => trivial) (WL.r 1 hs3 [] rfl ?_))))))⟩
 refine WL.pO tbk 2 Acts.nil hs3 [] rfl rfl rfl rfl (fun g_ => trivial) (WL.nil (WC.cq rfl (fun h4 qh4 => ?_) (fun h4 qh4 => ?_)))
 ·have hk : placesOk t w_ h_ = false := by
    rw [← Bool.not_eq_true]; intro h_1
    simp only [placesOk, sidesOk, Bool.and_eq_true, within_iff] at h_1
    obtain ⟨⟨⟨a1_, a2_⟩, a3_⟩, _⟩ := h_1
    simp only [a1_, Bool.not_true, Bool.false_or, Bool.or_eq_true, decide_eq_true_eq] at h4; omega
  refine WC.r1 hs3 [] rfl (WC.ret (tkR ?_))
  clear hK2
  refine retV2 rfl (resV.tmp rfl) (resV.tmp rfl) ?_
  rw [hk]
  have hx_ := OwnF.eqOf (xs := placesL t w_ h_) (OwnF.nil encRect 71) (by simp [placesL, hk])
  rw [← hx_]
  exact ⟨_, _, _, rfl, hs3.nil, (OwnF.nil encRect 71)⟩
 have hs : treeOk t = true ∧ within w_ 1 120 = true ∧ within h_ 1 120 = true := by
   simp only [Bool.or_eq_false_iff, Bool.not_eq_false', decide_eq_false_iff_not] at h4
   exact ⟨h4.1.1.1.1, within_iff.2 ⟨by omega, by omega⟩, within_iff.2 ⟨by omega, by omega⟩⟩
 have hso : sidesOk t w_ h_ = true := by simp [sidesOk, hs]
 refine WC.skip (hK2 _ _ (WC.sr (WL.r 3 hs3 [] rfl ?_)))
 refine WL.val rfl rfl rfl (Run.build rfl rfl rfl rfl (built_71_3_4 _ _)) (WL.cl Tryz.call172 rfl (k41_ _ _ _ _ _ 0 _ _ _ _ _ (theT t) _ (SlF.st0 f_t hs3) ?_ ?_ ?_ ?_) ?_)
 · omega
 · rfl
 · exact (theT_at hs.1).1
 · exact fine0 hs.2.1 hs.2.2
 rintro _ whs5 ⟨A6, c7, L1_8, rfl, hs5, ho9⟩
 replace hs5 := hs3.callF hs5
 refine ⟨_, rfl, WL.r 5 hs5 [] rfl (WL.nil (WC.seq (fun K10 hK10 => WC.r1 hs5 [] rfl ?_)))⟩
 refine WC.cq rfl (fun h11 qh11 => ?_) (fun h11 qh11 => ?_)
 ·have hk : placesOk t w_ h_ = false := by simpa [placesOk, hso] using h11
  refine WC.r1 hs5 [] rfl (WC.ret (tkR ?_))
  clear hK10
  refine retV2 rfl (resV.tmp rfl) (resV.tmp rfl) ?_
  rw [hk]
  have hx_ := OwnF.eqOf (xs := placesL t w_ h_) (OwnF.nil encRect 71) (by simp [placesL, hk])
  rw [← hx_]
  exact ⟨_, _, _, rfl, hs5.nil, (OwnF.nil encRect 71)⟩
 have hk : placesOk t w_ h_ = true := by simpa [placesOk, hso] using h11
 refine WC.skip (hK10 _ _ (WC.r1 hs5 [] rfl (WC.ret (retV2 rfl (resV.tmp rfl) (resV.tmp rfl) ?_))))
 rw [hk]
 have hx_ := OwnF.eqOf (xs := placesL t w_ h_) ho9 (by simp [placesL, hk])
 rw [← hx_]
 first | exact ⟨_, _, _, rfl, (St.keep1 hs5), ho9⟩ | exact ⟨A6, c7, _, by rw [OwnF.len_ ho9], (St.keep1 hs5), by rw [OwnF.len_ ho9]; exact ho9⟩
theorem built_71 : Tryz.prog.built 71 [] = some (List.toArray [.int .i64 0, .int .i64 0, .int .i64 0, .int .i64 0, .int .i64 0]) := by kernel_rfl
theorem k51_ (r_Pane : Int) (r_X : Int) (r_Y : Int) (r_W : Int) (r_H : Int) (b_p : Nat) (p : Int) (w : World) (f_p : SlF encI w (some ⟨b_p, 0, none⟩) 1 [p]) :
    Calls Tryz.prog 114 #[.agg #[i64 r_Pane, i64 r_X, i64 r_Y, i64 r_W, i64 r_H], .pointer (some ⟨b_p, 0, none⟩)] w fun e w' => e = .returned (.bool (decide (r_Pane = p))) ∧ St w [] [] w' := by
 refine enter 8 Tryz.func114 rfl Tryz.ntmps114 rfl rfl ?_
 have hs1 := St.init w
 refine WC.sr (WL.bx hs1 rfl (fun b2 _ hs3 => WL.r 1 hs3 [] rfl (WL.nil (WC.sr (WL.r 2 hs3 [0] rfl (WL.val rfl rfl rfl (Run.load Tryz.isAgg3 rfl rfl (SlF.var (SlF.st0 f_p hs3) rfl)) (WL.r 2 hs3 [] rfl ?_)))))))
 refine WL.nil (WC.ret (rtv rfl rfl hs3 ?_))
 rfl
theorem k52_ (A_s : Option Addr) (n_s c_s : Nat) (s : List RectD) (b_p : Nat) (p : Int) (w : World) (f_s : SlF encRect w A_s n_s s) (f_p : SlF encI w (some ⟨b_p, 0, none⟩) 1 [p]) (hn : n_s ≤ 1099511627776) :
    Calls Tryz.prog 113 #[.slice A_s n_s c_s, .func (.func 114) #[] #[.pointer (some ⟨b_p, 0, none⟩)]] w fun e w' => e = .returned (.int .i64 (findI (fun r : RectD => decide (r.Pane = p)) s)) ∧ St w [] [] w' := by
 refine enter 19 Tryz.func113 rfl Tryz.ntmps113 rfl rfl ?_
 have hs1 := St.init w
 refine WC.r1 hs1 [] rfl (WC.seq (fun K2 hK2 => WC.r1 hs1 [] rfl (WC.block ?_)))
 refine WC.lS [0, 1, 7] rfl hs1 (fun k_ f w' => ∃ (i : Nat), k_ = n_s - i ∧ (i ≤ n_s) ∧ (∀ j, j < i → (fun r : RectD => decide (r.Pane = p)) (gat encRect s j) = false) ∧ Sub [(8, .int .i64 i)] f) ((fun (i : Nat) => n_s - i) (0)) ?_ ?_
 ·refine ⟨0, rfl, ?_, ?_, ⟨rfl, trivial⟩⟩
  · exact Nat.zero_le _
  · exact fun j hj => absurd hj (by omega)
 clear hs1
 rintro _ f w ⟨i, rfl, p0, p1, hG⟩ hF hs3
 refine WC.sub _ (hG.app hF) ?_
 clear hG hF
 refine WC.r1 hs3 [] rfl (WC.seq (fun K4 hK4 => ?_))
 refine WC.cond rfl (fun h5 => ?_) (fun h5 => ?_)
 ·have qh5 := h5
  try simp only [decide_eq_true_eq, decide_eq_false_iff_not] at qh5
  refine WC.skip (hK4 _ _ (WC.seq (fun K6 hK6 => WC.block (WC.r1 hs3 [] rfl (WC.sr (WL.r 3 hs3 [] rfl ?_))))))
  refine WL.val rfl rfl rfl (Run.idxN Tryz.runUnderlying158 Tryz.sizeOf71 rfl rfl rfl ?_ ?_ ?_) ?_
  · exact SlF.some_ (SlF.st0 f_s hs3)
  · omega
  · omega
  refine WL.val rfl rfl rfl (Run.loadA Tryz.isAgg71 Tryz.sizeOf71 rfl rfl (SlF.whole (SlF.st0 f_s hs3) ?_)) ?_
  · omega
  refine WL.call rfl rfl rfl (Run.callC Tryz.call114 rfl rfl rfl) (k51_ _ _ _ _ _ _ _ _ (SlF.st0 f_p hs3)) ?_
  rintro _ whs7 ⟨rfl, hs7⟩
  replace hs7 := hs3.call0 hs7
  refine ⟨_, rfl, WL.nil (WC.cond rfl (fun h8 => ?_) (fun h8 => ?_))⟩
  ·have qh8 := h8
   try simp only [decide_eq_true_eq, decide_eq_false_iff_not] at qh8
   refine WC.r1 hs7 [] rfl (WC.ret (ibR (tkR (tkR (ibR (tkR ?_))))))
   clear hK6 hK2
   refine rtv rfl rfl hs7 ?_
   rw [findI_some (F := encRect) (by rw [f_s.len]; omega) p1 h8]
  have qh8 := h8
  try simp only [decide_eq_true_eq, decide_eq_false_iff_not] at qh8
  refine WC.skip (hK6 _ _ (WC.region (WL.r 2 hs7 [] rfl (WL.nil (tkN ?_)))))
  refine ⟨sbF rfl, hs7, _, ?_, i + 1, rfl, ?_, ?_, ⟨rfl, trivial⟩⟩
  · omega
  · omega
  · intro j hj; rcases Nat.lt_or_ge j i with h_ | h_
    · exact p1 j h_
    · obtain rfl : j = i := by omega
      exact h8
 have qh5 := h5
 try simp only [decide_eq_true_eq, decide_eq_false_iff_not] at qh5
 refine WC.exit (hK2 _ _ (WC.r1 hs3 [] rfl (WC.ret (rtv rfl rfl hs3 ?_))))
 rw [findI_none (F := encRect) (fun j hj => p1 j (by rw [f_s.len] at hj; omega))]
theorem k53_ (A_t : Option Addr) (n_t c_t : Nat) (t : List NodeD) (w_ : Int) (h_ : Int) (p : Int) (w : World) (f_t : SlF encNode w A_t n_t t) (hn : n_t ≤ 268435456) :
    Calls Tryz.prog 52 #[.slice A_t n_t c_t, i64 w_, i64 h_, i64 p] w fun e w' => e = .returned (.tuple #[.agg (encRect.enc (placeR t w_ h_ p)).toArray, .bool (decide (0 ≤ placeAt t w_ h_ p))]) ∧ St w [] [] w' := by
 have hpl := placesL_len t w_ h_
 have hpa := placeAt_lt t w_ h_ p
 refine enter 30 Tryz.func52 rfl Tryz.ntmps52 rfl rfl ?_
 have hs1 := St.init w
 refine WC.sr (WL.bx hs1 rfl (fun b2 _ hs3 => WL.al hs3 Tryz.zeroValue71 rfl rfl (fun b4 _ hs5 => WL.r 1 hs5 [] rfl (WL.nil (WC.sr (WL.r 3 hs5 [] rfl ?_))))))
 refine WL.cl Tryz.call112 rfl (k49_ _ _ _ _ _ _ _ (SlF.st0 f_t hs5) ?_) ?_
 · first | assumption | rfl | omega
 rintro _ whs6 ⟨A7, c8, L1_9, rfl, hs6, ho10⟩
 replace hs6 := hs5.callF hs6
 refine ⟨_, rfl, ?_⟩
 replace hs6 := St.back [_, _] hs6
 refine WL.r 5 hs6 [] rfl (WL.nil (WC.sr (WL.r 1 hs6 [] rfl (WL.val rfl rfl rfl (Run.makeFunc rfl rfl) (WL.cl Tryz.call113 rfl (k52_ _ _ _ _ _ _ _ (SlF.ofOwn ho10 (hs6.ow L1_9)) (SlF.own1 (hs6.own _ (nthL_mem (i := 1) rfl)).1) ?_) ?_)))))
 · first | assumption | rfl | omega
 rintro _ whs11 ⟨rfl, hs11⟩
 replace hs11 := hs6.call0 hs11
 refine ⟨_, rfl, WL.r 1 hs11 [] rfl (WL.nil (WC.seq (fun K12 hK12 => WC.r1 hs11 [] rfl ?_)))⟩
 refine WC.cD rfl (fun qh13 => ?_) (fun qh13 => ?_)
 ·have hk : ¬ 0 ≤ placeAt t w_ h_ p := by show ¬ 0 ≤ findI _ _; omega
  refine WC.sr ?_
  refine WL.val rfl rfl rfl (Run.build rfl rfl rfl rfl (built_71)) (WL.st tbk hs11 0 rfl rfl (fun _ hs14 => WL.r 1 hs14 [] rfl (WL.nil (WC.ret (tkR ?_)))))
  clear hK12
  refine retV2 rfl (resV.cellA tbk hs14 0 rfl rfl rfl rfl) (resV.tmp rfl) (⟨congrArg Ending.returned ?_, hs14.nil⟩)
  rw [placeR, if_neg hk, decide_eq_false hk]; rfl
 have hk : 0 ≤ placeAt t w_ h_ p := by show 0 ≤ findI _ _; omega
 have hpe : findI (fun r : RectD => decide (r.Pane = p)) (placesL t w_ h_) = placeAt t w_ h_ p := rfl
 refine WC.skip (hK12 _ _ (WC.sr (WL.r 2 hs11 [] rfl ?_)))
 refine WL.val rfl rfl rfl (Run.idxK ((placeAt t w_ h_ p).toNat) Tryz.runUnderlying158 Tryz.sizeOf71 rfl rfl rfl ?_ ?_ ?_) ?_
 · exact SlF.some_ (SlF.ofOwn ho10 (hs11.ow L1_9))
 · omega
 · omega
 refine WL.val rfl rfl rfl (Run.loadA Tryz.isAgg71 Tryz.sizeOf71 rfl rfl (SlF.whole (SlF.ofOwn ho10 (hs11.ow L1_9)) ?_)) ?_
 · omega
 refine WL.st tbk hs11 0 rfl rfl (fun _ hs15 => WL.r 1 hs15 [] rfl (WL.nil (WC.ret (retV2 rfl (resV.cellA tbk hs15 0 rfl rfl rfl rfl) (resV.tmp rfl) (⟨congrArg Ending.returned ?_, hs15.nil⟩)))))
 rw [placeR, if_pos hk, decide_eq_true hk]; rfl
theorem k54_ (A_t : Option Addr) (n_t c_t : Nat) (t : List NodeD) (w_ : Int) (h_ : Int) (p : Int) (w : World) (f_t : SlF encNode w A_t n_t t) (hn : n_t ≤ 268435456) :
    Calls Tryz.prog 51 #[.slice A_t n_t c_t, i64 w_, i64 h_, i64 p] w fun e w' => e = .returned (.tuple #[.agg (encRect.enc (placeR t w_ h_ p)).toArray, .bool (decide (0 ≤ placeAt t w_ h_ p))]) ∧ St w [] [] w' := by
 have hpl := placesL_len t w_ h_
 refine enter 34 Tryz.func51 rfl Tryz.ntmps51 rfl rfl ?_
 have hs1 := St.init w
 refine WC.sr (WL.al hs1 Tryz.zeroValue71 rfl rfl (fun b2 _ hs3 => WL.r 1 hs3 [] rfl (WL.nil (WC.sr (WL.r 3 hs3 [] rfl ?_)))))
 refine WL.cl Tryz.call111 rfl (k50_ _ _ _ _ _ _ _ (SlF.st0 f_t hs3) ?_) ?_
 · first | assumption | rfl | omega
 rintro _ whs4 ⟨A5, c6, L1_7, rfl, hs4, ho8⟩
 replace hs4 := hs3.callF hs4
 refine ⟨_, rfl, ?_⟩
 replace hs4 := St.back [_] hs4
 refine WL.r 5 hs4 [] rfl (WL.nil (WC.seq (fun K9 hK9 => WC.r1 hs4 [] rfl (WC.block ?_))))
 refine WC.lS [3, 8, 21, 22] rfl hs4 (fun k_ f w' => ∃ (i : Nat), k_ = (placesL t w_ h_).length - i ∧ (i ≤ (placesL t w_ h_).length) ∧ (∀ j, j < i → (fun r : RectD => decide (r.Pane = p)) (gat encRect (placesL t w_ h_) j) = false) ∧ Sub [(23, .int .i64 i)] f) ((fun (i : Nat) => (placesL t w_ h_).length - i) (0)) ?_ ?_
 ·refine ⟨0, rfl, ?_, ?_, ⟨rfl, trivial⟩⟩
  · exact Nat.zero_le _
  · exact fun j hj => absurd hj (by omega)
 clear hs4
 rintro _ f w ⟨i, rfl, p0, p1, hG⟩ hF hs10
 refine WC.sub _ (hG.app hF) ?_
 clear hG hF
 refine WC.r1 hs10 [] rfl (WC.seq (fun K11 hK11 => ?_))
 refine WC.cq rfl (fun h12 qh12 => ?_) (fun h12 qh12 => ?_)
 ·refine WC.skip (hK11 _ _ (WC.seq (fun K13 hK13 => WC.block (WC.sr ?_))))
  refine WL.val rfl rfl rfl (Run.idxN Tryz.runUnderlying158 Tryz.sizeOf71 rfl rfl rfl ?_ ?_ ?_) ?_
  · exact SlF.some_ (SlF.ofOwn ho8 (hs10.ow L1_7))
  · omega
  · omega
  refine WL.val rfl rfl rfl (Run.loadA Tryz.isAgg71 Tryz.sizeOf71 rfl rfl (SlF.whole (SlF.ofOwn ho8 (hs10.ow L1_7)) ?_)) ?_
  · omega
  refine WL.al hs10 Tryz.zeroValue71 rfl rfl (fun b14 _ hs15 => WL.st tbk hs15 0 rfl rfl (fun _ hs16 => WL.nil (WC.r1 hs16 [0] rfl ?_)))
  refine WC.cq rfl (fun h17 qh17 => ?_) (fun h17 qh17 => ?_)
  ·have hfi : placeAt t w_ h_ p = (i : Int) := findI_some (F := encRect) (by omega) p1 h17
   refine WC.sr (WL.r 1 hs16 [0] rfl (WL.st tbk hs16 1 rfl rfl (fun _ hs18 => WL.r 1 hs18 [] rfl (WL.nil (WC.ret (ibR (tkR (tkR (ibR (tkR ?_))))))))))
   clear hK13 hK9
   refine retV2 rfl (resV.cellA tbk hs18 1 rfl rfl rfl rfl) (resV.tmp rfl) (⟨congrArg Ending.returned ?_, hs18.nil⟩)
   rw [placeR, hfi, if_pos (by omega), decide_eq_true (by omega)]; rfl
  refine WC.skip (hK13 _ _ (WC.region (WL.r 2 hs16 [] rfl (WL.nil (tkN ?_)))))
  refine ⟨sbF rfl, (hs16.drop (by repeat (first | exact List.Sublist.refl _ | exact List.sublist_append_left _ _ | exact List.Sublist.trans (List.sublist_append_left _ _) (List.sublist_append_left _ _) | apply List.Sublist.cons | refine List.Sublist.trans ?_ (sR _)))), _, ?_, i + 1, rfl, ?_, ?_, ⟨rfl, trivial⟩⟩
  · omega
  · omega
  · intro j hj; rcases Nat.lt_or_ge j i with h_0 | h_0
    · exact p1 j h_0
    · obtain rfl : j = i := by omega
      exact h17
 have hfi : placeAt t w_ h_ p = -1 := findI_none (F := encRect) (fun j hj => p1 j (by omega))
 refine WC.exit (hK9 _ _ (WC.sr ?_))
 refine WL.val rfl rfl rfl (Run.build rfl rfl rfl rfl (built_71)) (WL.st tbk hs10 0 rfl rfl (fun _ hs19 => WL.r 1 hs19 [] rfl (WL.nil (WC.ret (retV2 rfl (resV.cellA tbk hs19 0 rfl rfl rfl rfl) (resV.tmp rfl) (⟨congrArg Ending.returned ?_, hs19.nil⟩))))))
 rw [placeR, hfi]; rfl
theorem k55_ (s : StateR) (p : Int) (w : World) (f_s : okStateR 549755813888 w s) (hT : totState s.dat ≤ 1048576) :
    Calls Tryz.prog 17 #[.agg #[i64 s.W, i64 s.H, i64 s.Limit, i64 s.Next, .slice s.Panes.A s.Panes.n s.Panes.c, .slice s.Wins.A s.Wins.n s.Wins.c, .slice s.Sess.A s.Sess.n s.Sess.c], i64 p] w fun e w' => e = .returned (.tuple #[.int .i64 (areaD s.dat p).1, .int .i64 (areaD s.dat p).2]) ∧ St w [] [] w' := by
 have nb_s_Panes := f_s.Panes_n
 have nl_s_Panes := f_s.Panes.sl.len
 have nb_s_Wins := f_s.Wins_n
 have nl_s_Wins := f_s.Wins.sl.len
 have nb_s_Sess := f_s.Sess_n
 have nl_s_Sess := f_s.Sess.sl.len
 have hsm0 : smState 1048576 s.dat := totState_sm hT
 have hWn : ∀ y, y ∈ s.Wins.xs → y.Tree.n ≤ 1048576 := fun y hy => by have h1 := (f_s.Wins.all y hy).Tree.len; have h2 : y.Tree.xs.length ≤ 1048576 := (hsm0.2.2.2.1 _ (List.mem_map_of_mem hy)).2; omega
 refine enter 47 Tryz.func17 rfl Tryz.ntmps17 rfl rfl ?_
 have hs1 := St.init w
 refine WC.sr (WL.bx hs1 rfl (fun b2 _ hs3 => WL.r 2 hs3 [] rfl (WL.nil (WC.sr (WL.r 2 hs3 [0] rfl ?_)))))
 refine WL.cl Tryz.call14 rfl (k36_ s _ _ (okStateR.st0 f_s hs3) ?_) ?_
 · first | assumption | rfl | omega
 rintro _ whs4 ⟨rfl, hs4⟩
 replace hs4 := hs3.call0 hs4
 refine ⟨_, rfl, WL.r 1 hs4 [] rfl (WL.nil (WC.seq (fun K5 hK5 => WC.r1 hs4 [] rfl ?_)))⟩
 refine WC.cq rfl (fun h6 qh6 => ?_) (fun h6 qh6 => ?_)
 ·have hfd : s.dat.Wins.find? (winHas p) = none := by rw [find_findI, if_neg (by have h9 := h6; simp at h9; omega)]
  have hAD : areaD s.dat p = (0, 0) := by unfold areaD; rw [hfd]
  refine WC.r1 hs4 [] rfl (WC.ret (tkR ?_))
  clear hK5
  refine retV2 rfl (resV.tmp rfl) (resV.tmp rfl) (⟨congrArg Ending.returned ?_, hs4.nil⟩)
  rw [hAD]
 have hk0 : 0 ≤ (findI (winHas p) s.dat.Wins) := by have h9 := h6; simp at h9; omega
 have hlt : (findI (winHas p) s.dat.Wins).toNat < s.Wins.xs.length := by have h9 := findI_lt (p := winHas p) (xs := s.dat.Wins); have h8 : s.dat.Wins.length = s.Wins.xs.length := List.length_map _; omega
 have hfd : s.dat.Wins.find? (winHas p) = some (gat encWinR s.Wins.xs (findI (winHas p) s.dat.Wins).toNat).dat := by rw [find_findI, if_pos hk0, show s.dat.Wins = s.Wins.xs.map WinR.dat from rfl, List.getElem?_map, gat_get (F := encWinR) (by exact hlt)]; rfl
 have hAD : areaD s.dat p = areaW s.dat p (gat encWinR s.Wins.xs (findI (winHas p) s.dat.Wins).toNat).dat := by unfold areaD; rw [hfd]
 have hWi := hWn (gat encWinR s.Wins.xs (findI (winHas p) s.dat.Wins).toNat) (gat_mem hlt)
 have hwl : (findI (winHas p) s.dat.Wins) < s.Wins.n := by omega
 refine WC.skip (hK5 _ _ (WC.sr (WL.r 3 hs4 [0] rfl ?_)))
 refine WL.val rfl rfl rfl (Run.idxK ((findI (winHas p) s.dat.Wins).toNat) Tryz.runUnderlying30 Tryz.sizeOf58 rfl rfl rfl ?_ ?_ ?_) ?_
 · exact SlF.some_ (SlF.st0 f_s.Wins.sl hs4)
 · omega
 · omega
 refine WL.val rfl rfl rfl (Run.loadA Tryz.isAgg58 Tryz.sizeOf58 rfl rfl (SlF.whole (SlF.st0 f_s.Wins.sl hs4) ?_)) ?_
 · omega
 refine WL.al hs4 Tryz.zeroValue58 rfl rfl (fun b7 _ hs8 => WL.st tbk hs8 0 rfl rfl (fun _ hs9 => WL.nil (WC.seq (fun K10 hK10 => WC.sr (WL.r 3 hs9 [0] rfl (WL.pA tbk 4 Acts.nil hs9 [0] rfl rfl rfl rfl (fun g_ => ⟨rfl, trivial⟩) (WL.nil ?_)))))))
 refine WC.cq rfl (fun h11 qh11 => ?_) (fun h11 qh11 => ?_)
 ·have hz : ((gat encWinR s.Wins.xs (findI (winHas p) s.dat.Wins).toNat).Zoom && decide ((gat encWinR s.Wins.xs (findI (winHas p) s.dat.Wins).toNat).Active = p)) = true := h11
  have hAW : areaW s.dat p (gat encWinR s.Wins.xs (findI (winHas p) s.dat.Wins).toNat).dat = (s.W, s.H) := if_pos hz
  refine WC.q1 hs9 [1, 1] rfl (fun _ hs12 => WC.ret (tkR ?_))
  clear hK10
  refine retV2 rfl (resV.tmp rfl) (resV.tmp rfl) (⟨congrArg Ending.returned ?_, hs12.nil⟩)
  rw [hAD, hAW]
 have hz : ¬ ((gat encWinR s.Wins.xs (findI (winHas p) s.dat.Wins).toNat).Zoom && decide ((gat encWinR s.Wins.xs (findI (winHas p) s.dat.Wins).toNat).Active = p)) = true := by have h9 := h11; rw [h9]; decide
 have hAW : areaW s.dat p (gat encWinR s.Wins.xs (findI (winHas p) s.dat.Wins).toNat).dat = ((placeR (gat encWinR s.Wins.xs (findI (winHas p) s.dat.Wins).toNat).Tree.xs s.W s.H p).W, (placeR (gat encWinR s.Wins.xs (findI (winHas p) s.dat.Wins).toNat).Tree.xs s.W s.H p).H) := if_neg hz
 refine WC.skip (hK10 _ _ (WC.sr (WL.r 7 hs9 [0, 1, 1] rfl ?_)))
 refine WL.cl Tryz.call52 rfl (k53_ _ _ _ _ _ _ _ _ (SlF.st0 (SlN.nth f_s.Wins (by omega)).Tree hs9) ?_) ?_
 · first | assumption | rfl | omega
 rintro _ whs13 ⟨rfl, hs13⟩
 replace hs13 := hs9.call0 hs13
 refine ⟨_, rfl, WL.r 3 hs13 [] rfl (WL.al hs13 Tryz.zeroValue71 rfl rfl (fun b14 _ hs15 => WL.st tbk hs15 0 rfl rfl (fun _ hs16 => WL.r 1 hs16 [] rfl (WL.nil (WC.q1 hs16 [0, 0] rfl (fun _ hs17 => WC.ret ?_))))))⟩
 refine retV2 rfl (resV.tmp rfl) (resV.tmp rfl) (⟨congrArg Ending.returned ?_, hs17.nil⟩)
 rw [hAD, hAW]
theorem k56_ (s : StateR) (p : Int) (w : World) (f_s : okStateR 549755813888 w s) (hT : totState s.dat ≤ 1048576) :
    Calls Tryz.prog 16 #[.agg #[i64 s.W, i64 s.H, i64 s.Limit, i64 s.Next, .slice s.Panes.A s.Panes.n s.Panes.c, .slice s.Wins.A s.Wins.n s.Wins.c, .slice s.Sess.A s.Sess.n s.Sess.c], i64 p] w fun e w' => e = .returned (.tuple #[.int .i64 (areaD s.dat p).1, .int .i64 (areaD s.dat p).2]) ∧ St w [] [] w' := by
 have nb_s_Panes := f_s.Panes_n
 have nl_s_Panes := f_s.Panes.sl.len
 have nb_s_Wins := f_s.Wins_n
 have nl_s_Wins := f_s.Wins.sl.len
 have nb_s_Sess := f_s.Sess_n
 have nl_s_Sess := f_s.Sess.sl.len
 have hsm0 : smState 1048576 s.dat := totState_sm hT
 have hWn : ∀ y, y ∈ s.Wins.xs → y.Tree.n ≤ 1048576 := fun y hy => by have h1 := (f_s.Wins.all y hy).Tree.len; have h2 : y.Tree.xs.length ≤ 1048576 := (hsm0.2.2.2.1 _ (List.mem_map_of_mem hy)).2; omega
 refine enter 47 Tryz.func16 rfl Tryz.ntmps16 rfl rfl ?_
 have hs1 := St.init w
 refine WC.sr (WL.bx hs1 rfl (fun b2 _ hs3 => WL.r 2 hs3 [] rfl (WL.nil (WC.sr (WL.r 2 hs3 [0] rfl ?_)))))
 refine WL.cl Tryz.call12 rfl (k37_ s _ _ (okStateR.st0 f_s hs3) ?_) ?_
 · first | assumption | rfl | omega
 rintro _ whs4 ⟨rfl, hs4⟩
 replace hs4 := hs3.call0 hs4
 refine ⟨_, rfl, WL.r 1 hs4 [] rfl (WL.nil (WC.seq (fun K5 hK5 => WC.r1 hs4 [] rfl ?_)))⟩
 refine WC.cq rfl (fun h6 qh6 => ?_) (fun h6 qh6 => ?_)
 ·have hfd : s.dat.Wins.find? (winHas p) = none := by rw [find_findI, if_neg (by have h9 := h6; simp at h9; omega)]
  have hAD : areaD s.dat p = (0, 0) := by unfold areaD; rw [hfd]
  refine WC.r1 hs4 [] rfl (WC.ret (tkR ?_))
  clear hK5
  refine retV2 rfl (resV.tmp rfl) (resV.tmp rfl) (⟨congrArg Ending.returned ?_, hs4.nil⟩)
  rw [hAD]
 have hk0 : 0 ≤ (findI (winHas p) s.dat.Wins) := by have h9 := h6; simp at h9; omega
 have hlt : (findI (winHas p) s.dat.Wins).toNat < s.Wins.xs.length := by have h9 := findI_lt (p := winHas p) (xs := s.dat.Wins); have h8 : s.dat.Wins.length = s.Wins.xs.length := List.length_map _; omega
 have hfd : s.dat.Wins.find? (winHas p) = some (gat encWinR s.Wins.xs (findI (winHas p) s.dat.Wins).toNat).dat := by rw [find_findI, if_pos hk0, show s.dat.Wins = s.Wins.xs.map WinR.dat from rfl, List.getElem?_map, gat_get (F := encWinR) (by exact hlt)]; rfl
 have hAD : areaD s.dat p = areaW s.dat p (gat encWinR s.Wins.xs (findI (winHas p) s.dat.Wins).toNat).dat := by unfold areaD; rw [hfd]
 have hWi := hWn (gat encWinR s.Wins.xs (findI (winHas p) s.dat.Wins).toNat) (gat_mem hlt)
 have hwl : (findI (winHas p) s.dat.Wins) < s.Wins.n := by omega
 refine WC.skip (hK5 _ _ (WC.sr (WL.r 3 hs4 [0] rfl ?_)))
 refine WL.val rfl rfl rfl (Run.idxK ((findI (winHas p) s.dat.Wins).toNat) Tryz.runUnderlying30 Tryz.sizeOf58 rfl rfl rfl ?_ ?_ ?_) ?_
 · exact SlF.some_ (SlF.st0 f_s.Wins.sl hs4)
 · omega
 · omega
 refine WL.val rfl rfl rfl (Run.loadA Tryz.isAgg58 Tryz.sizeOf58 rfl rfl (SlF.whole (SlF.st0 f_s.Wins.sl hs4) ?_)) ?_
 · omega
 refine WL.al hs4 Tryz.zeroValue58 rfl rfl (fun b7 _ hs8 => WL.st tbk hs8 0 rfl rfl (fun _ hs9 => WL.nil (WC.seq (fun K10 hK10 => WC.sr (WL.r 3 hs9 [0] rfl (WL.pA tbk 4 Acts.nil hs9 [0] rfl rfl rfl rfl (fun g_ => ⟨rfl, trivial⟩) (WL.nil ?_)))))))
 refine WC.cq rfl (fun h11 qh11 => ?_) (fun h11 qh11 => ?_)
 ·have hz : ((gat encWinR s.Wins.xs (findI (winHas p) s.dat.Wins).toNat).Zoom && decide ((gat encWinR s.Wins.xs (findI (winHas p) s.dat.Wins).toNat).Active = p)) = true := h11
  have hAW : areaW s.dat p (gat encWinR s.Wins.xs (findI (winHas p) s.dat.Wins).toNat).dat = (s.W, s.H) := if_pos hz
  refine WC.q1 hs9 [1, 1] rfl (fun _ hs12 => WC.ret (tkR ?_))
  clear hK10
  refine retV2 rfl (resV.tmp rfl) (resV.tmp rfl) (⟨congrArg Ending.returned ?_, hs12.nil⟩)
  rw [hAD, hAW]
 have hz : ¬ ((gat encWinR s.Wins.xs (findI (winHas p) s.dat.Wins).toNat).Zoom && decide ((gat encWinR s.Wins.xs (findI (winHas p) s.dat.Wins).toNat).Active = p)) = true := by have h9 := h11; rw [h9]; decide
 have hAW : areaW s.dat p (gat encWinR s.Wins.xs (findI (winHas p) s.dat.Wins).toNat).dat = ((placeR (gat encWinR s.Wins.xs (findI (winHas p) s.dat.Wins).toNat).Tree.xs s.W s.H p).W, (placeR (gat encWinR s.Wins.xs (findI (winHas p) s.dat.Wins).toNat).Tree.xs s.W s.H p).H) := if_neg hz
 refine WC.skip (hK10 _ _ (WC.sr (WL.r 7 hs9 [0, 1, 1] rfl ?_)))
 refine WL.cl Tryz.call51 rfl (k54_ _ _ _ _ _ _ _ _ (SlF.st0 (SlN.nth f_s.Wins (by omega)).Tree hs9) ?_) ?_
 · first | assumption | rfl | omega
 rintro _ whs13 ⟨rfl, hs13⟩
 replace hs13 := hs9.call0 hs13
 refine ⟨_, rfl, WL.r 3 hs13 [] rfl (WL.al hs13 Tryz.zeroValue71 rfl rfl (fun b14 _ hs15 => WL.st tbk hs15 0 rfl rfl (fun _ hs16 => WL.r 1 hs16 [] rfl (WL.nil (WC.q1 hs16 [0, 0] rfl (fun _ hs17 => WC.ret ?_))))))⟩
 refine retV2 rfl (resV.tmp rfl) (resV.tmp rfl) (⟨congrArg Ending.returned ?_, hs17.nil⟩)
 rw [hAD, hAW]
theorem k57_ (s : StateR) (p : Int) (w : World) (f_s : okStateR 549755813888 w s) :
    Calls Tryz.prog 116 #[.agg #[i64 s.W, i64 s.H, i64 s.Limit, i64 s.Next, .slice s.Panes.A s.Panes.n s.Panes.c, .slice s.Wins.A s.Wins.n s.Wins.c, .slice s.Sess.A s.Sess.n s.Sess.c], i64 p] w fun e w' => e = .returned (.int .i64 (findI (fun q : PaneD => decide (q.Id = p)) s.dat.Panes)) ∧ St w [] [] w' := by
 have nb_s_Panes := f_s.Panes_n
 have nl_s_Panes := f_s.Panes.sl.len
 have nb_s_Wins := f_s.Wins_n
 have nl_s_Wins := f_s.Wins.sl.len
 have nb_s_Sess := f_s.Sess_n
 have nl_s_Sess := f_s.Sess.sl.len
 refine enter 21 Tryz.func116 rfl Tryz.ntmps116 rfl rfl ?_
 have hs1 := St.init w
 refine WC.sr (WL.bx hs1 rfl (fun b2 _ hs3 => WL.r 1 hs3 [] rfl (WL.nil (WC.seq (fun K4 hK4 => WC.r1 hs3 [0] rfl (WC.block ?_))))))
 refine WC.lS [1, 8, 9] rfl hs3 (fun k_ f w' => ∃ (i : Nat), k_ = s.Panes.n - i ∧ (i ≤ s.Panes.n) ∧ (∀ j, j < i → (fun q : PaneR => decide (q.Id = p)) (gat encPaneR s.Panes.xs j) = false) ∧ Sub [(10, .int .i64 i)] f) ((fun (i : Nat) => s.Panes.n - i) (0)) ?_ ?_
 ·refine ⟨0, rfl, ?_, ?_, ⟨rfl, trivial⟩⟩
  · exact Nat.zero_le _
  · exact fun j hj => absurd hj (by omega)
 clear hs3
 rintro _ f w ⟨i, rfl, p0, p1, hG⟩ hF hs5
 refine WC.sub _ (hG.app hF) ?_
 clear hG hF
 refine WC.r1 hs5 [] rfl (WC.seq (fun K6 hK6 => ?_))
 refine WC.cq rfl (fun h7 qh7 => ?_) (fun h7 qh7 => ?_)
 ·refine WC.skip (hK6 _ _ (WC.seq (fun K8 hK8 => WC.block (WC.sr (WL.r 1 hs5 [] rfl ?_)))))
  refine WL.val rfl rfl rfl (Run.idxN Tryz.runUnderlying29 Tryz.sizeOf93 rfl rfl rfl ?_ ?_ ?_) ?_
  · exact SlF.some_ (SlF.st0 f_s.Panes.sl hs5)
  · omega
  · omega
  refine WL.val rfl rfl rfl (Run.loadA Tryz.isAgg93 Tryz.sizeOf93 rfl rfl (SlF.whole (SlF.st0 f_s.Panes.sl hs5) ?_)) ?_
  · omega
  refine WL.al hs5 Tryz.zeroValue93 rfl rfl (fun b9 _ hs10 => WL.r 1 hs10 [] rfl (WL.st tbk hs10 0 rfl rfl (fun _ hs11 => WL.nil (WC.r1 hs11 [0] rfl ?_))))
  refine WC.cq rfl (fun h12 qh12 => ?_) (fun h12 qh12 => ?_)
  ·refine WC.r1 hs11 [] rfl (WC.ret (ibR (tkR (tkR (ibR (tkR ?_))))))
   clear hK8 hK4
   refine rtv rfl rfl hs11 ?_
   rw [show s.dat.Panes = s.Panes.xs.map PaneR.dat from rfl, findI_map]; exact congrArg (Value.int _) (findI_some (F := encPaneR) (p := (fun q : PaneR => decide (q.Id = p))) (xs := s.Panes.xs) (by omega) p1 h12).symm
  refine WC.skip (hK8 _ _ (WC.region (WL.r 2 hs11 [] rfl (WL.nil (tkN ?_)))))
  refine ⟨sbF rfl, (hs11.drop (by repeat (first | exact List.Sublist.refl _ | exact List.sublist_append_left _ _ | exact List.Sublist.trans (List.sublist_append_left _ _) (List.sublist_append_left _ _) | apply List.Sublist.cons | refine List.Sublist.trans ?_ (sR _)))), _, ?_, i + 1, rfl, ?_, ?_, ⟨rfl, trivial⟩⟩
  · omega
  · omega
  · intro j hj; rcases Nat.lt_or_ge j i with h_ | h_
    · exact p1 j h_
    · obtain rfl : j = i := by omega
      exact h12
 refine WC.exit (hK4 _ _ (WC.r1 hs5 [] rfl (WC.ret (rtv rfl rfl hs5 ?_))))
 rw [show s.dat.Panes = s.Panes.xs.map PaneR.dat from rfl, findI_map]; exact congrArg (Value.int _) (findI_none (F := encPaneR) (p := (fun q : PaneR => decide (q.Id = p))) (xs := s.Panes.xs) (fun j hj => p1 j (by omega))).symm
theorem k58_ (q : WinR) (b_p : Nat) (p : Int) (w : World) (f_q : okWinR 549755813888 w q) (f_p : SlF encI w (some ⟨b_p, 0, none⟩) 1 [p]) :
    Calls Tryz.prog 177 #[.agg #[i64 q.Id, .string q.Name, .slice q.Tree.A q.Tree.n q.Tree.c, i64 q.Active, .bool q.Zoom], .pointer (some ⟨b_p, 0, none⟩)] w fun e w' => e = .returned (.bool (decide (q.Id = p))) ∧ St w [] [] w' := by
 have nz_q_Name := f_q.Name_z
 have nb_q_Tree := f_q.Tree_n
 have nl_q_Tree := f_q.Tree.len
 refine enter 8 Tryz.func177 rfl Tryz.ntmps177 rfl rfl ?_
 have hs1 := St.init w
 refine WC.sr (WL.bx hs1 rfl (fun b2 _ hs3 => WL.r 1 hs3 [] rfl (WL.nil (WC.sr (WL.r 2 hs3 [0] rfl (WL.val rfl rfl rfl (Run.load Tryz.isAgg3 rfl rfl (SlF.var (SlF.st0 f_p hs3) rfl)) (WL.r 2 hs3 [] rfl ?_)))))))
 refine WL.nil (WC.ret (rtv rfl rfl hs3 ?_))
 rfl
theorem k59_ (A_s : Option Addr) (n_s c_s : Nat) (s : List WinR) (b_p : Nat) (p : Int) (w : World) (f_s : SlN encWinR (okWinR 549755813888) w A_s n_s s) (f_p : SlF encI w (some ⟨b_p, 0, none⟩) 1 [p]) (hn : n_s ≤ 549755813888) :
    Calls Tryz.prog 44 #[.slice A_s n_s c_s, .func (.func 177) #[] #[.pointer (some ⟨b_p, 0, none⟩)]] w fun e w' => e = .returned (.int .i64 (findI (fun q => decide (q.Id = p)) s)) ∧ St w [] [] w' := by
 refine enter 19 Tryz.func44 rfl Tryz.ntmps44 rfl rfl ?_
 have hs1 := St.init w
 refine WC.r1 hs1 [] rfl (WC.seq (fun K2 hK2 => WC.r1 hs1 [] rfl (WC.block ?_)))
 refine WC.lS [0, 1, 7] rfl hs1 (fun k_ f w' => ∃ (i : Nat), k_ = n_s - i ∧ (i ≤ n_s) ∧ (∀ j, j < i → (fun q => decide (q.Id = p)) (gat encWinR s j) = false) ∧ Sub [(8, .int .i64 i)] f) ((fun (i : Nat) => n_s - i) (0)) ?_ ?_
 ·refine ⟨0, rfl, ?_, ?_, ⟨rfl, trivial⟩⟩
  · exact Nat.zero_le _
  · exact fun j hj => absurd hj (by omega)
 clear hs1
 rintro _ f w ⟨i, rfl, p0, p1, hG⟩ hF hs3
 refine WC.sub _ (hG.app hF) ?_
 clear hG hF
 refine WC.r1 hs3 [] rfl (WC.seq (fun K4 hK4 => ?_))
 refine WC.cond rfl (fun h5 => ?_) (fun h5 => ?_)
 ·have qh5 := h5
  try simp only [decide_eq_true_eq, decide_eq_false_iff_not] at qh5
  refine WC.skip (hK4 _ _ (WC.seq (fun K6 hK6 => WC.block (WC.r1 hs3 [] rfl (WC.sr (WL.r 3 hs3 [] rfl ?_))))))
  refine WL.val rfl rfl rfl (Run.idxN Tryz.runUnderlying30 Tryz.sizeOf58 rfl rfl rfl ?_ ?_ ?_) ?_
  · exact SlF.some_ (SlF.st0 f_s.sl hs3)
  · omega
  · omega
  refine WL.val rfl rfl rfl (Run.loadA Tryz.isAgg58 Tryz.sizeOf58 rfl rfl (SlF.whole (SlF.st0 f_s.sl hs3) ?_)) ?_
  · omega
  refine WL.call rfl rfl rfl (Run.callC Tryz.call177 rfl rfl rfl) (k58_ (gat encWinR s i) _ _ _ (okWinR.st0 (SlN.nth f_s (by omega)) hs3) (SlF.st0 f_p hs3)) ?_
  rintro _ whs7 ⟨rfl, hs7⟩
  replace hs7 := hs3.call0 hs7
  refine ⟨_, rfl, WL.nil (WC.cond rfl (fun h8 => ?_) (fun h8 => ?_))⟩
  ·have qh8 := h8
   try simp only [decide_eq_true_eq, decide_eq_false_iff_not] at qh8
   refine WC.r1 hs7 [] rfl (WC.ret (ibR (tkR (tkR (ibR (tkR ?_))))))
   clear hK6 hK2
   refine rtv rfl rfl hs7 ?_
   rw [findI_some (F := encWinR) (by rw [f_s.len]; omega) p1 h8]
  have qh8 := h8
  try simp only [decide_eq_true_eq, decide_eq_false_iff_not] at qh8
  refine WC.skip (hK6 _ _ (WC.region (WL.r 2 hs7 [] rfl (WL.nil (tkN ?_)))))
  refine ⟨sbF rfl, hs7, _, ?_, i + 1, rfl, ?_, ?_, ⟨rfl, trivial⟩⟩
  · omega
  · omega
  · intro j hj; rcases Nat.lt_or_ge j i with h_ | h_
    · exact p1 j h_
    · obtain rfl : j = i := by omega
      exact h8
 have qh5 := h5
 try simp only [decide_eq_true_eq, decide_eq_false_iff_not] at qh5
 refine WC.exit (hK2 _ _ (WC.r1 hs3 [] rfl (WC.ret (rtv rfl rfl hs3 ?_))))
 rw [findI_none (F := encWinR) (fun j hj => p1 j (by rw [f_s.len] at hj; omega))]
theorem k60_ (s : StateR) (p : Int) (w : World) (f_s : okStateR 549755813888 w s) :
    Calls Tryz.prog 122 #[.agg #[i64 s.W, i64 s.H, i64 s.Limit, i64 s.Next, .slice s.Panes.A s.Panes.n s.Panes.c, .slice s.Wins.A s.Wins.n s.Wins.c, .slice s.Sess.A s.Sess.n s.Sess.c], i64 p] w fun e w' => e = .returned (.int .i64 (findI (fun q : WinD => decide (q.Id = p)) s.dat.Wins)) ∧ St w [] [] w' := by
 have nb_s_Panes := f_s.Panes_n
 have nl_s_Panes := f_s.Panes.sl.len
 have nb_s_Wins := f_s.Wins_n
 have nl_s_Wins := f_s.Wins.sl.len
 have nb_s_Sess := f_s.Sess_n
 have nl_s_Sess := f_s.Sess.sl.len
 refine enter 9 Tryz.func122 rfl Tryz.ntmps122 rfl rfl ?_
 have hs1 := St.init w
 refine WC.sr (WL.bx hs1 rfl (fun b2 _ hs3 => WL.bx hs3 rfl (fun b4 _ hs5 => WL.r 1 hs5 [] rfl (WL.nil (WC.sr (WL.r 2 hs5 [1] rfl (WL.val rfl rfl rfl (Run.makeFunc rfl rfl) ?_)))))))
 refine WL.cl Tryz.call44 rfl (k59_ _ _ _ _ _ _ _ (SlN.st0 okWinR.st0 f_s.Wins hs5) (SlF.own1 (hs5.own _ (nthL_mem (i := 0) rfl)).1) ?_) ?_
 · first | assumption | rfl | omega
 rintro _ whs6 ⟨rfl, hs6⟩
 replace hs6 := hs5.call0 hs6
 refine ⟨_, rfl, WL.r 1 hs6 [] rfl (WL.nil (WC.ret (rtv rfl rfl hs6 ?_)))⟩
 rw [show s.dat.Wins = s.Wins.xs.map WinR.dat from rfl, findI_map]; rfl
theorem k61_ (s : StateR) (p : Int) (w : World) (f_s : okStateR 549755813888 w s) :
    Calls Tryz.prog 119 #[.agg #[i64 s.W, i64 s.H, i64 s.Limit, i64 s.Next, .slice s.Panes.A s.Panes.n s.Panes.c, .slice s.Wins.A s.Wins.n s.Wins.c, .slice s.Sess.A s.Sess.n s.Sess.c], i64 p] w fun e w' => e = .returned (.int .i64 (findI (fun q : WinD => decide (q.Id = p)) s.dat.Wins)) ∧ St w [] [] w' := by
 have nb_s_Panes := f_s.Panes_n
 have nl_s_Panes := f_s.Panes.sl.len
 have nb_s_Wins := f_s.Wins_n
 have nl_s_Wins := f_s.Wins.sl.len
 have nb_s_Sess := f_s.Sess_n
 have nl_s_Sess := f_s.Sess.sl.len
 refine enter 21 Tryz.func119 rfl Tryz.ntmps119 rfl rfl ?_
 have hs1 := St.init w
 refine WC.sr (WL.bx hs1 rfl (fun b2 _ hs3 => WL.r 1 hs3 [] rfl (WL.nil (WC.seq (fun K4 hK4 => WC.r1 hs3 [0] rfl (WC.block ?_))))))
 refine WC.lS [1, 8, 9] rfl hs3 (fun k_ f w' => ∃ (i : Nat), k_ = s.Wins.n - i ∧ (i ≤ s.Wins.n) ∧ (∀ j, j < i → (fun q : WinR => decide (q.Id = p)) (gat encWinR s.Wins.xs j) = false) ∧ Sub [(10, .int .i64 i)] f) ((fun (i : Nat) => s.Wins.n - i) (0)) ?_ ?_
 ·refine ⟨0, rfl, ?_, ?_, ⟨rfl, trivial⟩⟩
  · exact Nat.zero_le _
  · exact fun j hj => absurd hj (by omega)
 clear hs3
 rintro _ f w ⟨i, rfl, p0, p1, hG⟩ hF hs5
 refine WC.sub _ (hG.app hF) ?_
 clear hG hF
 refine WC.r1 hs5 [] rfl (WC.seq (fun K6 hK6 => ?_))
 refine WC.cq rfl (fun h7 qh7 => ?_) (fun h7 qh7 => ?_)
 ·refine WC.skip (hK6 _ _ (WC.seq (fun K8 hK8 => WC.block (WC.sr (WL.r 1 hs5 [] rfl ?_)))))
  refine WL.val rfl rfl rfl (Run.idxN Tryz.runUnderlying30 Tryz.sizeOf58 rfl rfl rfl ?_ ?_ ?_) ?_
  · exact SlF.some_ (SlF.st0 f_s.Wins.sl hs5)
  · omega
  · omega
  refine WL.val rfl rfl rfl (Run.loadA Tryz.isAgg58 Tryz.sizeOf58 rfl rfl (SlF.whole (SlF.st0 f_s.Wins.sl hs5) ?_)) ?_
  · omega
  refine WL.al hs5 Tryz.zeroValue58 rfl rfl (fun b9 _ hs10 => WL.r 1 hs10 [] rfl (WL.st tbk hs10 0 rfl rfl (fun _ hs11 => WL.nil (WC.r1 hs11 [0] rfl ?_))))
  refine WC.cq rfl (fun h12 qh12 => ?_) (fun h12 qh12 => ?_)
  ·refine WC.r1 hs11 [] rfl (WC.ret (ibR (tkR (tkR (ibR (tkR ?_))))))
   clear hK8 hK4
   refine rtv rfl rfl hs11 ?_
   rw [show s.dat.Wins = s.Wins.xs.map WinR.dat from rfl, findI_map]; exact congrArg (Value.int _) (findI_some (F := encWinR) (p := (fun q : WinR => decide (q.Id = p))) (xs := s.Wins.xs) (by omega) p1 h12).symm
  refine WC.skip (hK8 _ _ (WC.region (WL.r 2 hs11 [] rfl (WL.nil (tkN ?_)))))
  refine ⟨sbF rfl, (hs11.drop (by repeat (first | exact List.Sublist.refl _ | exact List.sublist_append_left _ _ | exact List.Sublist.trans (List.sublist_append_left _ _) (List.sublist_append_left _ _) | apply List.Sublist.cons | refine List.Sublist.trans ?_ (sR _)))), _, ?_, i + 1, rfl, ?_, ?_, ⟨rfl, trivial⟩⟩
  · omega
  · omega
  · intro j hj; rcases Nat.lt_or_ge j i with h_ | h_
    · exact p1 j h_
    · obtain rfl : j = i := by omega
      exact h12
 refine WC.exit (hK4 _ _ (WC.r1 hs5 [] rfl (WC.ret (rtv rfl rfl hs5 ?_))))
 rw [show s.dat.Wins = s.Wins.xs.map WinR.dat from rfl, findI_map]; exact congrArg (Value.int _) (findI_none (F := encWinR) (p := (fun q : WinR => decide (q.Id = p))) (xs := s.Wins.xs) (fun j hj => p1 j (by omega))).symm
theorem k62_ (q : SessR) (b_p : Nat) (p : ByteArray) (w : World) (f_q : okSessR 549755813888 w q) (f_p : SlF encS w (some ⟨b_p, 0, none⟩) 1 [p]) :
    Calls Tryz.prog 181 #[.agg #[.string q.Name, .slice q.Wins.A q.Wins.n q.Wins.c, i64 q.Active], .pointer (some ⟨b_p, 0, none⟩)] w fun e w' => e = .returned (.bool (decide (q.Name = p))) ∧ St w [] [] w' := by
 have nz_q_Name := f_q.Name_z
 have nb_q_Wins := f_q.Wins_n
 have nl_q_Wins := f_q.Wins.len
 refine enter 8 Tryz.func181 rfl Tryz.ntmps181 rfl rfl ?_
 have hs1 := St.init w
 refine WC.sr (WL.bx hs1 rfl (fun b2 _ hs3 => WL.r 1 hs3 [] rfl (WL.nil (WC.sr (WL.r 2 hs3 [0] rfl (WL.val rfl rfl rfl (Run.load Tryz.isAgg9 rfl rfl (SlF.var (SlF.st0 f_p hs3) rfl)) (WL.r 2 hs3 [] rfl ?_)))))))
 refine WL.nil (WC.ret (rtv rfl rfl hs3 ?_))
 rfl
theorem k63_ (A_s : Option Addr) (n_s c_s : Nat) (s : List SessR) (b_p : Nat) (p : ByteArray) (w : World) (f_s : SlN encSessR (okSessR 549755813888) w A_s n_s s) (f_p : SlF encS w (some ⟨b_p, 0, none⟩) 1 [p]) (hn : n_s ≤ 549755813888) :
    Calls Tryz.prog 180 #[.slice A_s n_s c_s, .func (.func 181) #[] #[.pointer (some ⟨b_p, 0, none⟩)]] w fun e w' => e = .returned (.int .i64 (findI (fun q => decide (q.Name = p)) s)) ∧ St w [] [] w' := by
 refine enter 19 Tryz.func180 rfl Tryz.ntmps180 rfl rfl ?_
 have hs1 := St.init w
 refine WC.r1 hs1 [] rfl (WC.seq (fun K2 hK2 => WC.r1 hs1 [] rfl (WC.block ?_)))
 refine WC.lS [0, 1, 7] rfl hs1 (fun k_ f w' => ∃ (i : Nat), k_ = n_s - i ∧ (i ≤ n_s) ∧ (∀ j, j < i → (fun q => decide (q.Name = p)) (gat encSessR s j) = false) ∧ Sub [(8, .int .i64 i)] f) ((fun (i : Nat) => n_s - i) (0)) ?_ ?_
 ·refine ⟨0, rfl, ?_, ?_, ⟨rfl, trivial⟩⟩
  · exact Nat.zero_le _
  · exact fun j hj => absurd hj (by omega)
 clear hs1
 rintro _ f w ⟨i, rfl, p0, p1, hG⟩ hF hs3
 refine WC.sub _ (hG.app hF) ?_
 clear hG hF
 refine WC.r1 hs3 [] rfl (WC.seq (fun K4 hK4 => ?_))
 refine WC.cond rfl (fun h5 => ?_) (fun h5 => ?_)
 ·have qh5 := h5
  try simp only [decide_eq_true_eq, decide_eq_false_iff_not] at qh5
  refine WC.skip (hK4 _ _ (WC.seq (fun K6 hK6 => WC.block (WC.r1 hs3 [] rfl (WC.sr (WL.r 3 hs3 [] rfl ?_))))))
  refine WL.val rfl rfl rfl (Run.idxN Tryz.runUnderlying31 Tryz.sizeOf106 rfl rfl rfl ?_ ?_ ?_) ?_
  · exact SlF.some_ (SlF.st0 f_s.sl hs3)
  · omega
  · omega
  refine WL.val rfl rfl rfl (Run.loadA Tryz.isAgg106 Tryz.sizeOf106 rfl rfl (SlF.whole (SlF.st0 f_s.sl hs3) ?_)) ?_
  · omega
  refine WL.call rfl rfl rfl (Run.callC Tryz.call181 rfl rfl rfl) (k62_ (gat encSessR s i) _ _ _ (okSessR.st0 (SlN.nth f_s (by omega)) hs3) (SlF.st0 f_p hs3)) ?_
  rintro _ whs7 ⟨rfl, hs7⟩
  replace hs7 := hs3.call0 hs7
  refine ⟨_, rfl, WL.nil (WC.cond rfl (fun h8 => ?_) (fun h8 => ?_))⟩
  ·have qh8 := h8
   try simp only [decide_eq_true_eq, decide_eq_false_iff_not] at qh8
   refine WC.r1 hs7 [] rfl (WC.ret (ibR (tkR (tkR (ibR (tkR ?_))))))
   clear hK6 hK2
   refine rtv rfl rfl hs7 ?_
   rw [findI_some (F := encSessR) (by rw [f_s.len]; omega) p1 h8]
  have qh8 := h8
  try simp only [decide_eq_true_eq, decide_eq_false_iff_not] at qh8
  refine WC.skip (hK6 _ _ (WC.region (WL.r 2 hs7 [] rfl (WL.nil (tkN ?_)))))
  refine ⟨sbF rfl, hs7, _, ?_, i + 1, rfl, ?_, ?_, ⟨rfl, trivial⟩⟩
  · omega
  · omega
  · intro j hj; rcases Nat.lt_or_ge j i with h_ | h_
    · exact p1 j h_
    · obtain rfl : j = i := by omega
      exact h8
 have qh5 := h5
 try simp only [decide_eq_true_eq, decide_eq_false_iff_not] at qh5
 refine WC.exit (hK2 _ _ (WC.r1 hs3 [] rfl (WC.ret (rtv rfl rfl hs3 ?_))))
 rw [findI_none (F := encSessR) (fun j hj => p1 j (by rw [f_s.len] at hj; omega))]
theorem k64_ (s : StateR) (p : ByteArray) (w : World) (f_s : okStateR 549755813888 w s) :
    Calls Tryz.prog 125 #[.agg #[i64 s.W, i64 s.H, i64 s.Limit, i64 s.Next, .slice s.Panes.A s.Panes.n s.Panes.c, .slice s.Wins.A s.Wins.n s.Wins.c, .slice s.Sess.A s.Sess.n s.Sess.c], .string p] w fun e w' => e = .returned (.int .i64 (findI (fun q : SessD => decide (q.Name = p)) s.dat.Sess)) ∧ St w [] [] w' := by
 have nb_s_Panes := f_s.Panes_n
 have nl_s_Panes := f_s.Panes.sl.len
 have nb_s_Wins := f_s.Wins_n
 have nl_s_Wins := f_s.Wins.sl.len
 have nb_s_Sess := f_s.Sess_n
 have nl_s_Sess := f_s.Sess.sl.len
 refine enter 9 Tryz.func125 rfl Tryz.ntmps125 rfl rfl ?_
 have hs1 := St.init w
 refine WC.sr (WL.bx hs1 rfl (fun b2 _ hs3 => WL.bx hs3 rfl (fun b4 _ hs5 => WL.r 1 hs5 [] rfl (WL.nil (WC.sr (WL.r 2 hs5 [1] rfl (WL.val rfl rfl rfl (Run.makeFunc rfl rfl) ?_)))))))
 refine WL.cl Tryz.call180 rfl (k63_ _ _ _ _ _ _ _ (SlN.st0 okSessR.st0 f_s.Sess hs5) (SlF.own1 (hs5.own _ (nthL_mem (i := 0) rfl)).1) ?_) ?_
 · first | assumption | rfl | omega
 rintro _ whs6 ⟨rfl, hs6⟩
 replace hs6 := hs5.call0 hs6
 refine ⟨_, rfl, WL.r 1 hs6 [] rfl (WL.nil (WC.ret (rtv rfl rfl hs6 ?_)))⟩
 rw [show s.dat.Sess = s.Sess.xs.map SessR.dat from rfl, findI_map]; rfl
theorem k65_ (s : StateR) (p : ByteArray) (w : World) (f_s : okStateR 549755813888 w s) :
    Calls Tryz.prog 118 #[.agg #[i64 s.W, i64 s.H, i64 s.Limit, i64 s.Next, .slice s.Panes.A s.Panes.n s.Panes.c, .slice s.Wins.A s.Wins.n s.Wins.c, .slice s.Sess.A s.Sess.n s.Sess.c], .string p] w fun e w' => e = .returned (.int .i64 (findI (fun q : SessD => decide (q.Name = p)) s.dat.Sess)) ∧ St w [] [] w' := by
 have nb_s_Panes := f_s.Panes_n
 have nl_s_Panes := f_s.Panes.sl.len
 have nb_s_Wins := f_s.Wins_n
 have nl_s_Wins := f_s.Wins.sl.len
 have nb_s_Sess := f_s.Sess_n
 have nl_s_Sess := f_s.Sess.sl.len
 refine enter 21 Tryz.func118 rfl Tryz.ntmps118 rfl rfl ?_
 have hs1 := St.init w
 refine WC.sr (WL.bx hs1 rfl (fun b2 _ hs3 => WL.r 1 hs3 [] rfl (WL.nil (WC.seq (fun K4 hK4 => WC.r1 hs3 [0] rfl (WC.block ?_))))))
 refine WC.lS [1, 8, 9] rfl hs3 (fun k_ f w' => ∃ (i : Nat), k_ = s.Sess.n - i ∧ (i ≤ s.Sess.n) ∧ (∀ j, j < i → (fun q : SessR => decide (q.Name = p)) (gat encSessR s.Sess.xs j) = false) ∧ Sub [(10, .int .i64 i)] f) ((fun (i : Nat) => s.Sess.n - i) (0)) ?_ ?_
 ·refine ⟨0, rfl, ?_, ?_, ⟨rfl, trivial⟩⟩
  · exact Nat.zero_le _
  · exact fun j hj => absurd hj (by omega)
 clear hs3
 rintro _ f w ⟨i, rfl, p0, p1, hG⟩ hF hs5
 refine WC.sub _ (hG.app hF) ?_
 clear hG hF
 refine WC.r1 hs5 [] rfl (WC.seq (fun K6 hK6 => ?_))
 refine WC.cq rfl (fun h7 qh7 => ?_) (fun h7 qh7 => ?_)
 ·refine WC.skip (hK6 _ _ (WC.seq (fun K8 hK8 => WC.block (WC.sr (WL.r 1 hs5 [] rfl ?_)))))
  refine WL.val rfl rfl rfl (Run.idxN Tryz.runUnderlying31 Tryz.sizeOf106 rfl rfl rfl ?_ ?_ ?_) ?_
  · exact SlF.some_ (SlF.st0 f_s.Sess.sl hs5)
  · omega
  · omega
  refine WL.val rfl rfl rfl (Run.loadA Tryz.isAgg106 Tryz.sizeOf106 rfl rfl (SlF.whole (SlF.st0 f_s.Sess.sl hs5) ?_)) ?_
  · omega
  refine WL.al hs5 Tryz.zeroValue106 rfl rfl (fun b9 _ hs10 => WL.r 1 hs10 [] rfl (WL.st tbk hs10 0 rfl rfl (fun _ hs11 => WL.nil (WC.r1 hs11 [0] rfl ?_))))
  refine WC.cq rfl (fun h12 qh12 => ?_) (fun h12 qh12 => ?_)
  ·refine WC.r1 hs11 [] rfl (WC.ret (ibR (tkR (tkR (ibR (tkR ?_))))))
   clear hK8 hK4
   refine rtv rfl rfl hs11 ?_
   rw [show s.dat.Sess = s.Sess.xs.map SessR.dat from rfl, findI_map]; exact congrArg (Value.int _) (findI_some (F := encSessR) (p := (fun q : SessR => decide (q.Name = p))) (xs := s.Sess.xs) (by omega) p1 h12).symm
  refine WC.skip (hK8 _ _ (WC.region (WL.r 2 hs11 [] rfl (WL.nil (tkN ?_)))))
  refine ⟨sbF rfl, (hs11.drop (by repeat (first | exact List.Sublist.refl _ | exact List.sublist_append_left _ _ | exact List.Sublist.trans (List.sublist_append_left _ _) (List.sublist_append_left _ _) | apply List.Sublist.cons | refine List.Sublist.trans ?_ (sR _)))), _, ?_, i + 1, rfl, ?_, ?_, ⟨rfl, trivial⟩⟩
  · omega
  · omega
  · intro j hj; rcases Nat.lt_or_ge j i with h_ | h_
    · exact p1 j h_
    · obtain rfl : j = i := by omega
      exact h12
 refine WC.exit (hK4 _ _ (WC.r1 hs5 [] rfl (WC.ret (rtv rfl rfl hs5 ?_))))
 rw [show s.dat.Sess = s.Sess.xs.map SessR.dat from rfl, findI_map]; exact congrArg (Value.int _) (findI_none (F := encSessR) (p := (fun q : SessR => decide (q.Name = p))) (xs := s.Sess.xs) (fun j hj => p1 j (by omega))).symm
theorem k66_ (n : Int) (w : World) :
    Calls Tryz.prog 221 #[i64 n] w fun e w' => e = .returned (.bool (shows n)) ∧ St w [] [] w' := by
 refine enter 25 Tryz.func221 rfl Tryz.ntmps221 rfl rfl ?_
 have hs1 := St.init w
 refine WC.r1 hs1 [] rfl (WC.sr (WL.r 3 hs1 [] rfl (WL.pA tbk 2 Acts.nil hs1 [] rfl rfl rfl rfl (fun g_ => trivial) (WL.r 1 hs1 [] rfl ?_))))
 apply WL.gO 14 Acts.nil hs1 rfl
 ·intro g2 J3
  have qg2 := g2
  try simp only [bf, within_iff, within_not] at qg2
  refine WL.runA tbk 3 (Acts.nil.cons (j := 6) rfl g2) hs1 [] rfl trivial (WL.pA tbk 2 (Acts.nil.cons (j := 6) rfl g2) hs1 [] rfl rfl rfl rfl (fun g_ => trivial) (WL.runA tbk 1 (Acts.nil.cons (j := 6) rfl g2) hs1 [] rfl trivial ?_))
  apply WL.gA 6 (Acts.nil.cons (j := 6) rfl g2) hs1 rfl
  ·intro g4 J5
   have qg4 := g4
   try simp only [bf, within_iff, within_not] at qg4
   refine WL.runA tbk 3 (Acts.nil.cons (j := 13) rfl g4) hs1 [] rfl trivial (WL.pO tbk 2 (Acts.nil.cons (j := 13) rfl g4) hs1 [] rfl rfl rfl rfl (fun g_ => trivial) (WL.eA 4 (Acts.nil.cons (j := 6) rfl g2) J5 hs1 g4 rfl rfl))
  intro _ hs6
  exact WL.eO 6 Acts.nil J3 hs6 g2 rfl rfl
 intro _ hs7
 refine WL.r 1 hs7 [] rfl (WL.nil (WC.ret (rtv rfl rfl hs7 ?_)))
 refine congrArg Value.bool ?_; rw [Bool.eq_iff_iff]; simp [shows, within] <;> omega
theorem k67_ (a_Fg : Int) (a_Bg : Int) (a_Bold : Bool) (a_Under : Bool) (a_Turn : Bool) (w : World) :
    Calls Tryz.prog 233 #[.agg #[i64 a_Fg, i64 a_Bg, .bool a_Bold, .bool a_Under, .bool a_Turn]] w fun e w' => e = .returned (.bool (attrOk a_Fg a_Bg)) ∧ St w [] [] w' := by
 refine enter 11 Tryz.func233 rfl Tryz.ntmps233 rfl rfl ?_
 have hs1 := St.init w
 refine WC.sr (WL.bx hs1 rfl (fun b2 _ hs3 => WL.r 1 hs3 [] rfl (WL.nil (WC.sr (WL.r 2 hs3 [0] rfl (WL.cl Tryz.call58 rfl (k0_ _ _ _ _) ?_))))))
 rintro _ whs4 ⟨rfl, hs4⟩
 replace hs4 := hs3.call0 hs4
 refine ⟨_, rfl, WL.r 1 hs4 [] rfl ?_⟩
 apply WL.gA 3 Acts.nil hs4 rfl
 ·intro g5 J6
  have qg5 := g5
  try simp only [bf, within_iff, within_not] at qg5
  refine WL.runA tbk 2 (Acts.nil.cons (j := 3) rfl g5) hs4 [0] rfl ⟨rfl, trivial⟩ (WL.call (wantT rfl g5) rfl rfl (Run.call Tryz.call58 rfl rfl rfl) (k0_ _ _ _ _) ?_)
  rintro _ whs7 ⟨rfl, hs7⟩
  replace hs7 := hs4.call0 hs7
  refine ⟨_, rfl, WL.eA 3 Acts.nil J6 hs7 g5 rfl rfl⟩
 intro _ hs8
 refine WL.r 1 hs8 [] rfl (WL.nil (WC.ret (rtv rfl rfl hs8 ?_)))
 rfl
theorem k68_ (a_Fg : Int) (a_Bg : Int) (a_Bold : Bool) (a_Under : Bool) (a_Turn : Bool) (w : World) :
    Calls Tryz.prog 184 #[.agg #[i64 a_Fg, i64 a_Bg, .bool a_Bold, .bool a_Under, .bool a_Turn]] w fun e w' => e = .returned (.bool (attrOk a_Fg a_Bg)) ∧ St w [] [] w' := by
 refine enter 21 Tryz.func184 rfl Tryz.ntmps184 rfl rfl ?_
 have hs1 := St.init w
 refine WC.sr (WL.bx hs1 rfl (fun b2 _ hs3 => WL.r 1 hs3 [] rfl (WL.nil (WC.sr (WL.r 4 hs3 [0] rfl (WL.pA tbk 3 Acts.nil hs3 [0] rfl rfl rfl rfl (fun g_ => ⟨rfl, trivial⟩) (WL.r 1 hs3 [] rfl ?_)))))))
 refine WL.pA tbk 3 Acts.nil hs3 [0] rfl rfl rfl rfl (fun g_ => ⟨rfl, trivial⟩) (WL.r 1 hs3 [] rfl (WL.pA tbk 3 Acts.nil hs3 [0] rfl rfl rfl rfl (fun g_ => ⟨rfl, trivial⟩) (WL.r 1 hs3 [] rfl (WL.nil (WC.ret (rtv rfl rfl hs3 ?_))))))
 simp [attrOk, within, Bool.and_assoc]
theorem k69_ (c_R : Int) (c_A_Fg : Int) (c_A_Bg : Int) (c_A_Bold : Bool) (c_A_Under : Bool) (c_A_Turn : Bool) (w : World) :
    Calls Tryz.prog 294 #[.agg #[i64 c_R, i64 c_A_Fg, i64 c_A_Bg, .bool c_A_Bold, .bool c_A_Under, .bool c_A_Turn]] w fun e w' => e = .returned (.bool (cellOk ⟨c_R, ⟨c_A_Fg, c_A_Bg, c_A_Bold, c_A_Under, c_A_Turn⟩⟩)) ∧ St w [] [] w' := by
 refine enter 11 Tryz.func294 rfl Tryz.ntmps294 rfl rfl ?_
 have hs1 := St.init w
 refine WC.sr (WL.bx hs1 rfl (fun b2 _ hs3 => WL.r 1 hs3 [] rfl (WL.nil (WC.sr (WL.r 2 hs3 [0] rfl (WL.cl Tryz.call268 rfl (k3_ _ _) ?_))))))
 rintro _ whs4 ⟨rfl, hs4⟩
 replace hs4 := hs3.call0 hs4
 refine ⟨_, rfl, WL.r 1 hs4 [] rfl ?_⟩
 apply WL.gA 3 Acts.nil hs4 rfl
 ·intro g5 J6
  have qg5 := g5
  try simp only [bf, within_iff, within_not] at qg5
  refine WL.runA tbk 2 (Acts.nil.cons (j := 3) rfl g5) hs4 [0] rfl ⟨rfl, trivial⟩ (WL.call (wantT rfl g5) rfl rfl (Run.call Tryz.call233 rfl rfl rfl) (k67_ _ _ _ _ _ _) ?_)
  rintro _ whs7 ⟨rfl, hs7⟩
  replace hs7 := hs4.call0 hs7
  refine ⟨_, rfl, WL.eA 3 Acts.nil J6 hs7 g5 rfl rfl⟩
 intro _ hs8
 refine WL.r 1 hs8 [] rfl (WL.nil (WC.ret (rtv rfl rfl hs8 ?_)))
 rfl
theorem k70_ (c_R : Int) (c_A_Fg : Int) (c_A_Bg : Int) (c_A_Bold : Bool) (c_A_Under : Bool) (c_A_Turn : Bool) (w : World) :
    Calls Tryz.prog 185 #[.agg #[i64 c_R, i64 c_A_Fg, i64 c_A_Bg, .bool c_A_Bold, .bool c_A_Under, .bool c_A_Turn]] w fun e w' => e = .returned (.bool (cellOk ⟨c_R, ⟨c_A_Fg, c_A_Bg, c_A_Bold, c_A_Under, c_A_Turn⟩⟩)) ∧ St w [] [] w' := by
 refine enter 11 Tryz.func185 rfl Tryz.ntmps185 rfl rfl ?_
 have hs1 := St.init w
 refine WC.sr (WL.bx hs1 rfl (fun b2 _ hs3 => WL.r 1 hs3 [] rfl (WL.nil (WC.sr (WL.r 2 hs3 [0] rfl (WL.cl Tryz.call221 rfl (k66_ _ _) ?_))))))
 rintro _ whs4 ⟨rfl, hs4⟩
 replace hs4 := hs3.call0 hs4
 refine ⟨_, rfl, WL.r 1 hs4 [] rfl ?_⟩
 apply WL.gA 3 Acts.nil hs4 rfl
 ·intro g5 J6
  have qg5 := g5
  try simp only [bf, within_iff, within_not] at qg5
  refine WL.runA tbk 2 (Acts.nil.cons (j := 3) rfl g5) hs4 [0] rfl ⟨rfl, trivial⟩ (WL.call (wantT rfl g5) rfl rfl (Run.call Tryz.call184 rfl rfl rfl) (k68_ _ _ _ _ _ _) ?_)
  rintro _ whs7 ⟨rfl, hs7⟩
  replace hs7 := hs4.call0 hs7
  refine ⟨_, rfl, WL.eA 3 Acts.nil J6 hs7 g5 rfl rfl⟩
 intro _ hs8
 refine WL.r 1 hs8 [] rfl (WL.nil (WC.ret (rtv rfl rfl hs8 ?_)))
 rfl
theorem k71_ (c_R : Int) (c_A_Fg : Int) (c_A_Bg : Int) (c_A_Bold : Bool) (c_A_Under : Bool) (c_A_Turn : Bool) (w : World) :
    Calls Tryz.prog 293 #[.agg #[i64 c_R, i64 c_A_Fg, i64 c_A_Bg, .bool c_A_Bold, .bool c_A_Under, .bool c_A_Turn]] w fun e w' => e = .returned (.bool (!cellOk ⟨c_R, ⟨c_A_Fg, c_A_Bg, c_A_Bold, c_A_Under, c_A_Turn⟩⟩)) ∧ St w [] [] w' := by
 refine enter 6 Tryz.func293 rfl Tryz.ntmps293 rfl rfl ?_
 have hs1 := St.init w
 refine WC.sr (WL.bx hs1 rfl (fun b2 _ hs3 => WL.r 1 hs3 [] rfl (WL.nil (WC.sr (WL.r 1 hs3 [0] rfl (WL.cl Tryz.call294 rfl (k69_ _ _ _ _ _ _ _) ?_))))))
 rintro _ whs4 ⟨rfl, hs4⟩
 replace hs4 := hs3.call0 hs4
 refine ⟨_, rfl, WL.r 2 hs4 [] rfl (WL.nil (WC.ret (rtv rfl rfl hs4 ?_)))⟩
 rfl
theorem k72_ (A_s : Option Addr) (n_s c_s : Nat) (s : List CellD) (w : World) (f_s : SlF encCell w A_s n_s s) (hn : n_s ≤ 1099511627776) :
    Calls Tryz.prog 302 #[.slice A_s n_s c_s, .func (.func 293) #[] #[]] w fun e w' => e = .returned (.int .i64 (findI (fun c => !cellOk c) s)) ∧ St w [] [] w' := by
 refine enter 19 Tryz.func302 rfl Tryz.ntmps302 rfl rfl ?_
 have hs1 := St.init w
 refine WC.r1 hs1 [] rfl (WC.seq (fun K2 hK2 => WC.r1 hs1 [] rfl (WC.block ?_)))
 refine WC.lS [0, 1, 7] rfl hs1 (fun k_ f w' => ∃ (i : Nat), k_ = n_s - i ∧ (i ≤ n_s) ∧ (∀ j, j < i → (fun c => !cellOk c) (gat encCell s j) = false) ∧ Sub [(8, .int .i64 i)] f) ((fun (i : Nat) => n_s - i) (0)) ?_ ?_
 ·refine ⟨0, rfl, ?_, ?_, ⟨rfl, trivial⟩⟩
  · exact Nat.zero_le _
  · exact fun j hj => absurd hj (by omega)
 clear hs1
 rintro _ f w ⟨i, rfl, p0, p1, hG⟩ hF hs3
 refine WC.sub _ (hG.app hF) ?_
 clear hG hF
 refine WC.r1 hs3 [] rfl (WC.seq (fun K4 hK4 => ?_))
 refine WC.cond rfl (fun h5 => ?_) (fun h5 => ?_)
 ·have qh5 := h5
  try simp only [decide_eq_true_eq, decide_eq_false_iff_not] at qh5
  refine WC.skip (hK4 _ _ (WC.seq (fun K6 hK6 => WC.block (WC.r1 hs3 [] rfl (WC.sr (WL.r 3 hs3 [] rfl ?_))))))
  refine WL.val rfl rfl rfl (Run.idxN Tryz.runUnderlying74 Tryz.sizeOf164 rfl rfl rfl ?_ ?_ ?_) ?_
  · exact SlF.some_ (SlF.st0 f_s hs3)
  · omega
  · omega
  refine WL.val rfl rfl rfl (Run.loadA Tryz.isAgg164 Tryz.sizeOf164 rfl rfl (SlF.whole (SlF.st0 f_s hs3) ?_)) ?_
  · omega
  refine WL.cl Tryz.call293 rfl (k71_ _ _ _ _ _ _ _) ?_
  rintro _ whs7 ⟨rfl, hs7⟩
  replace hs7 := hs3.call0 hs7
  refine ⟨_, rfl, WL.nil (WC.cond rfl (fun h8 => ?_) (fun h8 => ?_))⟩
  ·have qh8 := h8
   try simp only [decide_eq_true_eq, decide_eq_false_iff_not] at qh8
   refine WC.r1 hs7 [] rfl (WC.ret (ibR (tkR (tkR (ibR (tkR ?_))))))
   clear hK6 hK2
   refine rtv rfl rfl hs7 ?_
   rw [findI_some (F := encCell) (by rw [f_s.len]; omega) p1 h8]
  have qh8 := h8
  try simp only [decide_eq_true_eq, decide_eq_false_iff_not] at qh8
  refine WC.skip (hK6 _ _ (WC.region (WL.r 2 hs7 [] rfl (WL.nil (tkN ?_)))))
  refine ⟨sbF rfl, hs7, _, ?_, i + 1, rfl, ?_, ?_, ⟨rfl, trivial⟩⟩
  · omega
  · omega
  · intro j hj; rcases Nat.lt_or_ge j i with h_ | h_
    · exact p1 j h_
    · obtain rfl : j = i := by omega
      exact h8
 have qh5 := h5
 try simp only [decide_eq_true_eq, decide_eq_false_iff_not] at qh5
 refine WC.exit (hK2 _ _ (WC.r1 hs3 [] rfl (WC.ret (rtv rfl rfl hs3 ?_))))
 rw [findI_none (F := encCell) (fun j hj => p1 j (by rw [f_s.len] at hj; omega))]
theorem k73_ (A_s : Option Addr) (n_s c_s : Nat) (s : List CellD) (w : World) (f_s : SlF encCell w A_s n_s s) (hn : n_s ≤ 1099511627776) :
    Calls Tryz.prog 292 #[.slice A_s n_s c_s, .func (.func 293) #[] #[]] w fun e w' => e = .returned (.bool (decide (0 ≤ findI (fun c => !cellOk c) s))) ∧ St w [] [] w' := by
 refine enter 9 Tryz.func292 rfl Tryz.ntmps292 rfl rfl ?_
 have hs1 := St.init w
 refine WC.r1 hs1 [] rfl (WC.sr (WL.r 2 hs1 [] rfl (WL.cl Tryz.call302 rfl (k72_ _ _ _ _ _ (SlF.st0 f_s hs1) ?_) ?_)))
 · first | assumption | rfl | omega
 rintro _ whs2 ⟨rfl, hs2⟩
 replace hs2 := hs1.call0 hs2
 refine ⟨_, rfl, WL.r 2 hs2 [] rfl (WL.nil (WC.ret (rtv rfl rfl hs2 ?_)))⟩
 rfl
theorem k74_ (A_l : Option Addr) (n_l c_l : Nat) (l : List CellD) (w : World) (f_l : SlF encCell w A_l n_l l) (hn : n_l ≤ 1099511627776) :
    Calls Tryz.prog 271 #[.slice A_l n_l c_l] w fun e w' => e = .returned (.bool (cellsOk l)) ∧ St w [] [] w' := by
 refine enter 6 Tryz.func271 rfl Tryz.ntmps271 rfl rfl ?_
 have hs1 := St.init w
 refine WC.r1 hs1 [] rfl (WC.sr (WL.r 1 hs1 [] rfl (WL.cl Tryz.call292 rfl (k73_ _ _ _ _ _ (SlF.st0 f_l hs1) ?_) ?_)))
 · first | assumption | rfl | omega
 rintro _ whs2 ⟨rfl, hs2⟩
 replace hs2 := hs1.call0 hs2
 refine ⟨_, rfl, WL.r 2 hs2 [] rfl (WL.nil (WC.ret (rtv rfl rfl hs2 ?_)))⟩
 rw [cellsOk_find]
theorem k75_ (A_b : Option Addr) (n_b c_b : Nat) (b : List UInt8) (w : World) (f_b : SlF encB w A_b n_b b) (hn : n_b ≤ 2) :
    Calls Tryz.prog 267 #[.slice A_b n_b c_b] w fun e w' => e = .returned (.tuple #[.int .i64 (tlV b : Nat), .bool (tlOk b)]) ∧ St w [] [] w' := by
 have hbl := f_b.len
 refine enter 24 Tryz.func267 rfl Tryz.ntmps267 rfl rfl ?_
 have hs1 := St.init w
 refine WC.r1 hs1 [] rfl (WC.r1 hs1 [] rfl (WC.seq (fun K2 hK2 => WC.r1 hs1 [] rfl (WC.block ?_))))
 refine WC.lS [7, 8] rfl hs1 (fun k_ f w' => ∃ (i : Nat), k_ = n_b - i ∧ (i ≤ n_b) ∧ (tlOk (b.take i) = true) ∧ Sub [(9, .int .i64 i), (4, .int .i64 (tlN (b.take i) : Nat))] f) ((fun (i : Nat) => n_b - i) (0)) ?_ ?_
 ·refine ⟨0, rfl, ?_, ?_, ⟨rfl, ?_, trivial⟩⟩
  · exact Nat.zero_le _
  · rfl
  · rfl
 clear hs1
 rintro _ f w ⟨i, rfl, p0, p1, hG⟩ hF hs3
 refine WC.sub _ (hG.app hF) ?_
 clear hG hF
 have hb_ := tlN_bnd (l := b.take i) (by rw [List.length_take]; omega)
 simp only [List.length_take] at hb_
 refine WC.r1 hs3 [] rfl (WC.seq (fun K4 hK4 => ?_))
 refine WC.cD rfl (fun qh5 => ?_) (fun qh5 => ?_)
 ·refine WC.skip (hK4 _ _ (WC.seq (fun K6 hK6 => WC.block (WC.sr ?_))))
  refine WL.val rfl rfl rfl (Run.idxN Tryz.runUnderlying44 Tryz.sizeOf5 rfl rfl rfl ?_ ?_ ?_) ?_
  · exact SlF.some_ (SlF.st0 f_b hs3)
  · omega
  · omega
  refine WL.val rfl rfl rfl (Run.load Tryz.isAgg5 rfl rfl (SlF.one1 (SlF.st0 f_b hs3) ?_ rfl)) ?_
  · omega
  refine WL.r 1 hs3 [] rfl (WL.nil (WC.seq (fun K7 hK7 => WC.sr (WL.r 1 hs3 [] rfl ?_))))
  refine WL.val rfl rfl rfl (Run.quoB 64 rfl rfl rfl ?_ ?_) ?_
  · decide
  · decide
  refine WL.r 1 hs3 [] rfl (WL.nil (WC.cN rfl (fun qh8 => ?_) (fun qh8 => ?_)))
  ·refine WC.r1 hs3 [] rfl (WC.ret (tkR (ibR (tkR (tkR (ibR (tkR ?_)))))))
   clear hK7 hK6 hK2
   refine retV2 rfl (resV.tmp rfl) (resV.tmp rfl) (⟨congrArg Ending.returned ?_, hs3.nil⟩)
   simp only [u8_div] at qh8
   have hbad := tlOk_bad (l := b) (i := i) (by omega) (by omega)
   rw [hbad, show tlV b = 0 from if_neg (by rw [hbad]; decide)]; rfl
  refine WC.skip (hK7 _ _ (WC.region (WL.r 3 hs3 [] rfl ?_)))
  refine WL.val rfl rfl rfl (Run.remB 64 rfl rfl rfl ?_ ?_) ?_
  · decide
  · decide
  refine WL.run tbk 3 hs3 [] rfl ⟨?_, (u8_in _), trivial⟩ ?_
  · rw [u8_mod]; constructor <;> omega
  refine WL.nil (hK6 _ _ (WC.region (WL.r 2 hs3 [] rfl (WL.nil (tkN ?_)))))
  refine ⟨sbF rfl, hs3, _, ?_, i + 1, rfl, ?_, ?_, ⟨rfl, ?_, trivial⟩⟩
  · omega
  · omega
  · simp only [u8_div] at qh8; rw [tlOk_take (by omega), p1, Bool.true_and, decide_eq_true_eq]; omega
  · refine congrArg some (congrArg (Value.int _) ?_); rw [tlN_take (by omega), u8_mod]; omega
 refine WC.exit (hK2 _ _ (WC.r1 hs3 [] rfl (WC.ret (retV2 rfl (resV.tmp rfl) (resV.tmp rfl) (⟨congrArg Ending.returned ?_, hs3.nil⟩)))))
 have ht : b.take i = b := List.take_of_length_le (by omega)
 rw [ht] at p1
 rw [p1, ht, show tlV b = tlN b from if_pos p1]
theorem k76_ (r : Int) (w : World) :
    Calls Tryz.prog 290 #[i64 r] w fun e w' => ∃ A c L1, e = .returned (.slice A (runeB r).length c) ∧ St w [] L1 w' ∧ OwnF encB 5 (.slice A (runeB r).length c) (runeB r) L1 := by
 refine enter 36 Tryz.func290 rfl Tryz.ntmps290 rfl rfl ?_
 have hs1 := St.init w
 refine WC.r1 hs1 [] rfl (WC.seq (fun K2 hK2 => WC.sr (WL.r 1 hs1 [] rfl (WL.cl Tryz.call221 rfl (k66_ _ _) ?_))))
 rintro _ whs3 ⟨rfl, hs3⟩
 replace hs3 := hs1.call0 hs3
 refine ⟨_, rfl, WL.r 1 hs3 [] rfl (WL.nil (WC.cq rfl (fun h4 qh4 => ?_) (fun h4 qh4 => ?_)))⟩
 ·have hsh : shows r = false := by simpa using qh4
  refine WC.r1 hs3 [] rfl (WC.ret (tkR ?_))
  clear hK2
  refine retV1 rfl (resV.tmp rfl) ?_
  have hx_ := OwnF.eqOf (xs := runeB r) (OwnF.nil encB 5) (by simp [runeB, hsh])
  rw [← hx_]
  exact ⟨_, _, _, rfl, hs3.nil, (OwnF.nil encB 5)⟩
 have hsh : shows r = true := by simpa using qh4
 have hsi := shows_iff.1 hsh
 refine WC.skip (hK2 _ _ (WC.seq (fun K5 hK5 => WC.r1 hs3 [] rfl ?_)))
 refine WC.cD rfl (fun qh6 => ?_) (fun qh6 => ?_)
 ·refine WC.sr (WL.r 2 hs3 [] rfl (WL.buildF (F := encB) hs3 ([ub r]) Tryz.runUnderlying44 Tryz.sizeOf5 Tryz.zeroValue5 rfl rfl rfl rfl rfl rfl rfl rfl rfl rfl rfl rfl (fun A10 c11 L7 whs8 hs8 ho9 => WL.r 1 hs8 [] rfl (WL.nil (WC.ret (tkR ?_))))))
  clear hK5
  refine retV1 rfl (resV.tmp rfl) ?_
  have hx_ := OwnF.eqOf (xs := runeB r) ho9 (by unfold runeB; rw [hsh, if_neg (by decide), if_pos (by omega)])
  rw [← hx_]
  first | exact ⟨_, _, _, rfl, (St.keep1 hs8), ho9⟩ | exact ⟨A10, c11, _, by rw [OwnF.len_ ho9], (St.keep1 hs8), by rw [OwnF.len_ ho9]; exact ho9⟩
 refine WC.skip (hK5 _ _ (WC.seq (fun K12 hK12 => WC.r1 hs3 [] rfl ?_)))
 refine WC.cD rfl (fun qh13 => ?_) (fun qh13 => ?_)
 ·refine WC.sr (WL.r 1 hs3 [] rfl (WL.val rfl rfl rfl (Run.quo rfl rfl rfl ?_ ?_ ?_) ?_))
  · omega
  · omega
  · omega
  refine WL.r 3 hs3 [] rfl (WL.val rfl rfl rfl (Run.rem rfl rfl rfl ?_ ?_) ?_)
  · omega
  · omega
  refine WL.r 2 hs3 [] rfl (WL.buildF (F := encB) hs3 ([ub (192 + r / 64), ub (128 + r % 64)]) Tryz.runUnderlying44 Tryz.sizeOf5 Tryz.zeroValue5 rfl rfl rfl rfl rfl rfl rfl rfl rfl rfl rfl rfl (fun A17 c18 L14 whs15 hs15 ho16 => WL.r 1 hs15 [] rfl (WL.nil (WC.ret (tkR ?_)))))
  clear hK12
  refine retV1 rfl (resV.tmp rfl) ?_
  have hx_ := OwnF.eqOf (xs := runeB r) ho16 (by unfold runeB; rw [hsh, if_neg (by decide), if_neg (by omega), if_pos (by omega)])
  rw [← hx_]
  first | exact ⟨_, _, _, rfl, (St.keep1 hs15), ho16⟩ | exact ⟨A17, c18, _, by rw [OwnF.len_ ho16], (St.keep1 hs15), by rw [OwnF.len_ ho16]; exact ho16⟩
 refine WC.skip (hK12 _ _ (WC.sr (WL.r 1 hs3 [] rfl ?_)))
 refine WL.val rfl rfl rfl (Run.quo rfl rfl rfl ?_ ?_ ?_) ?_
 · omega
 · omega
 · omega
 refine WL.r 3 hs3 [] rfl (WL.val rfl rfl rfl (Run.quo rfl rfl rfl ?_ ?_ ?_) ?_)
 · omega
 · omega
 · omega
 refine WL.val rfl rfl rfl (Run.rem rfl rfl rfl ?_ ?_) ?_
 · omega
 · omega
 refine WL.r 3 hs3 [] rfl (WL.val rfl rfl rfl (Run.rem rfl rfl rfl ?_ ?_) ?_)
 · omega
 · omega
 refine WL.r 2 hs3 [] rfl (WL.buildF (F := encB) hs3 ([ub (224 + r / 4096), ub (128 + r / 64 % 64), ub (128 + r % 64)]) Tryz.runUnderlying44 Tryz.sizeOf5 Tryz.zeroValue5 rfl rfl rfl rfl rfl rfl rfl rfl rfl rfl rfl rfl (fun A22 c23 L19 whs20 hs20 ho21 => WL.r 1 hs20 [] rfl (WL.nil (WC.ret (retV1 rfl (resV.tmp rfl) ?_)))))
 have hx_ := OwnF.eqOf (xs := runeB r) ho21 (by unfold runeB; rw [hsh, if_neg (by decide), if_neg (by omega), if_neg (by omega)])
 rw [← hx_]
 first | exact ⟨_, _, _, rfl, (St.keep1 hs20), ho21⟩ | exact ⟨A22, c23, _, by rw [OwnF.len_ ho21], (St.keep1 hs20), by rw [OwnF.len_ ho21]; exact ho21⟩
theorem k77_ (A_b : Option Addr) (n_b c_b : Nat) (b : List UInt8) (w : World) (f_b : SlF encB w A_b n_b b) (hc : n_b ≤ c_b) (hn : n_b ≤ 549755813888) :
    Calls Tryz.prog 266 #[.slice A_b n_b c_b, i64 0] w fun e w' => e = .returned (.tuple #[.int .i64 (rvN (runeL b)), .int .i64 (rvS (runeL b) : Nat)]) ∧ St w [] [] w' := by
 have hbl := f_b.len
 have hb0 := (gat encB b 0).toNat_lt
 have hb0' : (gat encB b (Int.toNat 0)).toNat < 2 ^ 8 := hb0
 refine enter 76 Tryz.func266 rfl Tryz.ntmps266 rfl rfl ?_
 have hs1 := St.init w
 refine WC.r1 hs1 [] rfl (WC.seq (fun K2 hK2 => WC.sr (WL.r 3 hs1 [] rfl (WL.pO tbk 4 Acts.nil hs1 [] rfl rfl rfl rfl (fun g_ => trivial) (WL.nil ?_)))))
 refine WC.cq rfl (fun h3 qh3 => ?_) (fun h3 qh3 => ?_)
 ·refine WC.r1 hs1 [] rfl (WC.ret (tkR ?_))
  clear hK2
  refine retV2 rfl (resV.tmp rfl) (resV.tmp rfl) (⟨congrArg Ending.returned ?_, hs1.nil⟩)
  have h0 : b = [] := List.eq_nil_of_length_eq_zero (by simp at qh3; omega)
  subst h0
  rw [runeL_nil]; rfl
 refine WC.skip (hK2 _ _ (WC.seq (fun K4 hK4 => WC.r1 hs1 [] rfl (WC.block ?_))))
 refine WC.lS [0, 1, 17] rfl hs1 (fun k_ f w' => ∃ (s : Nat), k_ = 4 - s ∧ (1 ≤ s) ∧ (s ≤ 4) ∧ (∀ t, 1 ≤ t → t < s → rtry b t = false) ∧ Sub [(6, .int .i64 s)] f) ((fun (s : Nat) => 4 - s) (1)) ?_ ?_
 ·refine ⟨1, rfl, ?_, ?_, ?_, ⟨rfl, trivial⟩⟩
  · omega
  · omega
  · intro t h1 h2; omega
 clear hs1
 rintro _ f w ⟨s, rfl, p0, p1, p2, hG⟩ hF hs5
 refine WC.sub _ (hG.app hF) ?_
 clear hG hF
 have ht4 := t4_bnd s
 refine WC.seq (fun K6 hK6 => WC.sr (WL.r 3 hs5 [] rfl ?_))
 refine WL.pA tbk 6 Acts.nil hs5 [] rfl rfl rfl rfl (fun g_ => by (try simp only [bf, within_iff, within_not] at g_); exact ⟨by omega, trivial⟩) (WL.nil (WC.cq rfl (fun h7 qh7 => ?_) (fun h7 qh7 => ?_)))
 ·refine WC.skip (hK6 _ _ (WC.seq (fun K8 hK8 => WC.block (WC.seq (fun K9 hK9 => WC.rH hs5 hs5 (fun _ hs10 => ?_))))))
  refine WH.rn [0, 1] hs10 [] rfl rfl ?_
  refine WH.take 2 rfl (by kernel_rfl) rfl rfl rfl hs10 (fun w_ hs_ => (Run.idx Tryz.runUnderlying44 Tryz.sizeOf5 rfl rfl rfl ?_ ?_ ?_)) ?_
  · exact SlF.some_ (SlF.st0 f_b (hs_ : St _ _ _ _))
  · first | omega | (simp; omega)
  · first | omega | (simp; omega)
  refine WH.take 3 rfl (by kernel_rfl) rfl rfl rfl hs10 (fun w_ hs_ => (Run.load Tryz.isAgg5 rfl rfl (SlF.one1 (SlF.st0 f_b (hs_ : St _ _ _ _)) ?_ rfl))) ?_
  · first | omega | (simp; omega)
  refine WH.rn [4, 6] hs10 [] rfl rfl (WH.o1 5 rfl (WL.buildF (F := encI) hs10 ([0, 0, 192, 224]) Tryz.runUnderlying60 Tryz.sizeOf3 Tryz.zeroValue3 rfl rfl rfl rfl rfl rfl rfl rfl rfl rfl rfl rfl (fun A14 c15 L11 whs12 hs12 ho13 => WL.nil ⟨(hs12.rm L11), ?_⟩)))
  refine WH.strS hs12 (fun w_ h_ => (h_.rm L11)) ?_
  refine WH.take 7 rfl (by kernel_rfl) rfl rfl rfl hs12 (fun w_ hs_ => (Run.idxN Tryz.runUnderlying60 Tryz.sizeOf3 rfl rfl rfl ?_ ?_ ?_)) ?_
  · exact SlF.some_ (SlF.ofOwn ho13 ((hs_ : St _ _ _ _).ow L11))
  · first | omega | (simp; omega)
  · first | omega | (simp; omega)
  refine WH.take 8 rfl (by kernel_rfl) rfl rfl rfl hs12 (fun w_ hs_ => (Run.load Tryz.isAgg3 rfl rfl (SlF.one1 (SlF.ofOwn ho13 ((hs_ : St _ _ _ _).ow L11)) ?_ rfl))) ?_
  · first | omega | (simp; omega)
  refine WH.rn [9, 10] hs12 [] rfl rfl (WH.dn (hK9 _ _ (WC.seq (fun K16 hK16 => WC.r1 hs12 [] rfl (WC.block ?_)))))
  refine WC.lS [0, 1, 6, 17, 18, 19, 20, 27, 30, 31, 32, 33, 34, 35, 36, 37, 38, 39] rfl hs12 (fun k_ f w' => ∃ (i : Nat), k_ = s - i ∧ (1 ≤ i) ∧ (i ≤ s) ∧ Sub [(8, .int .i64 i), (7, .int .i64 (candI b s (i - 1)))] f) ((fun (i : Nat) => s - i) (1)) ?_ ?_
  ·refine ⟨1, rfl, ?_, ?_, ⟨rfl, ?_, trivial⟩⟩
   · omega
   · omega
   · rfl
  clear hs12
  rintro _ f w ⟨i, rfl, p0, p1, hG⟩ hF hs17
  refine WC.sub _ (hG.app hF) ?_
  clear hG hF
  have hcb := candI_bnd (l := b) (s := s) (i := i - 1) (by omega)
  have hbi := (gat encB b i).toNat_lt
  have hbz : (gat encB b ((0 : Int) + (i : Int)).toNat).toNat < 2 ^ 8 := (gat encB b _).toNat_lt
  refine WC.seq (fun K18 hK18 => WC.r1 hs17 [] rfl ?_)
  refine WC.cD rfl (fun qh19 => ?_) (fun qh19 => ?_)
  ·refine WC.skip (hK18 _ _ (WC.seq (fun K20 hK20 => WC.block (WC.region (WL.r 6 hs17 [] rfl ?_)))))
   refine WL.val rfl rfl rfl (Run.idx Tryz.runUnderlying44 Tryz.sizeOf5 rfl rfl rfl ?_ ?_ ?_) ?_
   · exact SlF.some_ (SlF.st0 f_b hs17)
   · first | omega | (simp; omega)
   · first | omega | (simp; omega)
   refine WL.val rfl rfl rfl (Run.load Tryz.isAgg5 rfl rfl (SlF.one1 (SlF.st0 f_b hs17) ?_ rfl)) ?_
   · first | omega | (simp; omega)
   refine WL.r 4 hs17 [] rfl (WL.nil (hK20 _ _ (WC.region (WL.r 3 hs17 [] rfl (WL.nil (tkN ?_))))))
   refine ⟨sbF rfl, hs17, _, ?_, i + 1, rfl, ?_, ?_, ⟨rfl, ?_, trivial⟩⟩
   · omega
   · omega
   · omega
   · refine congrArg some (congrArg (Value.int _) ?_); have h9 := candI_next (l := b) (s := s) (i := i) (by omega); rw [h9]; simp
  refine WC.exit (hK16 _ _ (WC.sr (WL.r 1 hs17 [] rfl (WL.cl Tryz.call290 rfl (k76_ _ _) ?_))))
  rintro _ whs21 ⟨A22, c23, L1_24, rfl, hs21, ho25⟩
  replace hs21 := hs17.callF hs21
  refine ⟨_, rfl, WL.r 1 hs21 [] rfl (WL.nil (WC.sq1 hs21 (WQ.r 5 [] rfl ?_)))⟩
  apply WQ.gA 10 Acts.nil rfl
  ·intro g26 J27
   have qg26 := g26
   try simp only [bf, within_iff, within_not] at qg26
   refine WQ.runA tbk 1 (Acts.nil.cons (j := 4) rfl g26) [] rfl trivial ?_
   refine WQ.val (wantT rfl g26) rfl rfl (fun w_ hs_ => (Run.strOf (SlF.ofOwn ho25 ((hs_ : St _ _ _ _).ow L1_24)) Tryz.underlying44 Tryz.underlying5 Tryz.underlying9 rfl rfl)) ?_
   refine WQ.runA tbk 5 (Acts.nil.cons (j := 4) rfl g26) [] rfl ⟨by omega, trivial⟩ ?_
   refine WQ.val (wantT rfl g26) rfl rfl (fun w_ hs_ => (Run.sliceLH (0) (s) Tryz.runUnderlying44 Tryz.sizeOf5 rfl rfl rfl rfl ?_ ?_ ?_)) ?_
   · first | rfl | (omega)
   · first | rfl | (omega)
   · refine ⟨?_, ?_, ?_⟩ <;> (omega)
   refine WQ.val (wantT rfl g26) rfl rfl (fun w_ hs_ => (Run.strOf (SlF.cutC (lo := 0) (hi := s) (SlF.st0 f_b (hs_ : St _ _ _ _)) (by refine ⟨?_, ?_, ?_⟩ <;> (omega))) Tryz.underlying44 Tryz.underlying5 Tryz.underlying9 rfl rfl)) ?_
   refine WQ.runA tbk 1 (Acts.nil.cons (j := 4) rfl g26) [] rfl trivial (WQ.eA 10 Acts.nil J27 g26 rfl rfl)
  refine WQ.nil (fun _ (hs28 : St _ _ _ _) => ?_)
  refine WC.cq rfl (fun h29 qh29 => ?_) (fun h29 qh29 => ?_)
  ·refine WC.r1 hs28 [] rfl (WC.ret (ibR (tkR (tkR (ibR (tkR ?_))))))
   clear hK8 hK4
   refine retV2 rfl (resV.tmp rfl) (resV.tmp rfl) (⟨congrArg Ending.returned ?_, hs28.nil⟩)
   obtain rfl : i = s := by omega
   have hok : rtry b i = true := by rw [← rtry_iff (by omega), ← candI_cand (by omega) (by omega) (by omega)]; simpa [Int.ofNat_inj] using qh29
   rw [runeL_at hok p0 (by omega) p2, ← candI_cand (by omega) (by omega) (by omega)]; rfl
  refine WC.skip (hK8 _ _ (WC.region (WL.r 3 hs28 [] rfl (WL.nil (tkN ?_)))))
  refine ⟨sbF rfl, (hs28.drop (by repeat (first | exact List.Sublist.refl _ | exact List.sublist_append_left _ _ | exact List.Sublist.trans (List.sublist_append_left _ _) (List.sublist_append_left _ _) | apply List.Sublist.cons | refine List.Sublist.trans ?_ (sR _)))), _, ?_, s + 1, rfl, ?_, ?_, ?_, ⟨rfl, trivial⟩⟩
  · omega
  · omega
  · omega
  · intro t h1 h2; rcases Nat.lt_or_ge t s with h3 | h3
    · exact p2 t h1 h3
    obtain rfl : t = s := by omega
    obtain rfl : i = t := by omega
    rw [← rtry_iff (by omega), ← candI_cand (by omega) (by omega) (by omega)]; simpa [Int.ofNat_inj] using qh29
 refine WC.exit (hK4 _ _ (WC.r1 hs5 [] rfl (WC.ret (retV2 rfl (resV.tmp rfl) (resV.tmp rfl) (⟨congrArg Ending.returned ?_, hs5.nil⟩)))))
 have hno : runeL b = none := runeL_none (fun t h1 h3 => by
     rcases Nat.lt_or_ge t s with h4 | h4
     · exact p2 t h1 h4
     · exact rtry_len (by simp at qh7; omega))
 rw [hno]; rfl
theorem k78_ (A_b : Option Addr) (n_b c_b : Nat) (b : List UInt8) (w : World) (f_b : SlF encB w A_b n_b b) (hc : n_b ≤ c_b) (hn : n_b ≤ 549755813888) :
    Calls Tryz.prog 229 #[.slice A_b n_b c_b] w fun e w' => e = .returned (.bool (runeBeg b)) ∧ St w [] [] w' := by
 have hbl := f_b.len
 have hb0 : (gat encB b (Int.toNat 0)).toNat < 2 ^ 8 := (gat encB b 0).toNat_lt
 refine enter 47 Tryz.func229 rfl Tryz.ntmps229 rfl rfl ?_
 have hs1 := St.init w
 refine WC.r1 hs1 [] rfl (WC.seq (fun K2 hK2 => WC.r1 hs1 [] rfl (WC.block (WC.r1 hs1 [] rfl ?_))))
 refine WC.cD rfl (fun qh3 => ?_) (fun qh3 => ?_)
 ·refine WC.sr (WL.r 1 hs1 [] rfl (WL.val rfl rfl rfl (Run.idx Tryz.runUnderlying44 Tryz.sizeOf5 rfl rfl rfl ?_ ?_ ?_) ?_))
  · exact SlF.some_ (SlF.st0 f_b hs1)
  · omega
  · omega
  refine WL.val rfl rfl rfl (Run.load Tryz.isAgg5 rfl rfl (SlF.one1 (SlF.st0 f_b hs1) ?_ rfl)) ?_
  · omega
  refine WL.r 1 hs1 [] rfl (WL.cl Tryz.call58 rfl (k0_ _ _ _ _) ?_)
  rintro _ whs4 ⟨rfl, hs4⟩
  replace hs4 := hs1.call0 hs4
  refine ⟨_, rfl, WL.r 1 hs4 [] rfl (WL.nil (WC.ret (ibR (tkR ?_))))⟩
  clear hK2
  refine rtv rfl rfl hs4 ?_
  obtain ⟨x, rfl⟩ : ∃ x, b = [x] := List.length_eq_one_iff.1 (by omega)
  rfl
 refine WC.r1 hs1 [] rfl (WC.cD rfl (fun qh5 => ?_) (fun qh5 => ?_))
 ·have htl := tlV_bnd (l := b.drop 1) (by rw [List.length_drop]; omega)
  refine WC.sr (WL.r 1 hs1 [] rfl (WL.val rfl rfl rfl (Run.sliceL (1) Tryz.runUnderlying44 Tryz.sizeOf5 rfl rfl rfl ?_ ?_) ?_))
  · first | rfl | (omega)
  · refine ⟨?_, ?_, ?_⟩ <;> (omega)
  refine WL.cl Tryz.call267 rfl (k75_ _ _ _ _ _ (SlF.cutL (1) (SlF.st0 f_b hs1) (by refine ⟨?_, ?_, ?_⟩ <;> (omega))) ?_) ?_
  · first | assumption | rfl | omega
  rintro _ whs6 ⟨rfl, hs6⟩
  replace hs6 := hs1.call0 hs6
  refine ⟨_, rfl, WL.r 5 hs6 [] rfl (WL.nil (WC.sr (WL.r 1 hs6 [] rfl (WL.val rfl rfl rfl (Run.idx Tryz.runUnderlying44 Tryz.sizeOf5 rfl rfl rfl ?_ ?_ ?_) ?_))))⟩
  · exact SlF.some_ (SlF.st0 f_b hs6)
  · omega
  · omega
  refine WL.val rfl rfl rfl (Run.load Tryz.isAgg5 rfl rfl (SlF.one1 (SlF.st0 f_b hs6) ?_ rfl)) ?_
  · omega
  refine WL.r 7 hs6 [] rfl (WL.nil (WC.sr (WL.r 2 hs6 [] rfl ?_)))
  apply WL.gA 4 Acts.nil hs6 rfl
  ·intro g7 J8
   have qg7 := g7
   try simp only [bf, within_iff, within_not] at qg7
   refine WL.runA tbk 1 (Acts.nil.cons (j := 1) rfl g7) hs6 [] rfl trivial (WL.val (wantT rfl g7) rfl rfl (Run.idx Tryz.runUnderlying44 Tryz.sizeOf5 rfl rfl rfl ?_ ?_ ?_) ?_)
   · exact SlF.some_ (SlF.st0 f_b hs6)
   · omega
   · omega
   refine WL.val (wantT rfl g7) rfl rfl (Run.load Tryz.isAgg5 rfl rfl (SlF.one1 (SlF.st0 f_b hs6) ?_ rfl)) ?_
   · omega
   refine WL.runA tbk 1 (Acts.nil.cons (j := 1) rfl g7) hs6 [] rfl trivial (WL.eA 4 Acts.nil J8 hs6 g7 rfl rfl)
  intro _ hs9
  refine WL.r 1 hs9 [] rfl (WL.pA tbk 2 Acts.nil hs9 [] rfl rfl rfl rfl (fun g_ => trivial) (WL.r 1 hs9 [] rfl ?_))
  apply WL.gA 2 Acts.nil hs9 rfl
  ·intro g10 J11
   have qg10 := g10
   try simp only [bf, within_iff, within_not] at qg10
   refine WL.runA tbk 1 (Acts.nil.cons (j := 11) rfl g10) hs9 [] rfl trivial (WL.call (wantT rfl g10) rfl rfl (Run.call Tryz.call268 rfl rfl rfl) (k3_ _ _) ?_)
   rintro _ whs12 ⟨rfl, hs12⟩
   replace hs12 := hs9.call0 hs12
   refine ⟨_, rfl, WL.eA 2 Acts.nil J11 hs12 g10 rfl rfl⟩
  intro _ hs13
  refine WL.r 1 hs13 [] rfl (WL.nil (WC.ret (ibR (tkR ?_))))
  clear hK2
  refine retV1 rfl (resV.tmp rfl) (⟨congrArg Ending.returned (congrArg Value.bool (beg_two (by omega))), hs13.nil⟩)
 refine WC.skip (hK2 _ _ (WC.r1 hs1 [] rfl (WC.ret (rtv rfl rfl hs1 ?_))))
 have h9 : ¬ (b.length = 1 ∨ b.length = 2) := by omega
 rw [beg_len h9]
theorem k79_ (A_b : Option Addr) (n_b c_b : Nat) (b : List UInt8) (w : World) (f_b : SlF encB w A_b n_b b) (hc : n_b ≤ c_b) (hn : n_b ≤ 549755813888) :
    Calls Tryz.prog 218 #[.slice A_b n_b c_b] w fun e w' => e = .returned (.bool (runeBeg b)) ∧ St w [] [] w' := by
 have hbl := f_b.len
 refine enter 53 Tryz.func218 rfl Tryz.ntmps218 rfl rfl ?_
 have hs1 := St.init w
 refine WC.r1 hs1 [] rfl (WC.seq (fun K2 hK2 => WC.sr (WL.r 4 hs1 [] rfl (WL.pO tbk 3 Acts.nil hs1 [] rfl rfl rfl rfl (fun g_ => trivial) (WL.nil ?_)))))
 refine WC.cq rfl (fun h3 qh3 => ?_) (fun h3 qh3 => ?_)
 ·refine WC.r1 hs1 [] rfl (WC.ret (tkR ?_))
  clear hK2
  refine rtv rfl rfl hs1 ?_
  have h9 : ¬ (b.length = 1 ∨ b.length = 2) := by simp at qh3; omega
  rw [beg_len h9]
 have hl : b.length = 1 ∨ b.length = 2 := by simp at qh3; omega
 refine WC.skip (hK2 _ _ (WC.seq (fun K4 hK4 => WC.r1 hs1 [] rfl (WC.block ?_))))
 refine WC.lS [0, 17] rfl hs1 (fun k_ f w' => ∃ (x : Nat), k_ = 192 - x ∧ (128 ≤ x) ∧ (x ≤ 192) ∧ (∀ y : Nat, 128 ≤ y → y < x → begHit b (ub y) = false) ∧ Sub [(3, .int .i64 x)] f) ((fun (x : Nat) => 192 - x) (128)) ?_ ?_
 ·refine ⟨128, rfl, ?_, ?_, ?_, ⟨rfl, trivial⟩⟩
  · omega
  · omega
  · intro y h1 h2; omega
 clear hs1
 rintro _ f w ⟨x, rfl, p0, p1, p2, hG⟩ hF hs5
 refine WC.sub _ (hG.app hF) ?_
 clear hG hF
 refine WC.seq (fun K6 hK6 => WC.r1 hs5 [] rfl ?_)
 refine WC.cD rfl (fun qh7 => ?_) (fun qh7 => ?_)
 ·refine WC.skip (hK6 _ _ (WC.seq (fun K8 hK8 => WC.block (WC.sr (WL.buildF (F := encB) hs5 ([]) Tryz.runUnderlying44 Tryz.sizeOf5 Tryz.zeroValue5 rfl rfl rfl rfl rfl rfl rfl rfl rfl rfl rfl rfl (fun A12 c13 L9 whs10 hs10 ho11 => WL.r 1 hs10 [] rfl ?_))))))
  refine WL.appendG hs10 ho11 (SlF.src (SlF.st0 f_b hs10) Tryz.underlying44) Tryz.underlying44 inf5 rfl rfl rfl rfl rfl rfl rfl rfl rfl rfl ?_ (fun A17 c18 L14 whs15 hs15 ho16 => ?_)
  · simp; omega
  refine WL.r 2 hs15 [] rfl (WL.buildSlice hs15 Tryz.runUnderlying44 Tryz.sizeOf5 Tryz.zeroValue5 rfl rfl rfl rfl rfl rfl rfl rfl rfl rfl (fun b19 whs20 hs20 => ?_))
  refine WL.appendG (hs20.fr L14) ho16 (srcB1 Tryz.underlying44 (hs20.own _ (nthL_mem (i := 0) rfl)).1) Tryz.underlying44 inf5 rfl rfl rfl rfl rfl rfl rfl rfl rfl rfl ?_ (fun A24 c25 L21 whs22 hs22 ho23 => ?_)
  · simp; omega
  replace hs22 := St.back [_] hs22
  refine WL.r 1 hs22 [] rfl (WL.nil (WC.sr (WL.r 1 hs22 [] rfl (WL.cl Tryz.call266 rfl (k77_ _ _ _ _ _ (SlF.ofOwn ho23 (hs22.ow L21)) (OwnF.cap ho23) ?_) ?_))))
  · first | assumption | rfl | omega | (simp; omega)
  rintro _ whs26 ⟨rfl, hs26⟩
  replace hs26 := hs22.call0 hs26
  refine ⟨_, rfl, WL.r 5 hs26 [] rfl (WL.nil (WC.seq (fun K27 hK27 => WC.r1 hs26 [] rfl ?_)))⟩
  refine WC.cD rfl (fun qh28 => ?_) (fun qh28 => ?_)
  ·refine WC.r1 hs26 [] rfl (WC.ret (tkR (ibR (tkR (tkR (ibR (tkR ?_)))))))
   clear hK27 hK8 hK4
   refine rtv rfl rfl hs26 ?_
   rw [beg_yes hl p0 (by omega) (by unfold begHit; rw [decide_eq_true (by simpa [← Int.ofNat_inj] using qh28)]; rfl)]
  have e1 : ¬ rvS (runeL (b ++ [ub x])) = b.length + 1 := by simpa [← Int.ofNat_inj] using qh28
  refine WC.skip (hK27 _ _ (WC.r1 hs26 [] rfl ?_))
  refine WC.cD rfl (fun qh29 => ?_) (fun qh29 => ?_)
  ·refine WC.sr (WL.buildF (F := encB) hs26 ([]) Tryz.runUnderlying44 Tryz.sizeOf5 Tryz.zeroValue5 rfl rfl rfl rfl rfl rfl rfl rfl rfl rfl rfl rfl (fun A33 c34 L30 whs31 hs31 ho32 => ?_))
   replace hs31 := St.back [_] hs31
   refine WL.r 1 hs31 [] rfl (WL.appendG (hs31.fr L30) ho32 (SlF.src (SlF.ofOwn ho23 (hs31.ow L21)) Tryz.underlying44) Tryz.underlying44 inf5 rfl rfl rfl rfl rfl rfl rfl rfl rfl rfl ?_ (fun A38 c39 L35 whs36 hs36 ho37 => ?_))
   · simp; omega
   replace hs36 := St.back [_] hs36
   refine WL.buildSlice hs36 Tryz.runUnderlying44 Tryz.sizeOf5 Tryz.zeroValue5 rfl rfl rfl rfl rfl rfl rfl rfl rfl rfl (fun b40 whs41 hs41 => ?_)
   refine WL.appendG (hs41.fr L35) ho37 (srcF (F := encB) (ys := [129]) Tryz.underlying44 rfl rfl (hs41.own _ (nthL_mem (i := 0) rfl)).1) Tryz.underlying44 inf5 rfl rfl rfl rfl rfl rfl rfl rfl rfl rfl ?_ (fun A45 c46 L42 whs43 hs43 ho44 => ?_)
   · simp; omega
   replace hs43 := St.back [_, _] hs43
   refine WL.r 1 hs43 [] rfl (WL.nil (WC.sr (WL.r 1 hs43 [] rfl (WL.cl Tryz.call266 rfl (k77_ _ _ _ _ _ (SlF.ofOwn ho44 (hs43.ow L42)) (OwnF.cap ho44) ?_) ?_))))
   · first | assumption | rfl | omega | (simp; omega)
   rintro _ whs47 ⟨rfl, hs47⟩
   replace hs47 := hs43.call0 hs47
   refine ⟨_, rfl, WL.r 5 hs47 [] rfl (WL.nil (WC.r1 hs47 [] rfl (WC.cD rfl (fun qh48 => ?_) (fun qh48 => ?_))))⟩
   ·refine WC.r1 hs47 [] rfl (WC.ret (ibR (tkR (tkR (ibR (tkR ?_))))))
    clear hK8 hK4
    refine rtv rfl rfl hs47 ?_
    rw [beg_yes hl p0 (by omega) (by unfold begHit; rw [decide_eq_true (show b.length = 1 by omega), decide_eq_true (show rvS (runeL (b ++ [ub x, 129])) = 3 by simp at qh48; omega)]; simp)]
   have e2 : b.length = 1 → ¬ rvS (runeL (b ++ [ub x, 129])) = 3 := fun _ => by simp at qh48; omega
   refine WC.skip (hK8 _ _ (WC.region (WL.r 3 hs47 [] rfl (WL.nil (tkN ?_)))))
   refine ⟨sbF rfl, (hs47.drop (by repeat (first | exact List.Sublist.refl _ | exact List.sublist_append_left _ _ | exact List.Sublist.trans (List.sublist_append_left _ _) (List.sublist_append_left _ _) | apply List.Sublist.cons | refine List.Sublist.trans ?_ (sR _)))), _, ?_, x + 1, rfl, ?_, ?_, ?_, ⟨rfl, trivial⟩⟩
   · omega
   · omega
   · omega
   · intro y h1 h2; rcases Nat.lt_or_ge y x with h3 | h3
     · exact p2 y h1 h3
     obtain rfl : y = x := by omega
     unfold begHit; rw [decide_eq_false e1]; simp only [Bool.false_or, Bool.and_eq_false_iff, decide_eq_false_iff_not]; by_cases h9 : b.length = 1
     · exact .inr (e2 h9)
     · exact .inl h9
  have e2 : b.length = 1 → ¬ rvS (runeL (b ++ [ub x, 129])) = 3 := fun h_ => absurd h_ (by omega)
  refine WC.skip (hK8 _ _ (WC.region (WL.r 3 hs26 [] rfl (WL.nil (tkN ?_)))))
  refine ⟨sbF rfl, (hs26.drop (by repeat (first | exact List.Sublist.refl _ | exact List.sublist_append_left _ _ | exact List.Sublist.trans (List.sublist_append_left _ _) (List.sublist_append_left _ _) | apply List.Sublist.cons | refine List.Sublist.trans ?_ (sR _)))), _, ?_, x + 1, rfl, ?_, ?_, ?_, ⟨rfl, trivial⟩⟩
  · omega
  · omega
  · omega
  · intro y h1 h2; rcases Nat.lt_or_ge y x with h3 | h3
    · exact p2 y h1 h3
    obtain rfl : y = x := by omega
    unfold begHit; rw [decide_eq_false e1]; simp only [Bool.false_or, Bool.and_eq_false_iff, decide_eq_false_iff_not]; by_cases h9 : b.length = 1
    · exact .inr (e2 h9)
    · exact .inl h9
 refine WC.exit (hK4 _ _ (WC.r1 hs5 [] rfl (WC.ret (rtv rfl rfl hs5 ?_))))
 rw [beg_no hl (fun y h1 h2 => p2 y h1 (by omega))]
theorem k80_ (n : Int) (w : World) :
    Calls Tryz.prog 270 #[i64 n] w fun e w' => e = .returned (.bool (!within n 0 9999)) ∧ St w [] [] w' := by
 refine enter 6 Tryz.func270 rfl Tryz.ntmps270 rfl rfl ?_
 have hs1 := St.init w
 refine WC.r1 hs1 [] rfl (WC.sr (WL.r 1 hs1 [] rfl (WL.cl Tryz.call58 rfl (k0_ _ _ _ _) ?_)))
 rintro _ whs2 ⟨rfl, hs2⟩
 replace hs2 := hs1.call0 hs2
 refine ⟨_, rfl, WL.r 2 hs2 [] rfl (WL.nil (WC.ret (rtv rfl rfl hs2 ?_)))⟩
 rfl
theorem k81_ (A_s : Option Addr) (n_s c_s : Nat) (s : List Int) (w : World) (f_s : SlF encI w A_s n_s s) (hn : n_s ≤ 1099511627776) :
    Calls Tryz.prog 291 #[.slice A_s n_s c_s, .func (.func 270) #[] #[]] w fun e w' => e = .returned (.int .i64 (findI (fun n => !within n 0 9999) s)) ∧ St w [] [] w' := by
 refine enter 19 Tryz.func291 rfl Tryz.ntmps291 rfl rfl ?_
 have hs1 := St.init w
 refine WC.r1 hs1 [] rfl (WC.seq (fun K2 hK2 => WC.r1 hs1 [] rfl (WC.block ?_)))
 refine WC.lS [0, 1, 7] rfl hs1 (fun k_ f w' => ∃ (i : Nat), k_ = n_s - i ∧ (i ≤ n_s) ∧ (∀ j, j < i → (fun n => !within n 0 9999) (gat encI s j) = false) ∧ Sub [(8, .int .i64 i)] f) ((fun (i : Nat) => n_s - i) (0)) ?_ ?_
 ·refine ⟨0, rfl, ?_, ?_, ⟨rfl, trivial⟩⟩
  · exact Nat.zero_le _
  · exact fun j hj => absurd hj (by omega)
 clear hs1
 rintro _ f w ⟨i, rfl, p0, p1, hG⟩ hF hs3
 refine WC.sub _ (hG.app hF) ?_
 clear hG hF
 refine WC.r1 hs3 [] rfl (WC.seq (fun K4 hK4 => ?_))
 refine WC.cond rfl (fun h5 => ?_) (fun h5 => ?_)
 ·have qh5 := h5
  try simp only [decide_eq_true_eq, decide_eq_false_iff_not] at qh5
  refine WC.skip (hK4 _ _ (WC.seq (fun K6 hK6 => WC.block (WC.r1 hs3 [] rfl (WC.sr (WL.r 3 hs3 [] rfl ?_))))))
  refine WL.val rfl rfl rfl (Run.idxN Tryz.runUnderlying60 Tryz.sizeOf3 rfl rfl rfl ?_ ?_ ?_) ?_
  · exact SlF.some_ (SlF.st0 f_s hs3)
  · omega
  · omega
  refine WL.val rfl rfl rfl (Run.load Tryz.isAgg3 rfl rfl (SlF.one1 (SlF.st0 f_s hs3) ?_ rfl)) ?_
  · omega
  refine WL.cl Tryz.call270 rfl (k80_ _ _) ?_
  rintro _ whs7 ⟨rfl, hs7⟩
  replace hs7 := hs3.call0 hs7
  refine ⟨_, rfl, WL.nil (WC.cond rfl (fun h8 => ?_) (fun h8 => ?_))⟩
  ·have qh8 := h8
   try simp only [decide_eq_true_eq, decide_eq_false_iff_not] at qh8
   refine WC.r1 hs7 [] rfl (WC.ret (ibR (tkR (tkR (ibR (tkR ?_))))))
   clear hK6 hK2
   refine rtv rfl rfl hs7 ?_
   rw [findI_some (F := encI) (by rw [f_s.len]; omega) p1 h8]
  have qh8 := h8
  try simp only [decide_eq_true_eq, decide_eq_false_iff_not] at qh8
  refine WC.skip (hK6 _ _ (WC.region (WL.r 2 hs7 [] rfl (WL.nil (tkN ?_)))))
  refine ⟨sbF rfl, hs7, _, ?_, i + 1, rfl, ?_, ?_, ⟨rfl, trivial⟩⟩
  · omega
  · omega
  · intro j hj; rcases Nat.lt_or_ge j i with h_ | h_
    · exact p1 j h_
    · obtain rfl : j = i := by omega
      exact h8
 have qh5 := h5
 try simp only [decide_eq_true_eq, decide_eq_false_iff_not] at qh5
 refine WC.exit (hK2 _ _ (WC.r1 hs3 [] rfl (WC.ret (rtv rfl rfl hs3 ?_))))
 rw [findI_none (F := encI) (fun j hj => p1 j (by rw [f_s.len] at hj; omega))]
theorem k82_ (A_s : Option Addr) (n_s c_s : Nat) (s : List Int) (w : World) (f_s : SlF encI w A_s n_s s) (hn : n_s ≤ 549755813888) :
    Calls Tryz.prog 269 #[.slice A_s n_s c_s, .func (.func 270) #[] #[]] w fun e w' => e = .returned (.bool (decide (0 ≤ findI (fun n => !within n 0 9999) s))) ∧ St w [] [] w' := by
 refine enter 9 Tryz.func269 rfl Tryz.ntmps269 rfl rfl ?_
 have hs1 := St.init w
 refine WC.r1 hs1 [] rfl (WC.sr (WL.r 2 hs1 [] rfl (WL.cl Tryz.call291 rfl (k81_ _ _ _ _ _ (SlF.st0 f_s hs1) ?_) ?_)))
 · first | assumption | rfl | omega
 rintro _ whs2 ⟨rfl, hs2⟩
 replace hs2 := hs1.call0 hs2
 refine ⟨_, rfl, WL.r 2 hs2 [] rfl (WL.nil (WC.ret (rtv rfl rfl hs2 ?_)))⟩
 rfl
theorem k83_ (A_l : Option Addr) (n_l c_l : Nat) (l : List Int) (w : World) (f_l : SlF encI w A_l n_l l) (hn : n_l ≤ 549755813888) :
    Calls Tryz.prog 230 #[.slice A_l n_l c_l] w fun e w' => e = .returned (.bool (areArgs l)) ∧ St w [] [] w' := by
 refine enter 11 Tryz.func230 rfl Tryz.ntmps230 rfl rfl ?_
 have hs1 := St.init w
 refine WC.r1 hs1 [] rfl (WC.sr (WL.r 4 hs1 [] rfl ?_))
 apply WL.gA 3 Acts.nil hs1 rfl
 ·intro g2 J3
  have qg2 := g2
  try simp only [bf, within_iff, within_not] at qg2
  refine WL.runA tbk 1 (Acts.nil.cons (j := 3) rfl g2) hs1 [] rfl trivial (WL.call (wantT rfl g2) rfl rfl (Run.call Tryz.call269 rfl rfl rfl) (k82_ _ _ _ _ _ (SlF.st0 f_l hs1) ?_) ?_)
  · first | assumption | rfl | omega
  rintro _ whs4 ⟨rfl, hs4⟩
  replace hs4 := hs1.call0 hs4
  refine ⟨_, rfl, WL.runA tbk 1 (Acts.nil.cons (j := 3) rfl g2) hs4 [] rfl trivial (WL.eA 3 Acts.nil J3 hs4 g2 rfl rfl)⟩
 intro _ hs5
 refine WL.r 1 hs5 [] rfl (WL.nil (WC.ret (rtv rfl rfl hs5 ?_)))
 rw [all_find, ← f_l.len]; unfold areArgs; rw [show decide ((l.length : Int) ≤ 8) = decide (l.length ≤ 8) from by rw [decide_eq_decide]; omega]
theorem k84_ (n : Int) (w : World) :
    Calls Tryz.prog 217 #[i64 n] w fun e w' => e = .returned (.bool (decide (n = 2) || decide (n = 3))) ∧ St w [] [] w' := by
 refine enter 9 Tryz.func217 rfl Tryz.ntmps217 rfl rfl ?_
 have hs1 := St.init w
 refine WC.r1 hs1 [] rfl (WC.sr (WL.r 3 hs1 [] rfl (WL.pO tbk 2 Acts.nil hs1 [] rfl rfl rfl rfl (fun g_ => trivial) (WL.r 1 hs1 [] rfl (WL.nil (WC.ret (retV1 rfl (resV.tmp rfl) ?_)))))))
 refine ⟨congrArg Ending.returned ?_, hs1.nil⟩
 rfl
theorem k85_ (p : VpR) (w : World) (f_p : okVpR 549755813888 w p) :
    Calls Tryz.prog 194 #[.agg #[i64 p.State, .bool p.Mark, .slice p.Args.A p.Args.n p.Args.c, .slice p.Part.A p.Part.n p.Part.c]] w fun e w' => e = .returned (.bool (vpOk p.dat)) ∧ St w [] [] w' := by
 have nb_p_Args := f_p.Args_n
 have nl_p_Args := f_p.Args.len
 have nb_p_Part := f_p.Part_n
 have nl_p_Part := f_p.Part.len
 have hal := f_p.Args.len
 have hpl := f_p.Part.len
 have e1 : decide ((p.Args.n : Int) = 0) = decide (p.dat.Args.length = 0) := by rw [decide_eq_decide]; show _ ↔ p.Args.xs.length = 0; omega
 have e2 : decide ((p.Part.n : Int) = 0) = decide (p.dat.Part.length = 0) := by rw [decide_eq_decide]; show _ ↔ p.Part.xs.length = 0; omega
 refine enter 56 Tryz.func194 rfl Tryz.ntmps194 rfl rfl ?_
 have hs1 := St.init w
 refine WC.sr (WL.bx hs1 rfl (fun b2 _ hs3 => WL.r 1 hs3 [] rfl (WL.nil (WC.seq (fun K4 hK4 => WC.r1 hs3 [0] rfl (WC.block (WC.r1 hs3 [] rfl ?_)))))))
 refine WC.cD rfl (fun qh5 => ?_) (fun qh5 => ?_)
 ·refine WC.sr (WL.r 4 hs3 [0] rfl (WL.pA tbk 4 Acts.nil hs3 [0] rfl rfl rfl rfl (fun g_ => ⟨rfl, trivial⟩) (WL.r 1 hs3 [] rfl ?_)))
  apply WL.gA 9 Acts.nil hs3 rfl
  ·intro g6 J7
   have qg6 := g6
   try simp only [bf, within_iff, within_not] at qg6
   refine WL.runA tbk 5 (Acts.nil.cons (j := 9) rfl g6) hs3 [0] rfl ⟨rfl, trivial⟩ ?_
   apply WL.gO 3 (Acts.nil.cons (j := 9) rfl g6) hs3 rfl
   ·intro g8 J9
    have qg8 := g8
    try simp only [bf, within_iff, within_not] at qg8
    refine WL.runA tbk 2 (Acts.nil.cons (j := 14) rfl g8) hs3 [0] rfl ⟨rfl, trivial⟩ (WL.call (wantF rfl g8) rfl rfl (Run.call Tryz.call229 rfl rfl rfl) (k78_ _ _ _ _ _ (SlF.st0 f_p.Part hs3) f_p.Part_c ?_) ?_)
    · first | assumption | rfl | omega
    rintro _ whs10 ⟨rfl, hs10⟩
    replace hs10 := hs3.call0 hs10
    refine ⟨_, rfl, WL.eO 3 (Acts.nil.cons (j := 9) rfl g6) J9 hs10 g8 rfl rfl⟩
   intro _ hs11
   exact WL.eA 6 Acts.nil J7 hs11 g6 rfl rfl
  intro _ hs12
  refine WL.r 1 hs12 [] rfl (WL.nil (WC.ret (ibR (tkR ?_))))
  clear hK4
  refine rtv rfl rfl hs12 ?_
  rw [e1, e2]; unfold vpOk; rw [if_pos (by show p.State = 0; omega)]; rfl
 refine WC.r1 hs3 [] rfl (WC.cD rfl (fun qh13 => ?_) (fun qh13 => ?_))
 ·refine WC.sr (WL.r 4 hs3 [0] rfl (WL.pA tbk 4 Acts.nil hs3 [0] rfl rfl rfl rfl (fun g_ => ⟨rfl, trivial⟩) (WL.r 1 hs3 [] rfl (WL.pA tbk 4 Acts.nil hs3 [0] rfl rfl rfl rfl (fun g_ => ⟨rfl, trivial⟩) (WL.r 1 hs3 [] rfl (WL.nil (WC.ret ?_)))))))
  refine ibR (tkR ?_)
  clear hK4
  refine rtv rfl rfl hs3 ?_
  rw [e1, e2]; unfold vpOk; rw [if_neg (by show ¬ p.State = 0; omega), if_pos (by show p.State = 1; omega)]; rfl
 refine WC.seq (fun K14 hK14 => WC.r1 hs3 [] rfl ?_)
 refine WC.cD rfl (fun qh15 => ?_) (fun qh15 => ?_)
 ·refine WC.skip (hK14 _ _ (WC.condT rfl (decide_eq_true qh15) (WC.sr (WL.r 2 hs3 [0] rfl ?_))))
  refine WL.cl Tryz.call230 rfl (k83_ _ _ _ _ _ (SlF.st0 f_p.Args hs3) ?_) ?_
  · first | assumption | rfl | omega
  rintro _ whs17 ⟨rfl, hs17⟩
  replace hs17 := hs3.call0 hs17
  refine ⟨_, rfl, WL.r 1 hs17 [] rfl (WL.pA tbk 4 Acts.nil hs17 [0] rfl rfl rfl rfl (fun g_ => ⟨rfl, trivial⟩) (WL.r 1 hs17 [] rfl (WL.nil (WC.ret (ibR (tkR ?_))))))⟩
  clear hK4
  refine rtv rfl rfl hs17 ?_
  rw [vpOk_csi (.inl (by show p.State = 2; omega)), e2]; rfl
 refine WC.region (WL.r 2 hs3 [] rfl (WL.nil (hK14 _ _ ?_)))
 refine WC.cD rfl (fun qh18 => ?_) (fun qh18 => ?_)
 ·refine WC.sr (WL.r 2 hs3 [0] rfl (WL.cl Tryz.call230 rfl (k83_ _ _ _ _ _ (SlF.st0 f_p.Args hs3) ?_) ?_))
  · first | assumption | rfl | omega
  rintro _ whs19 ⟨rfl, hs19⟩
  replace hs19 := hs3.call0 hs19
  refine ⟨_, rfl, WL.r 1 hs19 [] rfl (WL.pA tbk 4 Acts.nil hs19 [0] rfl rfl rfl rfl (fun g_ => ⟨rfl, trivial⟩) (WL.r 1 hs19 [] rfl (WL.nil (WC.ret (ibR (tkR ?_))))))⟩
  clear hK4
  refine rtv rfl rfl hs19 ?_
  rw [vpOk_csi (.inr (by show p.State = 3; omega)), e2]; rfl
 refine WC.skip (hK4 _ _ (WC.r1 hs3 [] rfl (WC.ret (rtv rfl rfl hs3 ?_))))
 unfold vpOk; rw [if_neg (by show ¬ p.State = 0; omega), if_neg (by show ¬ p.State = 1; omega), if_neg (by show ¬ (p.State = 2 ∨ p.State = 3); omega)]
theorem k86_ (p : VpR) (w : World) (f_p : okVpR 549755813888 w p) :
    Calls Tryz.prog 182 #[.agg #[i64 p.State, .bool p.Mark, .slice p.Args.A p.Args.n p.Args.c, .slice p.Part.A p.Part.n p.Part.c]] w fun e w' => e = .returned (.bool (vpOk p.dat)) ∧ St w [] [] w' := by
 have nb_p_Args := f_p.Args_n
 have nl_p_Args := f_p.Args.len
 have nb_p_Part := f_p.Part_n
 have nl_p_Part := f_p.Part.len
 have hal := f_p.Args.len
 have hpl := f_p.Part.len
 have e1 : decide ((p.Args.n : Int) = 0) = decide (p.dat.Args.length = 0) := by rw [decide_eq_decide]; show _ ↔ p.Args.xs.length = 0; omega
 have e2 : decide ((p.Part.n : Int) = 0) = decide (p.dat.Part.length = 0) := by rw [decide_eq_decide]; show _ ↔ p.Part.xs.length = 0; omega
 refine enter 63 Tryz.func182 rfl Tryz.ntmps182 rfl rfl ?_
 have hs1 := St.init w
 refine WC.sr (WL.bx hs1 rfl (fun b2 _ hs3 => WL.r 1 hs3 [] rfl (WL.nil (WC.seq (fun K4 hK4 => WC.sr (WL.r 4 hs3 [0] rfl (WL.pO tbk 3 Acts.nil hs3 [0] rfl rfl rfl rfl (fun g_ => ⟨rfl, trivial⟩) ?_)))))))
 refine WL.r 1 hs3 [] rfl (WL.pO tbk 4 Acts.nil hs3 [0] rfl rfl rfl rfl (fun g_ => ⟨rfl, trivial⟩) (WL.r 1 hs3 [] rfl ?_))
 apply WL.gO 14 Acts.nil hs3 rfl
 ·intro g5 J6
  have qg5 := g5
  try simp only [bf, within_iff, within_not] at qg5
  refine WL.runA tbk 2 (Acts.nil.cons (j := 14) rfl g5) hs3 [0] rfl ⟨rfl, trivial⟩ (WL.call (wantF rfl g5) rfl rfl (Run.call Tryz.call217 rfl rfl rfl) (k84_ _ _) ?_)
  rintro _ whs7 ⟨rfl, hs7⟩
  replace hs7 := hs3.call0 hs7
  refine ⟨_, rfl, WL.runA tbk 2 (Acts.nil.cons (j := 14) rfl g5) hs7 [] rfl trivial ?_⟩
  apply WL.gA 8 (Acts.nil.cons (j := 14) rfl g5) hs7 rfl
  ·intro g8 J9
   have qg8 := g8
   try simp only [bf, within_iff, within_not] at qg8
   refine WL.runA tbk 3 (Acts.nil.cons (j := 19) rfl g8) hs7 [0] rfl ⟨rfl, trivial⟩ (WL.pO tbk 4 (Acts.nil.cons (j := 19) rfl g8) hs7 [0] rfl rfl rfl rfl (fun g_ => ⟨rfl, trivial⟩) (WL.eA 4 (Acts.nil.cons (j := 14) rfl g5) J9 hs7 g8 rfl rfl))
  intro _ hs10
  exact WL.eO 6 Acts.nil J6 hs10 g5 rfl rfl
 intro _ hs11
 refine WL.nil (WC.cq rfl (fun h12 qh12 => ?_) (fun h12 qh12 => ?_))
 ·have hbad : vpBad p.dat = true := by unfold vpBad; rw [show p.dat.Args.length = p.Args.n from hal]; exact h12
  refine WC.r1 hs11 [] rfl (WC.ret (tkR ?_))
  clear hK4
  refine rtv rfl rfl hs11 ?_
  rw [vpOk_bad hbad]
 have hbad : vpBad p.dat = false := by unfold vpBad; rw [show p.dat.Args.length = p.Args.n from hal]; exact h12
 refine WC.skip (hK4 _ _ (WC.seq (fun K13 hK13 => WC.r1 hs11 [0] rfl (WC.block ?_))))
 refine WC.lS [1, 34, 36, 37] rfl hs11 (fun k_ f w' => ∃ (i : Nat), k_ = p.Args.n - i ∧ (i ≤ p.Args.n) ∧ (∀ j, j < i → within (gat encI p.Args.xs j) 0 9999 = true) ∧ Sub [(38, .int .i64 i)] f) ((fun (i : Nat) => p.Args.n - i) (0)) ?_ ?_
 ·refine ⟨0, rfl, ?_, ?_, ⟨rfl, trivial⟩⟩
  · exact Nat.zero_le _
  · exact fun j hj => absurd hj (by omega)
 clear hs11
 rintro _ f w ⟨i, rfl, p0, p1, hG⟩ hF hs14
 refine WC.sub _ (hG.app hF) ?_
 clear hG hF
 refine WC.r1 hs14 [] rfl (WC.seq (fun K15 hK15 => ?_))
 refine WC.cD rfl (fun qh16 => ?_) (fun qh16 => ?_)
 ·refine WC.skip (hK15 _ _ (WC.seq (fun K17 hK17 => WC.block (WC.sr ?_))))
  refine WL.val rfl rfl rfl (Run.idxN Tryz.runUnderlying60 Tryz.sizeOf3 rfl rfl rfl ?_ ?_ ?_) ?_
  · exact SlF.some_ (SlF.st0 f_p.Args hs14)
  · omega
  · omega
  refine WL.val rfl rfl rfl (Run.load Tryz.isAgg3 rfl rfl (SlF.one1 (SlF.st0 f_p.Args hs14) ?_ rfl)) ?_
  · omega
  refine WL.r 1 hs14 [] rfl (WL.nil (WC.sr (WL.r 3 hs14 [] rfl (WL.pO tbk 2 Acts.nil hs14 [] rfl rfl rfl rfl (fun g_ => trivial) (WL.nil (WC.cq rfl (fun h18 qh18 => ?_) (fun h18 qh18 => ?_)))))))
  ·refine WC.r1 hs14 [] rfl (WC.ret (ibR (tkR (tkR (ibR (tkR ?_))))))
   clear hK17 hK13
   refine rtv rfl rfl hs14 ?_
   rw [vpOk_arg (v := p.dat) (j := i) (by show i < p.Args.xs.length; omega) (by rw [← Bool.not_eq_true, within_iff]; show ¬ (0 ≤ gat encI p.Args.xs i ∧ gat encI p.Args.xs i ≤ 9999); simp at qh18; omega)]
  refine WC.skip (hK17 _ _ (WC.region (WL.r 2 hs14 [] rfl (WL.nil (tkN ?_)))))
  refine ⟨sbF rfl, hs14, _, ?_, i + 1, rfl, ?_, ?_, ⟨rfl, trivial⟩⟩
  · omega
  · omega
  · intro j hj; rcases Nat.lt_or_ge j i with h_ | h_
    · exact p1 j h_
    · obtain rfl : j = i := by omega
      rw [within_iff]; simp at qh18; omega
 refine WC.exit (hK13 _ _ (WC.sr (WL.r 5 hs14 [0] rfl ?_)))
 apply WL.gO 8 Acts.nil hs14 rfl
 ·intro g19 J20
  have qg19 := g19
  try simp only [bf, within_iff, within_not] at qg19
  refine WL.runA tbk 4 (Acts.nil.cons (j := 4) rfl g19) hs14 [0] rfl ⟨rfl, trivial⟩ ?_
  apply WL.gA 3 (Acts.nil.cons (j := 4) rfl g19) hs14 rfl
  ·intro g21 J22
   have qg21 := g21
   try simp only [bf, within_iff, within_not] at qg21
   refine WL.runA tbk 2 (Acts.nil.cons (j := 8) rfl g21) hs14 [0] rfl ⟨rfl, trivial⟩ (WL.call (wantT rfl g21) rfl rfl (Run.call Tryz.call218 rfl rfl rfl) (k79_ _ _ _ _ _ (SlF.st0 f_p.Part hs14) f_p.Part_c ?_) ?_)
   · first | assumption | rfl | omega
   rintro _ whs23 ⟨rfl, hs23⟩
   replace hs23 := hs14.call0 hs23
   refine ⟨_, rfl, WL.eA 3 (Acts.nil.cons (j := 4) rfl g19) J22 hs23 g21 rfl rfl⟩
  intro _ hs24
  exact WL.eO 5 Acts.nil J20 hs24 g19 rfl rfl
 intro _ hs25
 refine WL.r 1 hs25 [] rfl (WL.nil (WC.ret (rtv rfl rfl hs25 ?_)))
 rw [vpOk_end hbad (fun j hj => p1 j (by have : j < p.Args.xs.length := hj; omega)), e2]; rfl
theorem k87_ (w_ h_ : Int) (w : World) :
    Calls Tryz.prog 57 #[i64 w_, i64 h_] w fun e w' => e = .returned (.bool (isSize w_ h_)) ∧ St w [] [] w' := by
 refine enter 17 Tryz.func57 rfl Tryz.ntmps57 rfl rfl ?_
 have hs1 := St.init w
 refine WC.r1 hs1 [] rfl (WC.sr (WL.r 1 hs1 [] rfl (WL.cl Tryz.call58 rfl (k0_ _ _ _ _) ?_)))
 rintro _ whs2 ⟨rfl, hs2⟩
 replace hs2 := hs1.call0 hs2
 refine ⟨_, rfl, WL.r 1 hs2 [] rfl ?_⟩
 apply WL.gA 2 Acts.nil hs2 rfl
 ·intro g3 J4
  have qg3 := g3
  try simp only [bf, within_iff, within_not] at qg3
  refine WL.runA tbk 1 (Acts.nil.cons (j := 2) rfl g3) hs2 [] rfl trivial (WL.call (wantT rfl g3) rfl rfl (Run.call Tryz.call58 rfl rfl rfl) (k0_ _ _ _ _) ?_)
  rintro _ whs5 ⟨rfl, hs5⟩
  replace hs5 := hs2.call0 hs5
  refine ⟨_, rfl, WL.eA 2 Acts.nil J4 hs5 g3 rfl rfl⟩
 intro _ hs6
 refine WL.r 1 hs6 [] rfl ?_
 apply WL.gA 4 Acts.nil hs6 rfl
 ·intro g7 J8
  have qg7 := g7
  try simp only [bf, within_iff, within_not] at qg7
  refine WL.runA tbk 4 (Acts.nil.cons (j := 6) rfl g7) hs6 [] rfl ⟨?_, trivial⟩ ?_
  · (have h9 := mul_size (w := w_) (h := h_) (by omega) (by omega); constructor <;> omega)
  exact WL.eA 4 Acts.nil J8 hs6 g7 rfl rfl
 intro _ hs9
 refine WL.r 1 hs9 [] rfl (WL.nil (WC.ret (rtv rfl rfl hs9 ?_)))
 rfl
theorem k88_ (g : GridR) (w : World) (f_g : okGridR 549755813888 w g) :
    Calls Tryz.prog 231 #[.agg #[i64 g.W, i64 g.H, .slice g.Cells.A g.Cells.n g.Cells.c]] w fun e w' => e = .returned (.bool (gridOk g.dat)) ∧ St w [] [] w' := by
 have nb_g_Cells := f_g.Cells_n
 have nl_g_Cells := f_g.Cells.len
 refine enter 24 Tryz.func231 rfl Tryz.ntmps231 rfl rfl ?_
 have hs1 := St.init w
 refine WC.sr (WL.bx hs1 rfl (fun b2 _ hs3 => WL.r 1 hs3 [] rfl (WL.nil (WC.sr (WL.r 4 hs3 [0, 0] rfl (WL.cl Tryz.call57 rfl (k87_ _ _ _) ?_))))))
 rintro _ whs4 ⟨rfl, hs4⟩
 replace hs4 := hs3.call0 hs4
 refine ⟨_, rfl, WL.r 1 hs4 [] rfl ?_⟩
 apply WL.gA 9 Acts.nil hs4 rfl
 ·intro g5 J6
  have qg5 := g5
  try simp only [bf, within_iff, within_not] at qg5
  refine WL.runA tbk 9 (Acts.nil.cons (j := 5) rfl g5) hs4 [0, 0, 0] rfl ⟨?_, rfl, rfl, rfl, trivial⟩ ?_
  · (obtain ⟨_, _, h9, h10⟩ := isSize_bnd (w := g.W) (h := g.H) (by assumption); constructor <;> omega)
  exact WL.eA 9 Acts.nil J6 hs4 g5 rfl rfl
 intro _ hs7
 refine WL.r 1 hs7 [] rfl ?_
 apply WL.gA 3 Acts.nil hs7 rfl
 ·intro g8 J9
  have qg8 := g8
  try simp only [bf, within_iff, within_not] at qg8
  refine WL.runA tbk 2 (Acts.nil.cons (j := 16) rfl g8) hs7 [0] rfl ⟨rfl, trivial⟩ (WL.call (wantT rfl g8) rfl rfl (Run.call Tryz.call271 rfl rfl rfl) (k74_ _ _ _ _ _ (SlF.st0 f_g.Cells hs7) ?_) ?_)
  · first | assumption | rfl | omega
  rintro _ whs10 ⟨rfl, hs10⟩
  replace hs10 := hs7.call0 hs10
  refine ⟨_, rfl, WL.eA 3 Acts.nil J9 hs10 g8 rfl rfl⟩
 intro _ hs11
 refine WL.r 1 hs11 [] rfl (WL.nil (WC.ret (rtv rfl rfl hs11 ?_)))
 rw [← nl_g_Cells]; rfl
theorem k89_ (g : GridR) (x : Int) (y : Int) (w : World) (f_g : okGridR 549755813888 w g) (hw : 0 ≤ g.W ∧ g.W ≤ 120) (hh : 0 ≤ g.H ∧ g.H ≤ 120) :
    Calls Tryz.prog 232 #[.agg #[i64 g.W, i64 g.H, .slice g.Cells.A g.Cells.n g.Cells.c], i64 x, i64 y] w fun e w' => e = .returned (.bool (gridHas g.dat x y)) ∧ St w [] [] w' := by
 have nb_g_Cells := f_g.Cells_n
 have nl_g_Cells := f_g.Cells.len
 refine enter 19 Tryz.func232 rfl Tryz.ntmps232 rfl rfl ?_
 have hs1 := St.init w
 refine WC.sr (WL.bx hs1 rfl (fun b2 _ hs3 => WL.r 1 hs3 [] rfl (WL.nil (WC.sr (WL.r 4 hs3 [0] rfl (WL.cl Tryz.call58 rfl (k0_ _ _ _ _) ?_))))))
 rintro _ whs4 ⟨rfl, hs4⟩
 replace hs4 := hs3.call0 hs4
 refine ⟨_, rfl, WL.r 1 hs4 [] rfl ?_⟩
 apply WL.gA 5 Acts.nil hs4 rfl
 ·intro g5 J6
  have qg5 := g5
  try simp only [bf, within_iff, within_not] at qg5
  refine WL.runA tbk 4 (Acts.nil.cons (j := 5) rfl g5) hs4 [0] rfl ⟨by omega, rfl, trivial⟩ (WL.call (wantT rfl g5) rfl rfl (Run.call Tryz.call58 rfl rfl rfl) (k0_ _ _ _ _) ?_)
  rintro _ whs7 ⟨rfl, hs7⟩
  replace hs7 := hs4.call0 hs7
  refine ⟨_, rfl, WL.eA 5 Acts.nil J6 hs7 g5 rfl rfl⟩
 intro _ hs8
 refine WL.r 1 hs8 [] rfl (WL.nil (WC.ret (rtv rfl rfl hs8 ?_)))
 rfl
theorem k90_ (A_l : Option Addr) (n_l c_l : Nat) (l : List Int) (lo : Int) (hi : Int) (w : World) (f_l : SlF encI w A_l n_l l) (hn : n_l ≤ 549755813888) :
    Calls Tryz.prog 234 #[.slice A_l n_l c_l, i64 lo, i64 hi] w fun e w' => e = .returned (.bool (isAsc l lo hi)) ∧ St w [] [] w' := by
 refine enter 35 Tryz.func234 rfl Tryz.ntmps234 rfl rfl ?_
 have hs1 := St.init w
 refine WC.r1 hs1 [] rfl (WC.seq (fun K2 hK2 => WC.r1 hs1 [] rfl (WC.block ?_)))
 refine WC.lS [0, 1, 2, 9, 10] rfl hs1 (fun k_ f w' => ∃ (i : Nat), k_ = n_l - i ∧ (i ≤ n_l) ∧ (∀ j, j < i → ascAt l lo hi j = true) ∧ Sub [(11, .int .i64 i)] f) ((fun (i : Nat) => n_l - i) (0)) ?_ ?_
 ·refine ⟨0, rfl, ?_, ?_, ⟨rfl, trivial⟩⟩
  · exact Nat.zero_le _
  · exact fun j hj => absurd hj (by omega)
 clear hs1
 rintro _ f w ⟨i, rfl, p0, p1, hG⟩ hF hs3
 refine WC.sub _ (hG.app hF) ?_
 clear hG hF
 refine WC.r1 hs3 [] rfl (WC.seq (fun K4 hK4 => ?_))
 refine WC.cq rfl (fun h5 qh5 => ?_) (fun h5 qh5 => ?_)
 ·refine WC.skip (hK4 _ _ (WC.seq (fun K6 hK6 => WC.block (WC.sr (WL.r 1 hs3 [] rfl ?_)))))
  refine WL.val rfl rfl rfl (Run.idxN Tryz.runUnderlying60 Tryz.sizeOf3 rfl rfl rfl ?_ ?_ ?_) ?_
  · exact SlF.some_ (SlF.st0 f_l hs3)
  · omega
  · omega
  refine WL.val rfl rfl rfl (Run.load Tryz.isAgg3 rfl rfl (SlF.one1 (SlF.st0 f_l hs3) ?_ rfl)) ?_
  · omega
  refine WL.r 2 hs3 [] rfl (WL.nil (WC.sr (WL.r 3 hs3 [] rfl (WL.cl Tryz.call58 rfl (k0_ _ _ _ _) ?_))))
  rintro _ whs7 ⟨rfl, hs7⟩
  replace hs7 := hs3.call0 hs7
  refine ⟨_, rfl, WL.r 2 hs7 [] rfl ?_⟩
  apply WL.gO 11 Acts.nil hs7 rfl
  ·intro g8 J9
   have qg8 := g8
   try simp only [bf, within_iff, within_not] at qg8
   refine WL.runA tbk 3 (Acts.nil.cons (j := 5) rfl g8) hs7 [] rfl trivial ?_
   apply WL.gA 7 (Acts.nil.cons (j := 5) rfl g8) hs7 rfl
   ·intro g10 J11
    have qg10 := g10
    try simp only [bf, within_iff, within_not] at qg10
    refine WL.runA tbk 3 (Acts.nil.cons (j := 8) rfl g10) hs7 [] rfl ⟨by omega, trivial⟩ (WL.val (wantT rfl g10) rfl rfl (Run.idxK (i - 1) Tryz.runUnderlying60 Tryz.sizeOf3 rfl rfl rfl ?_ ?_ ?_) ?_)
    · exact SlF.some_ (SlF.st0 f_l hs7)
    · omega
    · omega
    refine WL.val (wantT rfl g10) rfl rfl (Run.load Tryz.isAgg3 rfl rfl (SlF.one1 (SlF.st0 f_l hs7) ?_ rfl)) ?_
    · omega
    refine WL.runA tbk 2 (Acts.nil.cons (j := 8) rfl g10) hs7 [] rfl trivial (WL.eA 7 (Acts.nil.cons (j := 5) rfl g8) J11 hs7 g10 rfl rfl)
   intro _ hs12
   exact WL.eO 4 Acts.nil J9 hs12 g8 rfl rfl
  intro _ hs13
  refine WL.nil (WC.cq rfl (fun h14 qh14 => ?_) (fun h14 qh14 => ?_))
  ·have ha : ascAt l lo hi i = false := by unfold ascAt; have h9 := h14; simp only [iat]; cases hw_ : within (gat encI l i) lo hi <;> rw [hw_] at h9 <;> simp at h9 ⊢ <;> omega
   refine WC.r1 hs13 [] rfl (WC.ret (ibR (tkR (tkR (ibR (tkR ?_))))))
   clear hK6 hK2
   refine rtv rfl rfl hs13 ?_
   rw [isAsc_not (by rw [f_l.len]; omega) ha]
  have ha : ascAt l lo hi i = true := by unfold ascAt; have h9 := h14; simp only [iat]; cases hw_ : within (gat encI l i) lo hi <;> rw [hw_] at h9 <;> simp at h9 ⊢ <;> omega
  refine WC.skip (hK6 _ _ (WC.region (WL.r 2 hs13 [] rfl (WL.nil (tkN ?_)))))
  refine ⟨sbF rfl, hs13, _, ?_, i + 1, rfl, ?_, ?_, ⟨rfl, trivial⟩⟩
  · omega
  · omega
  · intro j hj; rcases Nat.lt_or_ge j i with h_ | h_
    · exact p1 j h_
    · obtain rfl : j = i := by omega
      exact ha
 refine WC.exit (hK2 _ _ (WC.r1 hs3 [] rfl (WC.ret (rtv rfl rfl hs3 ?_))))
 rw [isAsc_all (fun j hj => p1 j (by rw [f_l.len] at hj; omega))]
theorem k91_ (r : RowR) (w : World) (f_r : okRowR 549755813888 w r) :
    Calls Tryz.prog 273 #[.agg #[.slice r.Cells.A r.Cells.n r.Cells.c]] w fun e w' => e = .returned (.bool (!rowOk r.dat)) ∧ St w [] [] w' := by
 have nb_r_Cells := f_r.Cells_n
 have nl_r_Cells := f_r.Cells.len
 refine enter 14 Tryz.func273 rfl Tryz.ntmps273 rfl rfl ?_
 have hs1 := St.init w
 refine WC.sr (WL.bx hs1 rfl (fun b2 _ hs3 => WL.r 1 hs3 [] rfl (WL.nil (WC.sr (WL.r 3 hs3 [0] rfl (WL.cl Tryz.call58 rfl (k0_ _ _ _ _) ?_))))))
 rintro _ whs4 ⟨rfl, hs4⟩
 replace hs4 := hs3.call0 hs4
 refine ⟨_, rfl, WL.r 2 hs4 [] rfl ?_⟩
 apply WL.gO 4 Acts.nil hs4 rfl
 ·intro g5 J6
  have qg5 := g5
  try simp only [bf, within_iff, within_not] at qg5
  refine WL.runA tbk 2 (Acts.nil.cons (j := 5) rfl g5) hs4 [0] rfl ⟨rfl, trivial⟩ (WL.call (wantF rfl g5) rfl rfl (Run.call Tryz.call271 rfl rfl rfl) (k74_ _ _ _ _ _ (SlF.st0 f_r.Cells hs4) ?_) ?_)
  · first | assumption | rfl | omega
  rintro _ whs7 ⟨rfl, hs7⟩
  replace hs7 := hs4.call0 hs7
  refine ⟨_, rfl, WL.runA tbk 1 (Acts.nil.cons (j := 5) rfl g5) hs7 [] rfl trivial (WL.eO 4 Acts.nil J6 hs7 g5 rfl rfl)⟩
 intro _ hs8
 refine WL.r 1 hs8 [] rfl (WL.nil (WC.ret (rtv rfl rfl hs8 ?_)))
 rw [show rowOk r.dat = (within (r.Cells.n : Int) 1 120 && cellsOk r.Cells.xs) by unfold rowOk; rw [← nl_r_Cells]; rfl, Bool.not_and]
theorem k92_ (A_s : Option Addr) (n_s c_s : Nat) (s : List RowR) (w : World) (f_s : SlN encRowR (okRowR 549755813888) w A_s n_s s) (hn : n_s ≤ 549755813888) :
    Calls Tryz.prog 295 #[.slice A_s n_s c_s, .func (.func 273) #[] #[]] w fun e w' => e = .returned (.int .i64 (findI (fun r => !rowOk r.dat) s)) ∧ St w [] [] w' := by
 refine enter 19 Tryz.func295 rfl Tryz.ntmps295 rfl rfl ?_
 have hs1 := St.init w
 refine WC.r1 hs1 [] rfl (WC.seq (fun K2 hK2 => WC.r1 hs1 [] rfl (WC.block ?_)))
 refine WC.lS [0, 1, 7] rfl hs1 (fun k_ f w' => ∃ (i : Nat), k_ = n_s - i ∧ (i ≤ n_s) ∧ (∀ j, j < i → (fun r => !rowOk r.dat) (gat encRowR s j) = false) ∧ Sub [(8, .int .i64 i)] f) ((fun (i : Nat) => n_s - i) (0)) ?_ ?_
 ·refine ⟨0, rfl, ?_, ?_, ⟨rfl, trivial⟩⟩
  · exact Nat.zero_le _
  · exact fun j hj => absurd hj (by omega)
 clear hs1
 rintro _ f w ⟨i, rfl, p0, p1, hG⟩ hF hs3
 refine WC.sub _ (hG.app hF) ?_
 clear hG hF
 refine WC.r1 hs3 [] rfl (WC.seq (fun K4 hK4 => ?_))
 refine WC.cond rfl (fun h5 => ?_) (fun h5 => ?_)
 ·have qh5 := h5
  try simp only [decide_eq_true_eq, decide_eq_false_iff_not] at qh5
  refine WC.skip (hK4 _ _ (WC.seq (fun K6 hK6 => WC.block (WC.r1 hs3 [] rfl (WC.sr (WL.r 3 hs3 [] rfl ?_))))))
  refine WL.val rfl rfl rfl (Run.idxN Tryz.runUnderlying87 Tryz.sizeOf181 rfl rfl rfl ?_ ?_ ?_) ?_
  · exact SlF.some_ (SlF.st0 f_s.sl hs3)
  · omega
  · omega
  refine WL.val rfl rfl rfl (Run.loadA Tryz.isAgg181 Tryz.sizeOf181 rfl rfl (SlF.whole (SlF.st0 f_s.sl hs3) ?_)) ?_
  · omega
  refine WL.cl Tryz.call273 rfl (k91_ (gat encRowR s i) _ (okRowR.st0 (SlN.nth f_s (by omega)) hs3)) ?_
  rintro _ whs7 ⟨rfl, hs7⟩
  replace hs7 := hs3.call0 hs7
  refine ⟨_, rfl, WL.nil (WC.cond rfl (fun h8 => ?_) (fun h8 => ?_))⟩
  ·have qh8 := h8
   try simp only [decide_eq_true_eq, decide_eq_false_iff_not] at qh8
   refine WC.r1 hs7 [] rfl (WC.ret (ibR (tkR (tkR (ibR (tkR ?_))))))
   clear hK6 hK2
   refine rtv rfl rfl hs7 ?_
   rw [findI_some (F := encRowR) (by rw [f_s.len]; omega) p1 h8]
  have qh8 := h8
  try simp only [decide_eq_true_eq, decide_eq_false_iff_not] at qh8
  refine WC.skip (hK6 _ _ (WC.region (WL.r 2 hs7 [] rfl (WL.nil (tkN ?_)))))
  refine ⟨sbF rfl, hs7, _, ?_, i + 1, rfl, ?_, ?_, ⟨rfl, trivial⟩⟩
  · omega
  · omega
  · intro j hj; rcases Nat.lt_or_ge j i with h_ | h_
    · exact p1 j h_
    · obtain rfl : j = i := by omega
      exact h8
 have qh5 := h5
 try simp only [decide_eq_true_eq, decide_eq_false_iff_not] at qh5
 refine WC.exit (hK2 _ _ (WC.r1 hs3 [] rfl (WC.ret (rtv rfl rfl hs3 ?_))))
 rw [findI_none (F := encRowR) (fun j hj => p1 j (by rw [f_s.len] at hj; omega))]
theorem k93_ (A_s : Option Addr) (n_s c_s : Nat) (s : List RowR) (w : World) (f_s : SlN encRowR (okRowR 549755813888) w A_s n_s s) (hn : n_s ≤ 549755813888) :
    Calls Tryz.prog 272 #[.slice A_s n_s c_s, .func (.func 273) #[] #[]] w fun e w' => e = .returned (.bool (decide (0 ≤ findI (fun r => !rowOk r.dat) s))) ∧ St w [] [] w' := by
 refine enter 9 Tryz.func272 rfl Tryz.ntmps272 rfl rfl ?_
 have hs1 := St.init w
 refine WC.r1 hs1 [] rfl (WC.sr (WL.r 2 hs1 [] rfl (WL.cl Tryz.call295 rfl (k92_ _ _ _ _ _ (SlN.st0 okRowR.st0 f_s hs1) ?_) ?_)))
 · first | assumption | rfl | omega
 rintro _ whs2 ⟨rfl, hs2⟩
 replace hs2 := hs1.call0 hs2
 refine ⟨_, rfl, WL.r 2 hs2 [] rfl (WL.nil (WC.ret (rtv rfl rfl hs2 ?_)))⟩
 rfl
theorem k94_ (A_b : Option Addr) (n_b c_b : Nat) (b : List RowR) (l : Int) (w : World) (f_b : SlN encRowR (okRowR 549755813888) w A_b n_b b) (hn : n_b ≤ 549755813888) :
    Calls Tryz.prog 235 #[.slice A_b n_b c_b, i64 l] w fun e w' => e = .returned (.bool (backOk (b.map RowR.dat) l)) ∧ St w [] [] w' := by
 refine enter 14 Tryz.func235 rfl Tryz.ntmps235 rfl rfl ?_
 have hs1 := St.init w
 refine WC.r1 hs1 [] rfl (WC.sr (WL.r 5 hs1 [] rfl ?_))
 apply WL.gA 3 Acts.nil hs1 rfl
 ·intro g2 J3
  have qg2 := g2
  try simp only [bf, within_iff, within_not] at qg2
  refine WL.runA tbk 1 (Acts.nil.cons (j := 4) rfl g2) hs1 [] rfl trivial (WL.call (wantT rfl g2) rfl rfl (Run.call Tryz.call272 rfl rfl rfl) (k93_ _ _ _ _ _ (SlN.st0 okRowR.st0 f_b hs1) ?_) ?_)
  · first | assumption | rfl | omega
  rintro _ whs4 ⟨rfl, hs4⟩
  replace hs4 := hs1.call0 hs4
  refine ⟨_, rfl, WL.runA tbk 1 (Acts.nil.cons (j := 4) rfl g2) hs4 [] rfl trivial (WL.eA 3 Acts.nil J3 hs4 g2 rfl rfl)⟩
 intro _ hs5
 refine WL.r 1 hs5 [] rfl (WL.nil (WC.ret (rtv rfl rfl hs5 ?_)))
 unfold backOk; rw [List.length_map, f_b.len, List.all_map, ← all_find]; rfl
set_option maxHeartbeats 4000000 in
theorem k95_ (s : ScrR) (w : World) (f_s : okScrR 549755813888 w s) :
    Calls Tryz.prog 195 #[.agg (cScr s).toArray] w fun e w' => e = .returned (.bool (scrOk s.dat)) ∧ St w [] [] w' := by
 have nb_s_Main_Cells := f_s.Main.Cells_n
 have nl_s_Main_Cells := f_s.Main.Cells.len
 have nb_s_Alt_Cells := f_s.Alt.Cells_n
 have nl_s_Alt_Cells := f_s.Alt.Cells.len
 have nb_s_Tabs := f_s.Tabs_n
 have nl_s_Tabs := f_s.Tabs.len
 have nb_s_Back := f_s.Back_n
 have nl_s_Back := f_s.Back.sl.len
 have hlit : ∀ y, y ∈ [s.Main, s.Alt] → okGridR 549755813888 w y := by intro y hy; simp only [List.mem_cons, List.not_mem_nil, or_false] at hy; rcases hy with rfl | rfl; exact f_s.Main; exact f_s.Alt
 refine enter 122 Tryz.func195 rfl Tryz.ntmps195 rfl rfl ?_
 have hs1 := St.init w
 refine WC.sr (WL.bx hs1 rfl (fun b2 _ hs3 => WL.r 1 hs3 [] rfl (WL.nil (WC.seq (fun K4 hK4 => WC.sr (WL.r 4 hs3 [0, 0] rfl (WL.buildF (F := encGridR) hs3 ([s.Main, s.Alt]) Tryz.runUnderlying244 Tryz.sizeOf76 Tryz.zeroValue76 rfl rfl rfl rfl rfl rfl rfl rfl rfl rfl rfl rfl (fun A8 c9 L5 whs6 hs6 ho7 => ?_))))))))
 replace hs6 := St.back [_] hs6
 refine WL.r 2 hs6 [] rfl (WL.nil (WC.block (WC.lS [1, 9, 10] rfl hs6 (fun k_ f w' => ∃ (i : Nat), k_ = 2 - i ∧ (i ≤ 2) ∧ (∀ j, j < i → gridFit (GridR.dat (gat encGridR [s.Main, s.Alt] j)) s.W s.H = true) ∧ Sub [(11, .int .i64 i)] f) ((fun (i : Nat) => 2 - i) (0)) ?_ ?_)))
 ·refine ⟨0, rfl, ?_, ?_, ⟨rfl, trivial⟩⟩
  · omega
  · exact fun j hj => absurd hj (by omega)
 clear hs6
 rintro _ f w ⟨i, rfl, p0, p1, hG⟩ hF hs10
 refine WC.sub _ (hG.app hF) ?_
 clear hG hF
 refine WC.r1 hs10 [] rfl (WC.seq (fun K11 hK11 => ?_))
 refine WC.cq rfl (fun h12 qh12 => ?_) (fun h12 qh12 => ?_)
 ·have hi2 : i < 2 := by have h8 := h12; simp at h8; omega
  refine WC.skip (hK11 _ _ (WC.seq (fun K13 hK13 => WC.block (WC.sr ?_))))
  refine WL.val rfl rfl rfl (Run.idxN Tryz.runUnderlying244 Tryz.sizeOf76 rfl rfl rfl ?_ ?_ ?_) ?_
  · exact SlF.some_ (SlF.ofOwn ho7 (hs10.ow L5))
  · first | omega | (simp; omega)
  · first | omega | (simp; omega)
  refine WL.val rfl rfl rfl (Run.loadA Tryz.isAgg76 Tryz.sizeOf76 rfl rfl (SlF.whole (SlF.ofOwn ho7 (hs10.ow L5)) ?_)) ?_
  · first | omega | (simp; omega)
  refine WL.al hs10 Tryz.zeroValue76 rfl rfl (fun b14 _ hs15 => WL.st tbk hs15 0 rfl rfl (fun _ hs16 => WL.nil (WC.sr (WL.r 1 hs16 [0] rfl ?_))))
  refine WL.cl Tryz.call231 rfl (k88_ (gat encGridR [s.Main, s.Alt] i) _ (okGridR.st0 (hlit _ (gat_mem (by first | omega | (simp; omega)))) hs16)) ?_
  rintro _ whs17 ⟨rfl, hs17⟩
  replace hs17 := hs16.call0 hs17
  refine ⟨_, rfl, WL.r 2 hs17 [] rfl (WL.pO tbk 5 Acts.nil hs17 [0, 1] rfl rfl rfl rfl (fun g_ => ⟨rfl, rfl, trivial⟩) (WL.r 1 hs17 [] rfl (WL.pO tbk 5 Acts.nil hs17 [0, 1] rfl rfl rfl rfl (fun g_ => ⟨rfl, rfl, trivial⟩) (WL.nil (WC.cq rfl (fun h18 qh18 => ?_) (fun h18 qh18 => ?_))))))⟩
  ·have ha : gridFit (GridR.dat (gat encGridR [s.Main, s.Alt] i)) s.W s.H = false := by unfold gridFit; have h9 := h18; show (gridOk (GridR.dat (gat encGridR [s.Main, s.Alt] i)) && (decide ((gat encGridR [s.Main, s.Alt] i).W = s.W) && decide ((gat encGridR [s.Main, s.Alt] i).H = s.H))) = false; revert h9; cases gridOk (GridR.dat (gat encGridR [s.Main, s.Alt] i)) <;> cases decide ((gat encGridR [s.Main, s.Alt] i).W = s.W) <;> cases decide ((gat encGridR [s.Main, s.Alt] i).H = s.H) <;> simp
   have hp1 : scrP1 s.dat = false := by unfold scrP1; rcases (show i = 0 ∨ i = 1 by omega) with rfl | rfl; (rw [show gridFit s.dat.Main s.dat.W s.dat.H = false from ha]; rfl); (rw [show gridFit s.dat.Alt s.dat.W s.dat.H = false from ha, Bool.and_false])
   refine WC.r1 hs17 [] rfl (WC.ret (ibR (tkR (tkR (ibR (tkR ?_))))))
   clear hK13 hK4
   refine rtv rfl rfl hs17 ?_
   rw [scrOk_no (.inl hp1)]
  have ha : gridFit (GridR.dat (gat encGridR [s.Main, s.Alt] i)) s.W s.H = true := by unfold gridFit; have h9 := h18; show (gridOk (GridR.dat (gat encGridR [s.Main, s.Alt] i)) && (decide ((gat encGridR [s.Main, s.Alt] i).W = s.W) && decide ((gat encGridR [s.Main, s.Alt] i).H = s.H))) = true; revert h9; cases gridOk (GridR.dat (gat encGridR [s.Main, s.Alt] i)) <;> cases decide ((gat encGridR [s.Main, s.Alt] i).W = s.W) <;> cases decide ((gat encGridR [s.Main, s.Alt] i).H = s.H) <;> simp
  refine WC.skip (hK13 _ _ (WC.region (WL.r 2 hs17 [] rfl (WL.nil (tkN ?_)))))
  refine ⟨sbF rfl, (hs17.drop (by repeat (first | exact List.Sublist.refl _ | exact List.sublist_append_left _ _ | exact List.Sublist.trans (List.sublist_append_left _ _) (List.sublist_append_left _ _) | apply List.Sublist.cons | refine List.Sublist.trans ?_ (sR _)))), _, ?_, i + 1, rfl, ?_, ?_, ⟨rfl, trivial⟩⟩
  · omega
  · omega
  · intro j hj; rcases Nat.lt_or_ge j i with h_ | h_
    · exact p1 j h_
    · obtain rfl : j = i := by omega
      exact ha
 have hi2 : ¬ i < 2 := by have h8 := h12; simp at h8; omega
 have hp1 : scrP1 s.dat = true := by unfold scrP1; rw [show gridFit s.dat.Main s.dat.W s.dat.H = true from p1 0 (by omega), show gridFit s.dat.Alt s.dat.W s.dat.H = true from p1 1 (by omega)]; rfl
 have hbn : (1 ≤ s.W ∧ s.W ≤ 120) ∧ (1 ≤ s.H ∧ s.H ≤ 120) ∧ s.Main.W = s.W ∧ s.Main.H = s.H ∧ s.Alt.W = s.W ∧ s.Alt.H = s.H := scrP1_bnd hp1
 refine WC.exit (hK4 _ _ (WC.seq (fun K19 hK19 => WC.sr (WL.r 6 hs10 [0, 0, 0] rfl ?_))))
 refine WL.cl Tryz.call232 rfl (k89_ s.Main _ _ _ (okGridR.st0 f_s.Main hs10) ?_ ?_) ?_
 iterate 2 first | assumption | rfl | omega
 rintro _ whs20 ⟨rfl, hs20⟩
 replace hs20 := hs10.call0 hs20
 refine ⟨_, rfl, WL.r 2 hs20 [] rfl ?_⟩
 apply WL.gO 8 Acts.nil hs20 rfl
 ·intro g21 J22
  have qg21 := g21
  try simp only [bf, within_iff, within_not] at qg21
  refine WL.runA tbk 6 (Acts.nil.cons (j := 8) rfl g21) hs20 [0, 0, 0] rfl ⟨rfl, rfl, rfl, trivial⟩ (WL.call (wantF rfl g21) rfl rfl (Run.call Tryz.call232 rfl rfl rfl) (k89_ s.Main _ _ _ (okGridR.st0 f_s.Main hs20) ?_ ?_) ?_)
  iterate 2 first | assumption | rfl | omega
  rintro _ whs23 ⟨rfl, hs23⟩
  replace hs23 := hs20.call0 hs23
  refine ⟨_, rfl, WL.runA tbk 1 (Acts.nil.cons (j := 8) rfl g21) hs23 [] rfl trivial (WL.eO 8 Acts.nil J22 hs23 g21 rfl rfl)⟩
 intro _ hs24
 refine WL.r 1 hs24 [] rfl ?_
 apply WL.gO 10 Acts.nil hs24 rfl
 ·intro g25 J26
  have qg25 := g25
  try simp only [bf, within_iff, within_not] at qg25
  refine WL.runA tbk 3 (Acts.nil.cons (j := 18) rfl g25) hs24 [0] rfl ⟨rfl, trivial⟩ ?_
  refine WL.pA tbk 6 (Acts.nil.cons (j := 18) rfl g25) hs24 [0, 0] rfl rfl rfl rfl (fun g_ => by (try simp only [bf, within_iff, within_not] at g_); exact ⟨by omega, rfl, rfl, trivial⟩) (WL.eO 4 Acts.nil J26 hs24 g25 rfl rfl)
 intro _ hs27
 refine WL.r 1 hs27 [] rfl ?_
 apply WL.gO 4 Acts.nil hs27 rfl
 ·intro g28 J29
  have qg28 := g28
  try simp only [bf, within_iff, within_not] at qg28
  refine WL.runA tbk 2 (Acts.nil.cons (j := 30) rfl g28) hs27 [0] rfl ⟨rfl, trivial⟩ (WL.call (wantF rfl g28) rfl rfl (Run.call Tryz.call233 rfl rfl rfl) (k67_ _ _ _ _ _ _) ?_)
  rintro _ whs30 ⟨rfl, hs30⟩
  replace hs30 := hs27.call0 hs30
  refine ⟨_, rfl, WL.runA tbk 1 (Acts.nil.cons (j := 30) rfl g28) hs30 [] rfl trivial (WL.eO 4 Acts.nil J29 hs30 g28 rfl rfl)⟩
 intro _ hs31
 refine WL.r 1 hs31 [] rfl ?_
 apply WL.gO 4 Acts.nil hs31 rfl
 ·intro g32 J33
  have qg32 := g32
  try simp only [bf, within_iff, within_not] at qg32
  refine WL.runA tbk 2 (Acts.nil.cons (j := 36) rfl g32) hs31 [0] rfl ⟨rfl, trivial⟩ (WL.call (wantF rfl g32) rfl rfl (Run.call Tryz.call233 rfl rfl rfl) (k67_ _ _ _ _ _ _) ?_)
  rintro _ whs34 ⟨rfl, hs34⟩
  replace hs34 := hs31.call0 hs34
  refine ⟨_, rfl, WL.runA tbk 1 (Acts.nil.cons (j := 36) rfl g32) hs34 [] rfl trivial (WL.eO 4 Acts.nil J33 hs34 g32 rfl rfl)⟩
 intro _ hs35
 refine WL.nil (WC.cq rfl (fun h36 qh36 => ?_) (fun h36 qh36 => ?_))
 ·have hp2 : scrP2 s.dat = false := by have h9 := h36; unfold scrP2; show (((gridHas s.Main.dat s.X s.Y && gridHas s.Main.dat s.SaveX s.SaveY) && ((!s.Wrap || decide (s.X = s.W - 1)) && (attrOk s.A.Fg s.A.Bg && attrOk s.SaveA.Fg s.SaveA.Bg)))) = false; revert h9; cases gridHas s.Main.dat s.X s.Y <;> cases gridHas s.Main.dat s.SaveX s.SaveY <;> cases s.Wrap <;> cases decide (s.X = s.W - 1) <;> cases attrOk s.A.Fg s.A.Bg <;> cases attrOk s.SaveA.Fg s.SaveA.Bg <;> simp
  refine WC.r1 hs35 [] rfl (WC.ret (tkR ?_))
  clear hK19
  refine rtv rfl rfl hs35 ?_
  rw [scrOk_no (.inr (.inl hp2))]
 have hp2 : scrP2 s.dat = true := by have h9 := h36; unfold scrP2; show (((gridHas s.Main.dat s.X s.Y && gridHas s.Main.dat s.SaveX s.SaveY) && ((!s.Wrap || decide (s.X = s.W - 1)) && (attrOk s.A.Fg s.A.Bg && attrOk s.SaveA.Fg s.SaveA.Bg)))) = true; revert h9; cases gridHas s.Main.dat s.X s.Y <;> cases gridHas s.Main.dat s.SaveX s.SaveY <;> cases s.Wrap <;> cases decide (s.X = s.W - 1) <;> cases attrOk s.A.Fg s.A.Bg <;> cases attrOk s.SaveA.Fg s.SaveA.Bg <;> simp
 refine WC.skip (hK19 _ _ (WC.seq (fun K37 hK37 => WC.sr (WL.r 4 hs35 [0] rfl (WL.pO tbk 5 Acts.nil hs35 [0, 0] rfl rfl rfl rfl (fun g_ => ⟨rfl, rfl, trivial⟩) (WL.r 1 hs35 [] rfl (WL.pO tbk 5 Acts.nil hs35 [0, 0] rfl rfl rfl rfl (fun g_ => ⟨rfl, rfl, trivial⟩) ?_)))))))
 refine WL.r 1 hs35 [] rfl ?_
 apply WL.gO 10 Acts.nil hs35 rfl
 ·intro g38 J39
  have qg38 := g38
  try simp only [bf, within_iff, within_not] at qg38
  refine WL.runA tbk 6 (Acts.nil.cons (j := 17) rfl g38) hs35 [0, 0] rfl ⟨rfl, rfl, trivial⟩ (WL.pA tbk 3 (Acts.nil.cons (j := 17) rfl g38) hs35 [0] rfl rfl rfl rfl (fun g_ => ⟨rfl, trivial⟩) (WL.eO 7 Acts.nil J39 hs35 g38 rfl rfl))
 intro _ hs40
 refine WL.nil (WC.cq rfl (fun h41 qh41 => ?_) (fun h41 qh41 => ?_))
 ·have hp3 : scrP3 s.dat = false := by have h9 := h41; unfold scrP3; show ((decide (0 ≤ s.Top) && decide (s.Top ≤ s.Bot)) && (decide (s.Bot < s.H) && (!decide (s.Top = s.Bot) || decide (s.H = 1)))) = false; simp at h9 ⊢; omega
  refine WC.r1 hs40 [] rfl (WC.ret (tkR ?_))
  clear hK37
  refine rtv rfl rfl hs40 ?_
  rw [scrOk_no (.inr (.inr (.inl hp3)))]
 have hp3 : scrP3 s.dat = true := by have h9 := h41; unfold scrP3; show ((decide (0 ≤ s.Top) && decide (s.Top ≤ s.Bot)) && (decide (s.Bot < s.H) && (!decide (s.Top = s.Bot) || decide (s.H = 1)))) = true; simp at h9 ⊢; omega
 refine WC.skip (hK37 _ _ (WC.sr (WL.r 5 hs40 [0, 0] rfl ?_)))
 refine WL.cl Tryz.call234 rfl (k90_ _ _ _ _ _ _ _ (SlF.st0 f_s.Tabs hs40) ?_) ?_
 · first | assumption | rfl | omega
 rintro _ whs42 ⟨rfl, hs42⟩
 replace hs42 := hs40.call0 hs42
 refine ⟨_, rfl, WL.r 1 hs42 [] rfl ?_⟩
 apply WL.gA 3 Acts.nil hs42 rfl
 ·intro g43 J44
  have qg43 := g43
  try simp only [bf, within_iff, within_not] at qg43
  refine WL.runA tbk 2 (Acts.nil.cons (j := 6) rfl g43) hs42 [0] rfl ⟨rfl, trivial⟩ (WL.call (wantT rfl g43) rfl rfl (Run.call Tryz.call58 rfl rfl rfl) (k0_ _ _ _ _) ?_)
  rintro _ whs45 ⟨rfl, hs45⟩
  replace hs45 := hs42.call0 hs45
  refine ⟨_, rfl, WL.eA 3 Acts.nil J44 hs45 g43 rfl rfl⟩
 intro _ hs46
 refine WL.r 1 hs46 [] rfl ?_
 apply WL.gA 5 Acts.nil hs46 rfl
 ·intro g47 J48
  have qg47 := g47
  try simp only [bf, within_iff, within_not] at qg47
  refine WL.runA tbk 4 (Acts.nil.cons (j := 11) rfl g47) hs46 [0, 0] rfl ⟨rfl, rfl, trivial⟩ (WL.call (wantT rfl g47) rfl rfl (Run.call Tryz.call235 rfl rfl rfl) (k94_ _ _ _ _ _ _ (SlN.st0 okRowR.st0 f_s.Back hs46) ?_) ?_)
  · first | assumption | rfl | omega
  rintro _ whs49 ⟨rfl, hs49⟩
  replace hs49 := hs46.call0 hs49
  refine ⟨_, rfl, WL.eA 5 Acts.nil J48 hs49 g47 rfl rfl⟩
 intro _ hs50
 refine WL.r 1 hs50 [] rfl (WL.nil (WC.ret (rtv rfl rfl hs50 ?_)))
 rw [scrOk_yes hp1 hp2 hp3]; rfl
theorem k96_ (t : TermR) (w : World) (f_t : okTermR 549755813888 w t) :
    Calls Tryz.prog 150 #[.agg #[i64 t.P.State, .bool t.P.Mark, .slice t.P.Args.A t.P.Args.n t.P.Args.c, .slice t.P.Part.A t.P.Part.n t.P.Part.c, i64 t.S.W, i64 t.S.H, i64 t.S.Main.W, i64 t.S.Main.H, .slice t.S.Main.Cells.A t.S.Main.Cells.n t.S.Main.Cells.c, i64 t.S.Alt.W, i64 t.S.Alt.H, .slice t.S.Alt.Cells.A t.S.Alt.Cells.n t.S.Alt.Cells.c, .bool t.S.OnAlt, i64 t.S.X, i64 t.S.Y, .bool t.S.Wrap, i64 t.S.A.Fg, i64 t.S.A.Bg, .bool t.S.A.Bold, .bool t.S.A.Under, .bool t.S.A.Turn, i64 t.S.Top, i64 t.S.Bot, .bool t.S.NoWrap, .bool t.S.Hide, i64 t.S.SaveX, i64 t.S.SaveY, i64 t.S.SaveA.Fg, i64 t.S.SaveA.Bg, .bool t.S.SaveA.Bold, .bool t.S.SaveA.Under, .bool t.S.SaveA.Turn, .slice t.S.Tabs.A t.S.Tabs.n t.S.Tabs.c, i64 t.S.Limit, .slice t.S.Back.A t.S.Back.n t.S.Back.c]] w fun e w' => e = .returned (.bool (termOk t.dat)) ∧ St w [] [] w' := by
 have nb_t_P_Args := f_t.P.Args_n
 have nl_t_P_Args := f_t.P.Args.len
 have nb_t_P_Part := f_t.P.Part_n
 have nl_t_P_Part := f_t.P.Part.len
 have nb_t_S_Main_Cells := f_t.S.Main.Cells_n
 have nl_t_S_Main_Cells := f_t.S.Main.Cells.len
 have nb_t_S_Alt_Cells := f_t.S.Alt.Cells_n
 have nl_t_S_Alt_Cells := f_t.S.Alt.Cells.len
 have nb_t_S_Tabs := f_t.S.Tabs_n
 have nl_t_S_Tabs := f_t.S.Tabs.len
 have nb_t_S_Back := f_t.S.Back_n
 have nl_t_S_Back := f_t.S.Back.sl.len
 refine enter 11 Tryz.func150 rfl Tryz.ntmps150 rfl rfl ?_
 have hs1 := St.init w
 refine WC.sr (WL.bx hs1 rfl (fun b2 _ hs3 => WL.r 1 hs3 [] rfl (WL.nil (WC.sr (WL.r 2 hs3 [0] rfl (WL.cl Tryz.call194 rfl (k85_ t.P _ (okVpR.st0 f_t.P hs3)) ?_))))))
 rintro _ whs4 ⟨rfl, hs4⟩
 replace hs4 := hs3.call0 hs4
 refine ⟨_, rfl, WL.r 1 hs4 [] rfl ?_⟩
 apply WL.gA 3 Acts.nil hs4 rfl
 ·intro g5 J6
  have qg5 := g5
  try simp only [bf, within_iff, within_not] at qg5
  refine WL.runA tbk 2 (Acts.nil.cons (j := 3) rfl g5) hs4 [0] rfl ⟨rfl, trivial⟩ (WL.call (wantT rfl g5) rfl rfl (Run.call Tryz.call195 rfl rfl rfl) (k95_ t.S _ (okScrR.st0 f_t.S hs4)) ?_)
  rintro _ whs7 ⟨rfl, hs7⟩
  replace hs7 := hs4.call0 hs7
  refine ⟨_, rfl, WL.eA 3 Acts.nil J6 hs7 g5 rfl rfl⟩
 intro _ hs8
 refine WL.r 1 hs8 [] rfl (WL.nil (WC.ret (rtv rfl rfl hs8 ?_)))
 rfl
theorem k97_ (g : GridR) (w : World) (f_g : okGridR 549755813888 w g) :
    Calls Tryz.prog 219 #[.agg #[i64 g.W, i64 g.H, .slice g.Cells.A g.Cells.n g.Cells.c]] w fun e w' => e = .returned (.bool (gridOk g.dat)) ∧ St w [] [] w' := by
 have nb_g_Cells := f_g.Cells_n
 have nl_g_Cells := f_g.Cells.len
 refine enter 53 Tryz.func219 rfl Tryz.ntmps219 rfl rfl ?_
 have hs1 := St.init w
 refine WC.sr (WL.bx hs1 rfl (fun b2 _ hs3 => WL.r 1 hs3 [] rfl (WL.nil (WC.seq (fun K4 hK4 => WC.sr (WL.r 4 hs3 [0] rfl (WL.pO tbk 3 Acts.nil hs3 [0] rfl rfl rfl rfl (fun g_ => ⟨rfl, trivial⟩) ?_)))))))
 refine WL.r 1 hs3 [] rfl (WL.pO tbk 3 Acts.nil hs3 [0] rfl rfl rfl rfl (fun g_ => ⟨rfl, trivial⟩) (WL.r 1 hs3 [] rfl (WL.pO tbk 3 Acts.nil hs3 [0] rfl rfl rfl rfl (fun g_ => ⟨rfl, trivial⟩) (WL.r 1 hs3 [] rfl ?_))))
 apply WL.gO 6 Acts.nil hs3 rfl
 ·intro g5 J6
  have qg5 := g5
  try simp only [bf, within_iff, within_not] at qg5
  refine WL.runA tbk 6 (Acts.nil.cons (j := 18) rfl g5) hs3 [0, 0] rfl ⟨?_, rfl, rfl, trivial⟩ ?_
  · (have h9 := mul_size (w := g.W) (h := g.H) (by omega) (by omega); constructor <;> omega)
  exact WL.eO 6 Acts.nil J6 hs3 g5 rfl rfl
 intro _ hs7
 refine WL.r 1 hs7 [] rfl ?_
 apply WL.gO 9 Acts.nil hs7 rfl
 ·intro g8 J9
  have qg8 := g8
  try simp only [bf, within_iff, within_not] at qg8
  refine WL.runA tbk 9 (Acts.nil.cons (j := 26) rfl g8) hs7 [0, 0, 0] rfl ⟨?_, rfl, rfl, rfl, trivial⟩ ?_
  · (have h9 := mul_size (w := g.W) (h := g.H) (by omega) (by omega); constructor <;> omega)
  exact WL.eO 9 Acts.nil J9 hs7 g8 rfl rfl
 intro _ hs10
 refine WL.nil (WC.cq rfl (fun h11 qh11 => ?_) (fun h11 qh11 => ?_))
 ·have hg : gridOk g.dat = false := by rw [← Bool.not_eq_true]; intro h8; have hb : (1 ≤ g.W ∧ g.W ≤ 120) ∧ (1 ≤ g.H ∧ g.H ≤ 120) ∧ 1 ≤ g.W * g.H ∧ g.W * g.H ≤ 4000 := gridOk_bnd h8; unfold gridOk at h8; rw [Bool.and_eq_true, Bool.and_eq_true, decide_eq_true_eq] at h8; have h7 : (g.Cells.xs.length : Int) = g.W * g.H := h8.1.2; have h9 := h11; simp at h9; omega
  refine WC.r1 hs10 [] rfl (WC.ret (tkR ?_))
  clear hK4
  refine rtv rfl rfl hs10 ?_
  rw [hg]
 have hs : isSize g.W g.H = true ∧ (g.Cells.n : Int) = g.W * g.H := by rw [isSize_iff]; have h9 := h11; simp at h9; omega
 refine WC.skip (hK4 _ _ (WC.seq (fun K12 hK12 => WC.r1 hs10 [0] rfl (WC.block ?_))))
 refine WC.lS [41, 43, 44] rfl hs10 (fun k_ f w' => ∃ (i : Nat), k_ = g.Cells.n - i ∧ (i ≤ g.Cells.n) ∧ (∀ j, j < i → cellOk (gat encCell g.Cells.xs j) = true) ∧ Sub [(45, .int .i64 i)] f) ((fun (i : Nat) => g.Cells.n - i) (0)) ?_ ?_
 ·refine ⟨0, rfl, ?_, ?_, ⟨rfl, trivial⟩⟩
  · exact Nat.zero_le _
  · exact fun j hj => absurd hj (by omega)
 clear hs10
 rintro _ f w ⟨i, rfl, p0, p1, hG⟩ hF hs13
 refine WC.sub _ (hG.app hF) ?_
 clear hG hF
 refine WC.r1 hs13 [] rfl (WC.seq (fun K14 hK14 => ?_))
 refine WC.cq rfl (fun h15 qh15 => ?_) (fun h15 qh15 => ?_)
 ·refine WC.skip (hK14 _ _ (WC.seq (fun K16 hK16 => WC.block (WC.sr ?_))))
  refine WL.val rfl rfl rfl (Run.idxN Tryz.runUnderlying74 Tryz.sizeOf164 rfl rfl rfl ?_ ?_ ?_) ?_
  · exact SlF.some_ (SlF.st0 f_g.Cells hs13)
  · omega
  · omega
  refine WL.val rfl rfl rfl (Run.loadA Tryz.isAgg164 Tryz.sizeOf164 rfl rfl (SlF.whole (SlF.st0 f_g.Cells hs13) ?_)) ?_
  · omega
  refine WL.al hs13 Tryz.zeroValue164 rfl rfl (fun b17 _ hs18 => WL.st tbk hs18 0 rfl rfl (fun _ hs19 => WL.nil (WC.sr (WL.r 1 hs19 [0] rfl (WL.cl Tryz.call185 rfl (k70_ _ _ _ _ _ _ _) ?_)))))
  rintro _ whs20 ⟨rfl, hs20⟩
  replace hs20 := hs19.call0 hs20
  refine ⟨_, rfl, WL.r 1 hs20 [] rfl (WL.nil (WC.cq rfl (fun h21 qh21 => ?_) (fun h21 qh21 => ?_)))⟩
  ·have hci : cellOk (gat encCell g.Cells.xs i) = false := by simpa using h21
   refine WC.r1 hs20 [] rfl (WC.ret (ibR (tkR (tkR (ibR (tkR ?_))))))
   clear hK16 hK12
   refine rtv rfl rfl hs20 ?_
   rw [show gridOk g.dat = false from by unfold gridOk; rw [show cellsOk g.dat.Cells = false from cellsOk_not (i := i) (by show i < g.Cells.xs.length; omega) hci, Bool.and_false]]
  have hci : cellOk (gat encCell g.Cells.xs i) = true := by simpa using h21
  refine WC.skip (hK16 _ _ (WC.region (WL.r 2 hs20 [] rfl (WL.nil (tkN ?_)))))
  refine ⟨sbF rfl, (hs20.drop (by repeat (first | exact List.Sublist.refl _ | exact List.sublist_append_left _ _ | exact List.Sublist.trans (List.sublist_append_left _ _) (List.sublist_append_left _ _) | apply List.Sublist.cons | refine List.Sublist.trans ?_ (sR _)))), _, ?_, i + 1, rfl, ?_, ?_, ⟨rfl, trivial⟩⟩
  · omega
  · omega
  · intro j hj; rcases Nat.lt_or_ge j i with h_ | h_
    · exact p1 j h_
    · obtain rfl : j = i := by omega
      exact hci
 refine WC.exit (hK12 _ _ (WC.r1 hs13 [] rfl (WC.ret (rtv rfl rfl hs13 ?_))))
 rw [show gridOk g.dat = true from by unfold gridOk; rw [show cellsOk g.dat.Cells = true from cellsOk_all (fun j hj => p1 j (by have : j < g.Cells.xs.length := hj; omega)), show isSize g.dat.W g.dat.H = true from hs.1, decide_eq_true (show (g.dat.Cells.length : Int) = g.dat.W * g.dat.H from by show (g.Cells.xs.length : Int) = g.W * g.H; rw [nl_g_Cells]; exact hs.2)]; rfl]
theorem k98_ (r : RowR) (w : World) (f_r : okRowR 549755813888 w r) :
    Calls Tryz.prog 220 #[.agg #[.slice r.Cells.A r.Cells.n r.Cells.c]] w fun e w' => e = .returned (.bool (rowOk r.dat)) ∧ St w [] [] w' := by
 have nb_r_Cells := f_r.Cells_n
 have nl_r_Cells := f_r.Cells.len
 refine enter 26 Tryz.func220 rfl Tryz.ntmps220 rfl rfl ?_
 have hs1 := St.init w
 refine WC.sr (WL.bx hs1 rfl (fun b2 _ hs3 => WL.r 1 hs3 [] rfl (WL.nil (WC.seq (fun K4 hK4 => WC.r1 hs3 [0] rfl (WC.block ?_))))))
 refine WC.lS [1, 6, 7] rfl hs3 (fun k_ f w' => ∃ (i : Nat), k_ = r.Cells.n - i ∧ (i ≤ r.Cells.n) ∧ (∀ j, j < i → cellOk (gat encCell r.Cells.xs j) = true) ∧ Sub [(8, .int .i64 i)] f) ((fun (i : Nat) => r.Cells.n - i) (0)) ?_ ?_
 ·refine ⟨0, rfl, ?_, ?_, ⟨rfl, trivial⟩⟩
  · exact Nat.zero_le _
  · exact fun j hj => absurd hj (by omega)
 clear hs3
 rintro _ f w ⟨i, rfl, p0, p1, hG⟩ hF hs5
 refine WC.sub _ (hG.app hF) ?_
 clear hG hF
 refine WC.r1 hs5 [] rfl (WC.seq (fun K6 hK6 => ?_))
 refine WC.cq rfl (fun h7 qh7 => ?_) (fun h7 qh7 => ?_)
 ·refine WC.skip (hK6 _ _ (WC.seq (fun K8 hK8 => WC.block (WC.sr ?_))))
  refine WL.val rfl rfl rfl (Run.idxN Tryz.runUnderlying74 Tryz.sizeOf164 rfl rfl rfl ?_ ?_ ?_) ?_
  · exact SlF.some_ (SlF.st0 f_r.Cells hs5)
  · omega
  · omega
  refine WL.val rfl rfl rfl (Run.loadA Tryz.isAgg164 Tryz.sizeOf164 rfl rfl (SlF.whole (SlF.st0 f_r.Cells hs5) ?_)) ?_
  · omega
  refine WL.al hs5 Tryz.zeroValue164 rfl rfl (fun b9 _ hs10 => WL.st tbk hs10 0 rfl rfl (fun _ hs11 => WL.nil (WC.sr (WL.r 1 hs11 [0] rfl (WL.cl Tryz.call185 rfl (k70_ _ _ _ _ _ _ _) ?_)))))
  rintro _ whs12 ⟨rfl, hs12⟩
  replace hs12 := hs11.call0 hs12
  refine ⟨_, rfl, WL.r 1 hs12 [] rfl (WL.nil (WC.cq rfl (fun h13 qh13 => ?_) (fun h13 qh13 => ?_)))⟩
  ·have hci : cellOk (gat encCell r.Cells.xs i) = false := by simpa using h13
   refine WC.r1 hs12 [] rfl (WC.ret (ibR (tkR (tkR (ibR (tkR ?_))))))
   clear hK8 hK4
   refine rtv rfl rfl hs12 ?_
   rw [show rowOk r.dat = false from by unfold rowOk; rw [show cellsOk r.dat.Cells = false from cellsOk_not (i := i) (by show i < r.Cells.xs.length; omega) hci, Bool.and_false]]
  have hci : cellOk (gat encCell r.Cells.xs i) = true := by simpa using h13
  refine WC.skip (hK8 _ _ (WC.region (WL.r 2 hs12 [] rfl (WL.nil (tkN ?_)))))
  refine ⟨sbF rfl, (hs12.drop (by repeat (first | exact List.Sublist.refl _ | exact List.sublist_append_left _ _ | exact List.Sublist.trans (List.sublist_append_left _ _) (List.sublist_append_left _ _) | apply List.Sublist.cons | refine List.Sublist.trans ?_ (sR _)))), _, ?_, i + 1, rfl, ?_, ?_, ⟨rfl, trivial⟩⟩
  · omega
  · omega
  · intro j hj; rcases Nat.lt_or_ge j i with h_ | h_
    · exact p1 j h_
    · obtain rfl : j = i := by omega
      exact hci
 refine WC.exit (hK4 _ _ (WC.sr (WL.r 5 hs5 [0] rfl (WL.pA tbk 4 Acts.nil hs5 [0] rfl rfl rfl rfl (fun g_ => ⟨rfl, trivial⟩) (WL.r 1 hs5 [] rfl (WL.nil (WC.ret ?_)))))))
 refine rtv rfl rfl hs5 ?_
 rw [show rowOk r.dat = within (r.Cells.n : Int) 1 120 from by unfold rowOk; rw [show cellsOk r.dat.Cells = true from cellsOk_all (fun j hj => p1 j (by have : j < r.Cells.xs.length := hj; omega)), Bool.and_true, ← nl_r_Cells]; rfl]; rfl
set_option maxHeartbeats 4000000 in
theorem k99_ (s : ScrR) (w : World) (f_s : okScrR 549755813888 w s) :
    Calls Tryz.prog 183 #[.agg (cScr s).toArray] w fun e w' => e = .returned (.bool (scrOk s.dat)) ∧ St w [] [] w' := by
 have nb_s_Main_Cells := f_s.Main.Cells_n
 have nl_s_Main_Cells := f_s.Main.Cells.len
 have nb_s_Alt_Cells := f_s.Alt.Cells_n
 have nl_s_Alt_Cells := f_s.Alt.Cells.len
 have nb_s_Tabs := f_s.Tabs_n
 have nl_s_Tabs := f_s.Tabs.len
 have nb_s_Back := f_s.Back_n
 have nl_s_Back := f_s.Back.sl.len
 refine enter 208 Tryz.func183 rfl Tryz.ntmps183 rfl rfl ?_
 have hs1 := St.init w
 refine WC.sr (WL.bx hs1 rfl (fun b2 _ hs3 => WL.r 1 hs3 [] rfl (WL.nil (WC.seq (fun K4 hK4 => WC.sr (WL.r 2 hs3 [0] rfl (WL.cl Tryz.call219 rfl (k97_ s.Main _ (okGridR.st0 f_s.Main hs3)) ?_)))))))
 rintro _ whs5 ⟨rfl, hs5⟩
 replace hs5 := hs3.call0 hs5
 refine ⟨_, rfl, WL.r 2 hs5 [] rfl ?_⟩
 apply WL.gO 4 Acts.nil hs5 rfl
 ·intro g6 J7
  have qg6 := g6
  try simp only [bf, within_iff, within_not] at qg6
  refine WL.runA tbk 2 (Acts.nil.cons (j := 4) rfl g6) hs5 [0] rfl ⟨rfl, trivial⟩ (WL.call (wantF rfl g6) rfl rfl (Run.call Tryz.call219 rfl rfl rfl) (k97_ s.Alt _ (okGridR.st0 f_s.Alt hs5)) ?_)
  rintro _ whs8 ⟨rfl, hs8⟩
  replace hs8 := hs5.call0 hs8
  refine ⟨_, rfl, WL.runA tbk 1 (Acts.nil.cons (j := 4) rfl g6) hs8 [] rfl trivial (WL.eO 4 Acts.nil J7 hs8 g6 rfl rfl)⟩
 intro _ hs9
 refine WL.r 1 hs9 [] rfl (WL.pO tbk 6 Acts.nil hs9 [0, 0] rfl rfl rfl rfl (fun g_ => ⟨rfl, rfl, trivial⟩) (WL.r 1 hs9 [] rfl (WL.pO tbk 6 Acts.nil hs9 [0, 0] rfl rfl rfl rfl (fun g_ => ⟨rfl, rfl, trivial⟩) (WL.r 1 hs9 [] rfl (WL.pO tbk 6 Acts.nil hs9 [0, 0] rfl rfl rfl rfl (fun g_ => ⟨rfl, rfl, trivial⟩) (WL.r 1 hs9 [] rfl (WL.pO tbk 6 Acts.nil hs9 [0, 0] rfl rfl rfl rfl (fun g_ => ⟨rfl, rfl, trivial⟩) ?_)))))))
 refine WL.nil (WC.cq rfl (fun h10 qh10 => ?_) (fun h10 qh10 => ?_))
 ·have hp1 : scrP1 s.dat = false := by have h9 := h10; unfold scrP1 gridFit; show ((gridOk s.Main.dat && (decide (s.Main.W = s.W) && decide (s.Main.H = s.H))) && (gridOk s.Alt.dat && (decide (s.Alt.W = s.W) && decide (s.Alt.H = s.H)))) = false; revert h9; cases gridOk s.Main.dat <;> cases gridOk s.Alt.dat <;> cases decide (s.Main.W = s.W) <;> cases decide (s.Main.H = s.H) <;> cases decide (s.Alt.W = s.W) <;> cases decide (s.Alt.H = s.H) <;> simp
  refine WC.r1 hs9 [] rfl (WC.ret (tkR ?_))
  clear hK4
  refine rtv rfl rfl hs9 ?_
  rw [scrOk_no (.inl hp1)]
 have hp1 : scrP1 s.dat = true := by have h9 := h10; unfold scrP1 gridFit; show ((gridOk s.Main.dat && (decide (s.Main.W = s.W) && decide (s.Main.H = s.H))) && (gridOk s.Alt.dat && (decide (s.Alt.W = s.W) && decide (s.Alt.H = s.H)))) = true; revert h9; cases gridOk s.Main.dat <;> cases gridOk s.Alt.dat <;> cases decide (s.Main.W = s.W) <;> cases decide (s.Main.H = s.H) <;> cases decide (s.Alt.W = s.W) <;> cases decide (s.Alt.H = s.H) <;> simp
 have hbn : (1 ≤ s.W ∧ s.W ≤ 120) ∧ (1 ≤ s.H ∧ s.H ≤ 120) ∧ s.Main.W = s.W ∧ s.Main.H = s.H ∧ s.Alt.W = s.W ∧ s.Alt.H = s.H := scrP1_bnd hp1
 refine WC.skip (hK4 _ _ (WC.seq (fun K11 hK11 => WC.sr (WL.r 4 hs9 [0] rfl (WL.pO tbk 5 Acts.nil hs9 [0, 0] rfl rfl rfl rfl (fun g_ => ⟨rfl, rfl, trivial⟩) (WL.r 1 hs9 [] rfl (WL.pO tbk 3 Acts.nil hs9 [0] rfl rfl rfl rfl (fun g_ => ⟨rfl, trivial⟩) ?_)))))))
 refine WL.r 1 hs9 [] rfl (WL.pO tbk 5 Acts.nil hs9 [0, 0] rfl rfl rfl rfl (fun g_ => ⟨rfl, rfl, trivial⟩) (WL.r 1 hs9 [] rfl ?_))
 apply WL.gO 10 Acts.nil hs9 rfl
 ·intro g12 J13
  have qg12 := g12
  try simp only [bf, within_iff, within_not] at qg12
  refine WL.runA tbk 3 (Acts.nil.cons (j := 22) rfl g12) hs9 [0] rfl ⟨rfl, trivial⟩ ?_
  refine WL.pA tbk 6 (Acts.nil.cons (j := 22) rfl g12) hs9 [0, 0] rfl rfl rfl rfl (fun g_ => by (try simp only [bf, within_iff, within_not] at g_); exact ⟨by omega, rfl, rfl, trivial⟩) (WL.eO 4 Acts.nil J13 hs9 g12 rfl rfl)
 intro _ hs14
 refine WL.r 1 hs14 [] rfl (WL.pO tbk 3 Acts.nil hs14 [0] rfl rfl rfl rfl (fun g_ => ⟨rfl, trivial⟩) (WL.r 1 hs14 [] rfl (WL.pO tbk 5 Acts.nil hs14 [0, 0] rfl rfl rfl rfl (fun g_ => ⟨rfl, rfl, trivial⟩) (WL.r 1 hs14 [] rfl (WL.pO tbk 3 Acts.nil hs14 [0] rfl rfl rfl rfl (fun g_ => ⟨rfl, trivial⟩) (WL.r 1 hs14 [] rfl (WL.pO tbk 5 Acts.nil hs14 [0, 0] rfl rfl rfl rfl (fun g_ => ⟨rfl, rfl, trivial⟩) ?_)))))))
 refine WL.r 1 hs14 [] rfl ?_
 apply WL.gO 4 Acts.nil hs14 rfl
 ·intro g15 J16
  have qg15 := g15
  try simp only [bf, within_iff, within_not] at qg15
  refine WL.runA tbk 2 (Acts.nil.cons (j := 58) rfl g15) hs14 [0] rfl ⟨rfl, trivial⟩ (WL.call (wantF rfl g15) rfl rfl (Run.call Tryz.call184 rfl rfl rfl) (k68_ _ _ _ _ _ _) ?_)
  rintro _ whs17 ⟨rfl, hs17⟩
  replace hs17 := hs14.call0 hs17
  refine ⟨_, rfl, WL.runA tbk 1 (Acts.nil.cons (j := 58) rfl g15) hs17 [] rfl trivial (WL.eO 4 Acts.nil J16 hs17 g15 rfl rfl)⟩
 intro _ hs18
 refine WL.r 1 hs18 [] rfl ?_
 apply WL.gO 4 Acts.nil hs18 rfl
 ·intro g19 J20
  have qg19 := g19
  try simp only [bf, within_iff, within_not] at qg19
  refine WL.runA tbk 2 (Acts.nil.cons (j := 64) rfl g19) hs18 [0] rfl ⟨rfl, trivial⟩ (WL.call (wantF rfl g19) rfl rfl (Run.call Tryz.call184 rfl rfl rfl) (k68_ _ _ _ _ _ _) ?_)
  rintro _ whs21 ⟨rfl, hs21⟩
  replace hs21 := hs18.call0 hs21
  refine ⟨_, rfl, WL.runA tbk 1 (Acts.nil.cons (j := 64) rfl g19) hs21 [] rfl trivial (WL.eO 4 Acts.nil J20 hs21 g19 rfl rfl)⟩
 intro _ hs22
 refine WL.nil (WC.cq rfl (fun h23 qh23 => ?_) (fun h23 qh23 => ?_))
 ·have hp2 : scrP2 s.dat = false := by have h9 := h23; unfold scrP2 gridHas within; show ((((decide (0 ≤ s.X) && decide (s.X ≤ s.Main.W - 1)) && (decide (0 ≤ s.Y) && decide (s.Y ≤ s.Main.H - 1))) && ((decide (0 ≤ s.SaveX) && decide (s.SaveX ≤ s.Main.W - 1)) && (decide (0 ≤ s.SaveY) && decide (s.SaveY ≤ s.Main.H - 1)))) && ((!s.Wrap || decide (s.X = s.W - 1)) && (attrOk s.A.Fg s.A.Bg && attrOk s.SaveA.Fg s.SaveA.Bg))) = false; revert h9; cases s.Wrap <;> cases attrOk s.A.Fg s.A.Bg <;> cases attrOk s.SaveA.Fg s.SaveA.Bg <;> intro h9 <;> simp at h9 ⊢ <;> omega
  refine WC.r1 hs22 [] rfl (WC.ret (tkR ?_))
  clear hK11
  refine rtv rfl rfl hs22 ?_
  rw [scrOk_no (.inr (.inl hp2))]
 have hp2 : scrP2 s.dat = true := by have h9 := h23; unfold scrP2 gridHas within; show ((((decide (0 ≤ s.X) && decide (s.X ≤ s.Main.W - 1)) && (decide (0 ≤ s.Y) && decide (s.Y ≤ s.Main.H - 1))) && ((decide (0 ≤ s.SaveX) && decide (s.SaveX ≤ s.Main.W - 1)) && (decide (0 ≤ s.SaveY) && decide (s.SaveY ≤ s.Main.H - 1)))) && ((!s.Wrap || decide (s.X = s.W - 1)) && (attrOk s.A.Fg s.A.Bg && attrOk s.SaveA.Fg s.SaveA.Bg))) = true; revert h9; cases s.Wrap <;> cases attrOk s.A.Fg s.A.Bg <;> cases attrOk s.SaveA.Fg s.SaveA.Bg <;> intro h9 <;> simp at h9 ⊢ <;> omega
 refine WC.skip (hK11 _ _ (WC.seq (fun K24 hK24 => WC.sr (WL.r 4 hs22 [0] rfl (WL.pO tbk 5 Acts.nil hs22 [0, 0] rfl rfl rfl rfl (fun g_ => ⟨rfl, rfl, trivial⟩) (WL.r 1 hs22 [] rfl (WL.pO tbk 5 Acts.nil hs22 [0, 0] rfl rfl rfl rfl (fun g_ => ⟨rfl, rfl, trivial⟩) ?_)))))))
 refine WL.r 1 hs22 [] rfl ?_
 apply WL.gO 10 Acts.nil hs22 rfl
 ·intro g25 J26
  have qg25 := g25
  try simp only [bf, within_iff, within_not] at qg25
  refine WL.runA tbk 6 (Acts.nil.cons (j := 17) rfl g25) hs22 [0, 0] rfl ⟨rfl, rfl, trivial⟩ (WL.pA tbk 3 (Acts.nil.cons (j := 17) rfl g25) hs22 [0] rfl rfl rfl rfl (fun g_ => ⟨rfl, trivial⟩) (WL.eO 7 Acts.nil J26 hs22 g25 rfl rfl))
 intro _ hs27
 refine WL.r 1 hs27 [] rfl (WL.pO tbk 3 Acts.nil hs27 [0] rfl rfl rfl rfl (fun g_ => ⟨rfl, trivial⟩) (WL.r 1 hs27 [] rfl (WL.pO tbk 3 Acts.nil hs27 [0] rfl rfl rfl rfl (fun g_ => ⟨rfl, trivial⟩) (WL.r 1 hs27 [] rfl (WL.pO tbk 6 Acts.nil hs27 [0, 0] rfl rfl rfl rfl (fun g_ => ⟨rfl, rfl, trivial⟩) (WL.nil (WC.cq rfl (fun h28 qh28 => ?_) (fun h28 qh28 => ?_))))))))
 ·have hp34 : scrP3 s.dat = false ∨ scrP4 s.dat = false := by have h9 := h28; unfold scrP3 scrP4 within; show ((decide (0 ≤ s.Top) && decide (s.Top ≤ s.Bot)) && (decide (s.Bot < s.H) && (!decide (s.Top = s.Bot) || decide (s.H = 1)))) = false ∨ ((decide (0 ≤ s.Limit) && decide (s.Limit ≤ 100)) && decide (((s.Back.xs.map RowR.dat).length : Int) ≤ s.Limit)) = false; rw [List.length_map, nl_s_Back]; simp at h9 ⊢; omega
  refine WC.r1 hs27 [] rfl (WC.ret (tkR ?_))
  clear hK24
  refine rtv rfl rfl hs27 ?_
  rw [scrOk_no (.inr (.inr (hp34.elim .inl (fun h => .inr (.inl h)))))]
 have hp34 : scrP3 s.dat = true ∧ scrP4 s.dat = true := by have h9 := h28; unfold scrP3 scrP4 within; show ((decide (0 ≤ s.Top) && decide (s.Top ≤ s.Bot)) && (decide (s.Bot < s.H) && (!decide (s.Top = s.Bot) || decide (s.H = 1)))) = true ∧ ((decide (0 ≤ s.Limit) && decide (s.Limit ≤ 100)) && decide (((s.Back.xs.map RowR.dat).length : Int) ≤ s.Limit)) = true; rw [List.length_map, nl_s_Back]; simp at h9 ⊢; omega
 refine WC.skip (hK24 _ _ (WC.seq (fun K29 hK29 => WC.r1 hs27 [0] rfl (WC.block ?_))))
 refine WC.lS [1, 48, 118, 165, 167, 168] rfl hs27 (fun k_ f w' => ∃ (i : Nat), k_ = s.Tabs.n - i ∧ (i ≤ s.Tabs.n) ∧ (∀ j, j < i → ascAt s.Tabs.xs 0 (s.W - 1) j = true) ∧ Sub [(169, .int .i64 i)] f) ((fun (i : Nat) => s.Tabs.n - i) (0)) ?_ ?_
 ·refine ⟨0, rfl, ?_, ?_, ⟨rfl, trivial⟩⟩
  · exact Nat.zero_le _
  · exact fun j hj => absurd hj (by omega)
 clear hs27
 rintro _ f w ⟨i, rfl, p0, p1, hG⟩ hF hs30
 refine WC.sub _ (hG.app hF) ?_
 clear hG hF
 refine WC.r1 hs30 [] rfl (WC.seq (fun K31 hK31 => ?_))
 refine WC.cq rfl (fun h32 qh32 => ?_) (fun h32 qh32 => ?_)
 ·refine WC.skip (hK31 _ _ (WC.seq (fun K33 hK33 => WC.block (WC.sr (WL.r 1 hs30 [] rfl ?_)))))
  refine WL.val rfl rfl rfl (Run.idxN Tryz.runUnderlying60 Tryz.sizeOf3 rfl rfl rfl ?_ ?_ ?_) ?_
  · exact SlF.some_ (SlF.st0 f_s.Tabs hs30)
  · omega
  · omega
  refine WL.val rfl rfl rfl (Run.load Tryz.isAgg3 rfl rfl (SlF.one1 (SlF.st0 f_s.Tabs hs30) ?_ rfl)) ?_
  · omega
  refine WL.r 2 hs30 [] rfl (WL.nil (WC.sr (WL.r 3 hs30 [] rfl (WL.pO tbk 4 Acts.nil hs30 [0] rfl rfl rfl rfl (fun g_ => ⟨rfl, trivial⟩) (WL.r 1 hs30 [] rfl ?_)))))
  apply WL.gO 12 Acts.nil hs30 rfl
  ·intro g34 J35
   have qg34 := g34
   try simp only [bf, within_iff, within_not] at qg34
   refine WL.runA tbk 3 (Acts.nil.cons (j := 8) rfl g34) hs30 [] rfl trivial ?_
   apply WL.gA 8 (Acts.nil.cons (j := 8) rfl g34) hs30 rfl
   ·intro g36 J37
    have qg36 := g36
    try simp only [bf, within_iff, within_not] at qg36
    refine WL.runA tbk 4 (Acts.nil.cons (j := 11) rfl g36) hs30 [0] rfl ⟨by omega, rfl, trivial⟩ (WL.val (wantT rfl g36) rfl rfl (Run.idxK (i - 1) Tryz.runUnderlying60 Tryz.sizeOf3 rfl rfl rfl ?_ ?_ ?_) ?_)
    · exact SlF.some_ (SlF.st0 f_s.Tabs hs30)
    · omega
    · omega
    refine WL.val (wantT rfl g36) rfl rfl (Run.load Tryz.isAgg3 rfl rfl (SlF.one1 (SlF.st0 f_s.Tabs hs30) ?_ rfl)) ?_
    · omega
    refine WL.runA tbk 2 (Acts.nil.cons (j := 11) rfl g36) hs30 [] rfl trivial (WL.eA 8 (Acts.nil.cons (j := 8) rfl g34) J37 hs30 g36 rfl rfl)
   intro _ hs38
   exact WL.eO 4 Acts.nil J35 hs38 g34 rfl rfl
  intro _ hs39
  refine WL.nil (WC.cq rfl (fun h40 qh40 => ?_) (fun h40 qh40 => ?_))
  ·have ha : ascAt s.Tabs.xs 0 (s.W - 1) i = false := by unfold ascAt within iat; have h9 := h40; simp at h9 ⊢; omega
   refine WC.r1 hs39 [] rfl (WC.ret (ibR (tkR (tkR (ibR (tkR ?_))))))
   clear hK33 hK29
   refine rtv rfl rfl hs39 ?_
   rw [scrOk_no (.inr (.inr (.inr (.inr (.inl (isAsc_not (i := i) (by show i < s.Tabs.xs.length; omega) ha))))))]
  have ha : ascAt s.Tabs.xs 0 (s.W - 1) i = true := by unfold ascAt within iat; have h9 := h40; simp at h9 ⊢; omega
  refine WC.skip (hK33 _ _ (WC.region (WL.r 2 hs39 [] rfl (WL.nil (tkN ?_)))))
  refine ⟨sbF rfl, hs39, _, ?_, i + 1, rfl, ?_, ?_, ⟨rfl, trivial⟩⟩
  · omega
  · omega
  · intro j hj; rcases Nat.lt_or_ge j i with h_ | h_
    · exact p1 j h_
    · obtain rfl : j = i := by omega
      exact ha
 have hasc : isAsc s.dat.Tabs 0 (s.dat.W - 1) = true := isAsc_all (fun j hj => p1 j (by have : j < s.Tabs.xs.length := hj; omega))
 refine WC.exit (hK29 _ _ (WC.seq (fun K41 hK41 => WC.r1 hs30 [0] rfl (WC.block ?_))))
 refine WC.lS [48, 118, 165, 170, 198, 199] rfl hs30 (fun k_ f w' => ∃ (i : Nat), k_ = s.Back.n - i ∧ (i ≤ s.Back.n) ∧ (∀ j, j < i → rowOk (RowR.dat (gat encRowR s.Back.xs j)) = true) ∧ Sub [(200, .int .i64 i)] f) ((fun (i : Nat) => s.Back.n - i) (0)) ?_ ?_
 ·refine ⟨0, rfl, ?_, ?_, ⟨rfl, trivial⟩⟩
  · exact Nat.zero_le _
  · exact fun j hj => absurd hj (by omega)
 clear hs30
 rintro _ f w ⟨i, rfl, r0, r1, hG⟩ hF hs42
 refine WC.sub _ (hG.app hF) ?_
 clear hG hF
 refine WC.r1 hs42 [] rfl (WC.seq (fun K43 hK43 => ?_))
 refine WC.cq rfl (fun h44 qh44 => ?_) (fun h44 qh44 => ?_)
 ·refine WC.skip (hK43 _ _ (WC.seq (fun K45 hK45 => WC.block (WC.sr ?_))))
  refine WL.val rfl rfl rfl (Run.idxN Tryz.runUnderlying87 Tryz.sizeOf181 rfl rfl rfl ?_ ?_ ?_) ?_
  · exact SlF.some_ (SlF.st0 f_s.Back.sl hs42)
  · omega
  · omega
  refine WL.val rfl rfl rfl (Run.loadA Tryz.isAgg181 Tryz.sizeOf181 rfl rfl (SlF.whole (SlF.st0 f_s.Back.sl hs42) ?_)) ?_
  · omega
  refine WL.al hs42 Tryz.zeroValue181 rfl rfl (fun b46 _ hs47 => WL.st tbk hs47 0 rfl rfl (fun _ hs48 => WL.nil (WC.sr (WL.r 1 hs48 [0] rfl (WL.cl Tryz.call220 rfl (k98_ (gat encRowR s.Back.xs i) _ (okRowR.st0 (SlN.nth f_s.Back (by omega)) hs48)) ?_)))))
  rintro _ whs49 ⟨rfl, hs49⟩
  replace hs49 := hs48.call0 hs49
  refine ⟨_, rfl, WL.r 1 hs49 [] rfl (WL.nil (WC.cq rfl (fun h50 qh50 => ?_) (fun h50 qh50 => ?_)))⟩
  ·refine WC.r1 hs49 [] rfl (WC.ret (ibR (tkR (tkR (ibR (tkR ?_))))))
   clear hK45 hK41
   refine rtv rfl rfl hs49 ?_
   rw [scrOk_no (.inr (.inr (.inr (.inr (.inr (all_gat_not (F := encRowR) (j := i) (by omega) (by simpa using h50)))))))]
  refine WC.skip (hK45 _ _ (WC.region (WL.r 2 hs49 [] rfl (WL.nil (tkN ?_)))))
  refine ⟨sbF rfl, (hs49.drop (by repeat (first | exact List.Sublist.refl _ | exact List.sublist_append_left _ _ | exact List.Sublist.trans (List.sublist_append_left _ _) (List.sublist_append_left _ _) | apply List.Sublist.cons | refine List.Sublist.trans ?_ (sR _)))), _, ?_, i + 1, rfl, ?_, ?_, ⟨rfl, trivial⟩⟩
  · omega
  · omega
  · intro j hj; rcases Nat.lt_or_ge j i with h_ | h_
    · exact r1 j h_
    · obtain rfl : j = i := by omega
      simpa using h50
 refine WC.exit (hK41 _ _ (WC.r1 hs42 [] rfl (WC.ret (rtv rfl rfl hs42 ?_))))
 rw [scrOk_all hp1 hp2 hp34.1 hp34.2 hasc (all_gat (F := encRowR) (fun j hj => r1 j (by omega)))]
theorem k100_ (t : TermR) (w : World) (f_t : okTermR 549755813888 w t) :
    Calls Tryz.prog 136 #[.agg #[i64 t.P.State, .bool t.P.Mark, .slice t.P.Args.A t.P.Args.n t.P.Args.c, .slice t.P.Part.A t.P.Part.n t.P.Part.c, i64 t.S.W, i64 t.S.H, i64 t.S.Main.W, i64 t.S.Main.H, .slice t.S.Main.Cells.A t.S.Main.Cells.n t.S.Main.Cells.c, i64 t.S.Alt.W, i64 t.S.Alt.H, .slice t.S.Alt.Cells.A t.S.Alt.Cells.n t.S.Alt.Cells.c, .bool t.S.OnAlt, i64 t.S.X, i64 t.S.Y, .bool t.S.Wrap, i64 t.S.A.Fg, i64 t.S.A.Bg, .bool t.S.A.Bold, .bool t.S.A.Under, .bool t.S.A.Turn, i64 t.S.Top, i64 t.S.Bot, .bool t.S.NoWrap, .bool t.S.Hide, i64 t.S.SaveX, i64 t.S.SaveY, i64 t.S.SaveA.Fg, i64 t.S.SaveA.Bg, .bool t.S.SaveA.Bold, .bool t.S.SaveA.Under, .bool t.S.SaveA.Turn, .slice t.S.Tabs.A t.S.Tabs.n t.S.Tabs.c, i64 t.S.Limit, .slice t.S.Back.A t.S.Back.n t.S.Back.c]] w fun e w' => e = .returned (.bool (termOk t.dat)) ∧ St w [] [] w' := by
 have nb_t_P_Args := f_t.P.Args_n
 have nl_t_P_Args := f_t.P.Args.len
 have nb_t_P_Part := f_t.P.Part_n
 have nl_t_P_Part := f_t.P.Part.len
 have nb_t_S_Main_Cells := f_t.S.Main.Cells_n
 have nl_t_S_Main_Cells := f_t.S.Main.Cells.len
 have nb_t_S_Alt_Cells := f_t.S.Alt.Cells_n
 have nl_t_S_Alt_Cells := f_t.S.Alt.Cells.len
 have nb_t_S_Tabs := f_t.S.Tabs_n
 have nl_t_S_Tabs := f_t.S.Tabs.len
 have nb_t_S_Back := f_t.S.Back_n
 have nl_t_S_Back := f_t.S.Back.sl.len
 refine enter 11 Tryz.func136 rfl Tryz.ntmps136 rfl rfl ?_
 have hs1 := St.init w
 refine WC.sr (WL.bx hs1 rfl (fun b2 _ hs3 => WL.r 1 hs3 [] rfl (WL.nil (WC.sr (WL.r 2 hs3 [0] rfl (WL.cl Tryz.call182 rfl (k86_ t.P _ (okVpR.st0 f_t.P hs3)) ?_))))))
 rintro _ whs4 ⟨rfl, hs4⟩
 replace hs4 := hs3.call0 hs4
 refine ⟨_, rfl, WL.r 1 hs4 [] rfl ?_⟩
 apply WL.gA 3 Acts.nil hs4 rfl
 ·intro g5 J6
  have qg5 := g5
  try simp only [bf, within_iff, within_not] at qg5
  refine WL.runA tbk 2 (Acts.nil.cons (j := 3) rfl g5) hs4 [0] rfl ⟨rfl, trivial⟩ (WL.call (wantT rfl g5) rfl rfl (Run.call Tryz.call183 rfl rfl rfl) (k99_ t.S _ (okScrR.st0 f_t.S hs4)) ?_)
  rintro _ whs7 ⟨rfl, hs7⟩
  replace hs7 := hs4.call0 hs7
  refine ⟨_, rfl, WL.eA 3 Acts.nil J6 hs7 g5 rfl rfl⟩
 intro _ hs8
 refine WL.r 1 hs8 [] rfl (WL.nil (WC.ret (rtv rfl rfl hs8 ?_)))
 rfl
set_option maxHeartbeats 4000000 in
theorem k101_ (p : PaneR) (w : World) (f_p : okPaneR 549755813888 w p) :
    Calls Tryz.prog 121 #[.agg #[i64 p.Id, .string p.Cmd, .string p.Dir, i64 p.Life, i64 p.Code, i64 p.Pid, i64 p.Term.P.State, .bool p.Term.P.Mark, .slice p.Term.P.Args.A p.Term.P.Args.n p.Term.P.Args.c, .slice p.Term.P.Part.A p.Term.P.Part.n p.Term.P.Part.c, i64 p.Term.S.W, i64 p.Term.S.H, i64 p.Term.S.Main.W, i64 p.Term.S.Main.H, .slice p.Term.S.Main.Cells.A p.Term.S.Main.Cells.n p.Term.S.Main.Cells.c, i64 p.Term.S.Alt.W, i64 p.Term.S.Alt.H, .slice p.Term.S.Alt.Cells.A p.Term.S.Alt.Cells.n p.Term.S.Alt.Cells.c, .bool p.Term.S.OnAlt, i64 p.Term.S.X, i64 p.Term.S.Y, .bool p.Term.S.Wrap, i64 p.Term.S.A.Fg, i64 p.Term.S.A.Bg, .bool p.Term.S.A.Bold, .bool p.Term.S.A.Under, .bool p.Term.S.A.Turn, i64 p.Term.S.Top, i64 p.Term.S.Bot, .bool p.Term.S.NoWrap, .bool p.Term.S.Hide, i64 p.Term.S.SaveX, i64 p.Term.S.SaveY, i64 p.Term.S.SaveA.Fg, i64 p.Term.S.SaveA.Bg, .bool p.Term.S.SaveA.Bold, .bool p.Term.S.SaveA.Under, .bool p.Term.S.SaveA.Turn, .slice p.Term.S.Tabs.A p.Term.S.Tabs.n p.Term.S.Tabs.c, i64 p.Term.S.Limit, .slice p.Term.S.Back.A p.Term.S.Back.n p.Term.S.Back.c]] w fun e w' => e = .returned (.bool (paneOk p.dat)) ∧ St w [] [] w' := by
 have nz_p_Cmd := f_p.Cmd_z
 have nz_p_Dir := f_p.Dir_z
 have nb_p_Term_P_Args := f_p.Term.P.Args_n
 have nl_p_Term_P_Args := f_p.Term.P.Args.len
 have nb_p_Term_P_Part := f_p.Term.P.Part_n
 have nl_p_Term_P_Part := f_p.Term.P.Part.len
 have nb_p_Term_S_Main_Cells := f_p.Term.S.Main.Cells_n
 have nl_p_Term_S_Main_Cells := f_p.Term.S.Main.Cells.len
 have nb_p_Term_S_Alt_Cells := f_p.Term.S.Alt.Cells_n
 have nl_p_Term_S_Alt_Cells := f_p.Term.S.Alt.Cells.len
 have nb_p_Term_S_Tabs := f_p.Term.S.Tabs_n
 have nl_p_Term_S_Tabs := f_p.Term.S.Tabs.len
 have nb_p_Term_S_Back := f_p.Term.S.Back_n
 have nl_p_Term_S_Back := f_p.Term.S.Back.sl.len
 refine enter 57 Tryz.func121 rfl Tryz.ntmps121 rfl rfl ?_
 have hs1 := St.init w
 refine WC.sr (WL.bx hs1 rfl (fun b2 _ hs3 => WL.r 1 hs3 [] rfl (WL.nil (WC.seq (fun K4 hK4 => WC.sr (WL.r 2 hs3 [0] rfl (WL.cl Tryz.call59 rfl (k1_ _ _) ?_)))))))
 rintro _ whs5 ⟨rfl, hs5⟩
 replace hs5 := hs3.call0 hs5
 refine ⟨_, rfl, WL.r 2 hs5 [] rfl ?_⟩
 apply WL.gO 4 Acts.nil hs5 rfl
 ·intro g6 J7
  have qg6 := g6
  try simp only [bf, within_iff, within_not] at qg6
  refine WL.runA tbk 2 (Acts.nil.cons (j := 4) rfl g6) hs5 [0] rfl ⟨rfl, trivial⟩ (WL.call (wantF rfl g6) rfl rfl (Run.call Tryz.call176 rfl rfl rfl) (k2_ _ _) ?_)
  rintro _ whs8 ⟨rfl, hs8⟩
  replace hs8 := hs5.call0 hs8
  refine ⟨_, rfl, WL.runA tbk 1 (Acts.nil.cons (j := 4) rfl g6) hs8 [] rfl trivial (WL.eO 4 Acts.nil J7 hs8 g6 rfl rfl)⟩
 intro _ hs9
 refine WL.r 1 hs9 [] rfl ?_
 apply WL.gO 4 Acts.nil hs9 rfl
 ·intro g10 J11
  have qg10 := g10
  try simp only [bf, within_iff, within_not] at qg10
  refine WL.runA tbk 2 (Acts.nil.cons (j := 10) rfl g10) hs9 [0] rfl ⟨rfl, trivial⟩ (WL.call (wantF rfl g10) rfl rfl (Run.call Tryz.call176 rfl rfl rfl) (k2_ _ _) ?_)
  rintro _ whs12 ⟨rfl, hs12⟩
  replace hs12 := hs9.call0 hs12
  refine ⟨_, rfl, WL.runA tbk 1 (Acts.nil.cons (j := 10) rfl g10) hs12 [] rfl trivial (WL.eO 4 Acts.nil J11 hs12 g10 rfl rfl)⟩
 intro _ hs13
 refine WL.r 1 hs13 [] rfl ?_
 apply WL.gO 4 Acts.nil hs13 rfl
 ·intro g14 J15
  have qg14 := g14
  try simp only [bf, within_iff, within_not] at qg14
  refine WL.runA tbk 2 (Acts.nil.cons (j := 16) rfl g14) hs13 [0] rfl ⟨rfl, trivial⟩ (WL.call (wantF rfl g14) rfl rfl (Run.call Tryz.call150 rfl rfl rfl) (k96_ p.Term _ (okTermR.st0 f_p.Term hs13)) ?_)
  rintro _ whs16 ⟨rfl, hs16⟩
  replace hs16 := hs13.call0 hs16
  refine ⟨_, rfl, WL.runA tbk 1 (Acts.nil.cons (j := 16) rfl g14) hs16 [] rfl trivial (WL.eO 4 Acts.nil J15 hs16 g14 rfl rfl)⟩
 intro _ hs17
 refine WL.nil (WC.cq rfl (fun h18 qh18 => ?_) (fun h18 qh18 => ?_))
 ·refine WC.r1 hs17 [] rfl (WC.ret (tkR ?_))
  clear hK4
  refine retV1 rfl (resV.tmp rfl) (⟨congrArg Ending.returned (congrArg Value.bool ?_), hs17.nil⟩)
  unfold paneOk; show _ = ((((isId p.Id && isCmd p.Cmd) && isCmd p.Dir) && termOk p.Term.dat) && lifeOk p.Life p.Code p.Pid)
  simp only [lifeOk, isId, isCmd, within] at *; grind
 refine WC.skip (hK4 _ _ (WC.seq (fun K19 hK19 => WC.r1 hs17 [0] rfl (WC.block (WC.r1 hs17 [] rfl ?_)))))
 refine WC.cq rfl (fun h20 qh20 => ?_) (fun h20 qh20 => ?_)
 ·refine WC.sr (WL.r 2 hs17 [0] rfl (WL.cl Tryz.call59 rfl (k1_ _ _) ?_))
  rintro _ whs21 ⟨rfl, hs21⟩
  replace hs21 := hs17.call0 hs21
  refine ⟨_, rfl, WL.r 1 hs21 [] rfl (WL.pA tbk 3 Acts.nil hs21 [0] rfl rfl rfl rfl (fun g_ => ⟨rfl, trivial⟩) (WL.r 1 hs21 [] rfl (WL.nil (WC.ret (ibR (tkR ?_))))))⟩
  clear hK19
  refine retV1 rfl (resV.tmp rfl) (⟨congrArg Ending.returned (congrArg Value.bool ?_), hs21.nil⟩)
  unfold paneOk; show _ = ((((isId p.Id && isCmd p.Cmd) && isCmd p.Dir) && termOk p.Term.dat) && lifeOk p.Life p.Code p.Pid)
  simp only [lifeOk, isId, isCmd, within] at *; grind
 refine WC.r1 hs17 [] rfl (WC.cq rfl (fun h22 qh22 => ?_) (fun h22 qh22 => ?_))
 ·refine WC.sr (WL.r 2 hs17 [0] rfl (WL.cl Tryz.call58 rfl (k0_ _ _ _ _) ?_))
  rintro _ whs23 ⟨rfl, hs23⟩
  replace hs23 := hs17.call0 hs23
  refine ⟨_, rfl, WL.r 1 hs23 [] rfl (WL.pA tbk 3 Acts.nil hs23 [0] rfl rfl rfl rfl (fun g_ => ⟨rfl, trivial⟩) (WL.r 1 hs23 [] rfl (WL.nil (WC.ret (ibR (tkR ?_))))))⟩
  clear hK19
  refine retV1 rfl (resV.tmp rfl) (⟨congrArg Ending.returned (congrArg Value.bool ?_), hs23.nil⟩)
  unfold paneOk; show _ = ((((isId p.Id && isCmd p.Cmd) && isCmd p.Dir) && termOk p.Term.dat) && lifeOk p.Life p.Code p.Pid)
  simp only [lifeOk, isId, isCmd, within] at *; grind
 refine WC.r1 hs17 [] rfl (WC.cq rfl (fun h24 qh24 => ?_) (fun h24 qh24 => ?_))
 ·refine WC.sr (WL.r 4 hs17 [0] rfl (WL.pA tbk 3 Acts.nil hs17 [0] rfl rfl rfl rfl (fun g_ => ⟨rfl, trivial⟩) (WL.r 1 hs17 [] rfl (WL.nil (WC.ret (ibR (tkR ?_)))))))
  clear hK19
  refine retV1 rfl (resV.tmp rfl) (⟨congrArg Ending.returned (congrArg Value.bool ?_), hs17.nil⟩)
  unfold paneOk; show _ = ((((isId p.Id && isCmd p.Cmd) && isCmd p.Dir) && termOk p.Term.dat) && lifeOk p.Life p.Code p.Pid)
  simp only [lifeOk, isId, isCmd, within] at *; grind
 refine WC.skip (hK19 _ _ (WC.r1 hs17 [] rfl (WC.ret (retV1 rfl (resV.tmp rfl) (⟨congrArg Ending.returned (congrArg Value.bool ?_), hs17.nil⟩)))))
 unfold paneOk; show _ = ((((isId p.Id && isCmd p.Cmd) && isCmd p.Dir) && termOk p.Term.dat) && lifeOk p.Life p.Code p.Pid)
 simp only [lifeOk, isId, isCmd, within] at *; grind
set_option maxHeartbeats 4000000 in
theorem k102_ (p : PaneR) (w : World) (f_p : okPaneR 549755813888 w p) :
    Calls Tryz.prog 120 #[.agg #[i64 p.Id, .string p.Cmd, .string p.Dir, i64 p.Life, i64 p.Code, i64 p.Pid, i64 p.Term.P.State, .bool p.Term.P.Mark, .slice p.Term.P.Args.A p.Term.P.Args.n p.Term.P.Args.c, .slice p.Term.P.Part.A p.Term.P.Part.n p.Term.P.Part.c, i64 p.Term.S.W, i64 p.Term.S.H, i64 p.Term.S.Main.W, i64 p.Term.S.Main.H, .slice p.Term.S.Main.Cells.A p.Term.S.Main.Cells.n p.Term.S.Main.Cells.c, i64 p.Term.S.Alt.W, i64 p.Term.S.Alt.H, .slice p.Term.S.Alt.Cells.A p.Term.S.Alt.Cells.n p.Term.S.Alt.Cells.c, .bool p.Term.S.OnAlt, i64 p.Term.S.X, i64 p.Term.S.Y, .bool p.Term.S.Wrap, i64 p.Term.S.A.Fg, i64 p.Term.S.A.Bg, .bool p.Term.S.A.Bold, .bool p.Term.S.A.Under, .bool p.Term.S.A.Turn, i64 p.Term.S.Top, i64 p.Term.S.Bot, .bool p.Term.S.NoWrap, .bool p.Term.S.Hide, i64 p.Term.S.SaveX, i64 p.Term.S.SaveY, i64 p.Term.S.SaveA.Fg, i64 p.Term.S.SaveA.Bg, .bool p.Term.S.SaveA.Bold, .bool p.Term.S.SaveA.Under, .bool p.Term.S.SaveA.Turn, .slice p.Term.S.Tabs.A p.Term.S.Tabs.n p.Term.S.Tabs.c, i64 p.Term.S.Limit, .slice p.Term.S.Back.A p.Term.S.Back.n p.Term.S.Back.c]] w fun e w' => e = .returned (.bool (paneOk p.dat)) ∧ St w [] [] w' := by
 have nz_p_Cmd := f_p.Cmd_z
 have nz_p_Dir := f_p.Dir_z
 have nb_p_Term_P_Args := f_p.Term.P.Args_n
 have nl_p_Term_P_Args := f_p.Term.P.Args.len
 have nb_p_Term_P_Part := f_p.Term.P.Part_n
 have nl_p_Term_P_Part := f_p.Term.P.Part.len
 have nb_p_Term_S_Main_Cells := f_p.Term.S.Main.Cells_n
 have nl_p_Term_S_Main_Cells := f_p.Term.S.Main.Cells.len
 have nb_p_Term_S_Alt_Cells := f_p.Term.S.Alt.Cells_n
 have nl_p_Term_S_Alt_Cells := f_p.Term.S.Alt.Cells.len
 have nb_p_Term_S_Tabs := f_p.Term.S.Tabs_n
 have nl_p_Term_S_Tabs := f_p.Term.S.Tabs.len
 have nb_p_Term_S_Back := f_p.Term.S.Back_n
 have nl_p_Term_S_Back := f_p.Term.S.Back.sl.len
 refine enter 71 Tryz.func120 rfl Tryz.ntmps120 rfl rfl ?_
 have hs1 := St.init w
 refine WC.sr (WL.bx hs1 rfl (fun b2 _ hs3 => WL.r 1 hs3 [] rfl (WL.nil (WC.seq (fun K4 hK4 => WC.sr (WL.r 4 hs3 [0] rfl (WL.pO tbk 3 Acts.nil hs3 [0] rfl rfl rfl rfl (fun g_ => ⟨rfl, trivial⟩) ?_)))))))
 refine WL.r 1 hs3 [] rfl (WL.pO tbk 4 Acts.nil hs3 [0] rfl rfl rfl rfl (fun g_ => ⟨rfl, trivial⟩) (WL.r 1 hs3 [] rfl (WL.pO tbk 4 Acts.nil hs3 [0] rfl rfl rfl rfl (fun g_ => ⟨rfl, trivial⟩) (WL.r 1 hs3 [] rfl ?_))))
 apply WL.gO 4 Acts.nil hs3 rfl
 ·intro g5 J6
  have qg5 := g5
  try simp only [bf, within_iff, within_not] at qg5
  refine WL.runA tbk 2 (Acts.nil.cons (j := 20) rfl g5) hs3 [0] rfl ⟨rfl, trivial⟩ (WL.call (wantF rfl g5) rfl rfl (Run.call Tryz.call136 rfl rfl rfl) (k100_ p.Term _ (okTermR.st0 f_p.Term hs3)) ?_)
  rintro _ whs7 ⟨rfl, hs7⟩
  replace hs7 := hs3.call0 hs7
  refine ⟨_, rfl, WL.runA tbk 1 (Acts.nil.cons (j := 20) rfl g5) hs7 [] rfl trivial (WL.eO 4 Acts.nil J6 hs7 g5 rfl rfl)⟩
 intro _ hs8
 refine WL.nil (WC.cq rfl (fun h9 qh9 => ?_) (fun h9 qh9 => ?_))
 ·refine WC.r1 hs8 [] rfl (WC.ret (tkR ?_))
  clear hK4
  refine retV1 rfl (resV.tmp rfl) (⟨congrArg Ending.returned (congrArg Value.bool ?_), hs8.nil⟩)
  unfold paneOk; show _ = ((((isId p.Id && isCmd p.Cmd) && isCmd p.Dir) && termOk p.Term.dat) && lifeOk p.Life p.Code p.Pid)
  simp only [lifeOk, isId, isCmd, within] at *; grind
 refine WC.skip (hK4 _ _ (WC.seq (fun K10 hK10 => WC.r1 hs8 [0] rfl (WC.block (WC.r1 hs8 [] rfl ?_)))))
 refine WC.cq rfl (fun h11 qh11 => ?_) (fun h11 qh11 => ?_)
 ·refine WC.sr (WL.r 4 hs8 [0] rfl (WL.pA tbk 3 Acts.nil hs8 [0] rfl rfl rfl rfl (fun g_ => ⟨rfl, trivial⟩) (WL.r 1 hs8 [] rfl (WL.pA tbk 3 Acts.nil hs8 [0] rfl rfl rfl rfl (fun g_ => ⟨rfl, trivial⟩) (WL.r 1 hs8 [] rfl (WL.nil (WC.ret ?_)))))))
  refine ibR (tkR ?_)
  clear hK10
  refine retV1 rfl (resV.tmp rfl) (⟨congrArg Ending.returned (congrArg Value.bool ?_), hs8.nil⟩)
  unfold paneOk; show _ = ((((isId p.Id && isCmd p.Cmd) && isCmd p.Dir) && termOk p.Term.dat) && lifeOk p.Life p.Code p.Pid)
  simp only [lifeOk, isId, isCmd, within] at *; grind
 refine WC.r1 hs8 [] rfl (WC.cq rfl (fun h12 qh12 => ?_) (fun h12 qh12 => ?_))
 ·refine WC.sr (WL.r 4 hs8 [0] rfl (WL.pA tbk 3 Acts.nil hs8 [0] rfl rfl rfl rfl (fun g_ => ⟨rfl, trivial⟩) (WL.r 1 hs8 [] rfl (WL.pA tbk 3 Acts.nil hs8 [0] rfl rfl rfl rfl (fun g_ => ⟨rfl, trivial⟩) (WL.r 1 hs8 [] rfl (WL.nil (WC.ret ?_)))))))
  refine ibR (tkR ?_)
  clear hK10
  refine retV1 rfl (resV.tmp rfl) (⟨congrArg Ending.returned (congrArg Value.bool ?_), hs8.nil⟩)
  unfold paneOk; show _ = ((((isId p.Id && isCmd p.Cmd) && isCmd p.Dir) && termOk p.Term.dat) && lifeOk p.Life p.Code p.Pid)
  simp only [lifeOk, isId, isCmd, within] at *; grind
 refine WC.r1 hs8 [] rfl (WC.cq rfl (fun h13 qh13 => ?_) (fun h13 qh13 => ?_))
 ·refine WC.sr (WL.r 4 hs8 [0] rfl (WL.pA tbk 3 Acts.nil hs8 [0] rfl rfl rfl rfl (fun g_ => ⟨rfl, trivial⟩) (WL.r 1 hs8 [] rfl (WL.nil (WC.ret (ibR (tkR ?_)))))))
  clear hK10
  refine retV1 rfl (resV.tmp rfl) (⟨congrArg Ending.returned (congrArg Value.bool ?_), hs8.nil⟩)
  unfold paneOk; show _ = ((((isId p.Id && isCmd p.Cmd) && isCmd p.Dir) && termOk p.Term.dat) && lifeOk p.Life p.Code p.Pid)
  simp only [lifeOk, isId, isCmd, within] at *; grind
 refine WC.skip (hK10 _ _ (WC.r1 hs8 [] rfl (WC.ret (retV1 rfl (resV.tmp rfl) (⟨congrArg Ending.returned (congrArg Value.bool ?_), hs8.nil⟩)))))
 unfold paneOk; show _ = ((((isId p.Id && isCmd p.Cmd) && isCmd p.Dir) && termOk p.Term.dat) && lifeOk p.Life p.Code p.Pid)
 simp only [lifeOk, isId, isCmd, within] at *; grind
theorem nthL_eq : ∀ (L : Hp) (i : Nat), nthL L i = L[i]?
 | [], _ => rfl
 | _ :: _, 0 => rfl
 | _ :: L, i + 1 => (nthL_eq L i).trans (by simp)
section
variable {P : Program} {w0 w : World} {T : List Nat} {L : Hp} {n : Nat} {ol : List Oper} {o : Oper} {rest : List Oper} {f : Fr} {d : Nat} {K : Fr → World → Prop}
theorem St.setObj (h : St w0 T L w) {i b : Nat} {o1 : Obj} (hi : nthL L i = some (b, o1)) (o2 : Obj) : St w0 T (setL L i o2) { w with heap := w.heap.setIfInBounds b o2 } := by
 have hb := (h.own _ (nthL_mem hi))
 have hlt := lt_of_heap hb.1
 have hother : ∀ k, k ≠ b → (w.heap.setIfInBounds b o2)[k]? = w.heap[k]? := fun k hk => by
  rw [Array.getElem?_setIfInBounds]; rw [if_neg (fun h => hk h.symm)]
 refine ⟨h.os, h.tape, h.output, by simpa using h.size, fun k hk hT => ?_, fun p hp => ?_, by rw [setL_keys]; exact h.nodup⟩
 ·refine (hother k ?_).trans (h.keep k hk hT)
  rintro rfl
  rcases hb.2 with h1 | h1
  ·simp at h1; omega
  ·exact hT h1
 ·rcases setL_mem hi h.nodup hp with rfl | ⟨hm, hne⟩
  ·refine ⟨?_, hb.2⟩
   show (w.heap.setIfInBounds b o2)[b]? = some o2
   rw [Array.getElem?_setIfInBounds, if_pos rfl]
   simp only at hlt
   rw [if_pos hlt]
  ·exact ⟨(hother p.1 hne).trans (h.own p hm).1, (h.own p hm).2⟩
theorem WL.makeMap {t : TypeId} (hst : St w0 T L w) (ho : o.op = .makeMap t none) (hw : want ol o f = some true) (hd : o.dst = some d) (hn : Nat.blt d n = true)
  (k : ∀ b w', St w0 T ((b, .map #[] 0) :: L) w' → WL P n ol rest K ((d, .map (some b)) :: f) w') : WL P n ol (o :: rest) K f w := by
 refine WL.val (w' := w.alloc (.map #[] 0)) hw hd hn (fun ρ hρ => ?_) (k _ _ (hst.alloc _))
 simp [execOp, ho, Instr.makeMap]
theorem St.neq (h : St w0 T L w) {i j : Nat} {p q : Nat × Obj} (hi : nthL L i = some p) (hj : nthL L j = some q) (hij : i ≠ j) : p.1 ≠ q.1 := by
 intro he
 rw [nthL_eq] at hi hj
 have h1 : (L.map (·.1))[i]? = some p.1 := by rw [List.getElem?_map, hi]; rfl
 have h2 : (L.map (·.1))[j]? = some q.1 := by rw [List.getElem?_map, hj]; rfl
 exact hij ((List.getElem?_inj (List.getElem?_eq_some_iff.1 h1).1 h.nodup).1 (h1.trans (he ▸ h2.symm)))
end
end Go.Proofs.YthfhhldbglaieaaGreat
