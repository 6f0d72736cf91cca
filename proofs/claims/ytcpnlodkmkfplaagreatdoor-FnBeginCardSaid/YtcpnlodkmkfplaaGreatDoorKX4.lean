/-
  What the proof stands on, part 4.
-/
import Derived.Test.YtcpnlodkmkfplaaGreatDoorKX3
namespace Go.Proofs.YtcpnlodkmkfplaaGreatDoor
open Go Go.RowKit
set_option linter.unusedVariables false
set_option linter.unusedSimpArgs false
theorem k54_ (A_dir : Option Addr) (n_dir c_dir : Nat) (dir : List LinkD) (A_turns : Option Addr) (n_turns c_turns : Nat) (turns : List TurnD) (w : World) (f_dir : SlF encLink w A_dir n_dir dir) (f_turns : SlF encTurn w A_turns n_turns turns) (hp : sortedL dir) (hr : runI dir turns = true) (hn1 : n_dir ≤ 1000) (hn2 : n_turns ≤ 1000) (hz : ∀ x, x ∈ dir → smLink 549755813888 x) (hzt : ∀ t, t ∈ turns → smTurn 549755813888 t) :
    Calls Tryz.prog 84 #[.slice A_dir n_dir c_dir, .slice A_turns n_turns c_turns] w fun e w' => ∃ A c L1, e = .returned (.slice A (turnsL dir turns).length c) ∧ St w [] L1 w' ∧ OwnF encLink 101 (.slice A (turnsL dir turns).length c) (turnsL dir turns) L1 := by
 have hl := f_dir.len
 have hlt := f_turns.len
 refine enter 24 Tryz.func84 rfl Tryz.ntmps84 rfl rfl ?_
 have hs1 := St.init w
 refine WC.r1 hs1 [] rfl (WC.sr (WL.r 1 hs1 [] rfl (WL.cl Tryz.call128 rfl (k38_ _ _ _ _ _ (SlF.st0 f_dir hs1) ?_) ?_)))
 · first | assumption | rfl | omega
 rintro _ whs2 ⟨A3, c4, L1_5, rfl, hs2, ho6⟩
 replace hs2 := hs1.callF hs2
 refine ⟨_, rfl, WL.r 1 hs2 [] rfl (WL.nil (WC.seq (fun K7 hK7 => WC.r1 hs2 [] rfl (WC.block ?_))))⟩
 refine WC.lO [4, 10, 11] rfl hs2 (fun k_ f L_ => ∃ (zs : List LinkD) (i : Nat) (A8 : Option Addr) (c9 : Nat), k_ = n_turns - i ∧ (i ≤ n_turns) ∧ (zs = turnsL dir (turns.take i)) ∧ OwnF encLink 101 (.slice A8 (zs.length) c9) (zs) L_ ∧ Sub [(5, .slice A8 (zs.length) c9), (12, .int .i64 i)] f) (((fun (zs : List LinkD) (i : Nat) => n_turns - i) (dir) (0))) ?_ ?_
 ·refine ⟨dir, 0, _, _, rfl, ?_, ?_, ho6, ⟨rfl, rfl, trivial⟩⟩
  · exact Nat.zero_le _
  · rfl
 clear hs2
 rintro _ f w L10 ⟨zs, i, A8, c9, rfl, p0, p1, ho11, hG⟩ hF hs12
 refine WC.sub _ (hG.app hF) ?_
 clear hG hF
 have hzn : zs.length ≤ 2000 := by rw [p1]; have h9 := turnsL_len (dir := dir) (l := (turns.take i)); rw [List.length_take] at h9; omega
 have hsz : sortedL zs := by rw [p1]; exact sorted_turns hp (runI_pre hr)
 have hzz : ∀ x, x ∈ zs → smLink 549755813888 x := by rw [p1]; exact sm_turns hz (sm_pre hzt i)
 refine WC.r1 hs12 [] rfl (WC.seq (fun K13 hK13 => ?_))
 refine WC.cq rfl (fun h14 qh14 => ?_) (fun h14 qh14 => ?_)
 ·obtain ⟨htz1, htz2⟩ := hzt _ (gat_mem (F := encTurn) (xs := turns) (k := i) (by omega))
  refine WC.skip (hK13 _ _ (WC.seq (fun K15 hK15 => WC.block (WC.sr ?_))))
  refine WL.val rfl rfl rfl (Run.idxN Tryz.runUnderlying32 Tryz.sizeOf137 rfl rfl rfl ?_ ?_ ?_) ?_
  · exact SlF.some_ (SlF.st0 f_turns hs12)
  · omega
  · omega
  refine WL.val rfl rfl rfl (Run.loadA Tryz.isAgg137 Tryz.sizeOf137 rfl rfl (SlF.whole (SlF.st0 f_turns hs12) ?_)) ?_
  · omega
  refine WL.al hs12 Tryz.zeroValue137 rfl rfl (fun b16 _ hs17 => WL.st tbk hs17 0 rfl rfl (fun _ hs18 => WL.nil (WC.region (WL.r 2 hs18 [0] rfl ?_))))
  refine WL.cl Tryz.call140 rfl (k48_ _ _ _ _ _ _ _ _ _ (SlF.ofOwn ho11 (hs18.ow L10)) ?_ ?_ ?_ ?_) ?_
  iterate 4 first | assumption | rfl | omega
  rintro _ whs19 ⟨A20, c21, xs22, L1_23, rfl, hs19, ho24, hx25⟩
  replace hs19 := hs18.callF hs19
  refine ⟨_, rfl, ?_⟩
  replace hs19 := St.back [_] hs19
  refine WL.r 1 hs19 [] rfl ?_
  have hxx9 := hx25
  refine WL.r 3 hs19 [] rfl (WL.nil (hK15 _ _ (WC.region (WL.r 2 hs19 [] rfl (WL.nil (tkN ?_))))))
  replace hs19 := (hs19.d1.rm L10)
  refine ⟨sbF rfl, _, hs19, _, ?_, _, i + 1, _, _, rfl, ?_, ?_, ho24, ⟨rfl, rfl, trivial⟩⟩
  · omega
  · omega
  · rw [turnsL_take (by omega), ← p1]; exact hxx9 (by rw [p1]; exact runI_at hr (by omega))
 refine WC.exit (hK7 _ _ (WC.r1 hs12 [] rfl (WC.ret (retV1 rfl (resV.tmp rfl) ?_))))
 have hx_ := OwnF.eqOf (xs := turnsL dir turns) ho11 (by rw [p1, List.take_of_length_le (by omega)])
 rw [← hx_]
 first | exact ⟨_, _, _, rfl, (St.keep1 hs12), ho11⟩ | exact ⟨A8, c9, _, by rw [OwnF.len_ ho11], (St.keep1 hs12), by rw [OwnF.len_ ho11]; exact ho11⟩
theorem k55_ (d : DiskR) (w : World) (f_d : okDiskR 549755813888 w d) (hok : diskOk d.dat = true) :
    Calls Tryz.prog 134 #[.agg #[i64 d.Room, i64 d.Fuse, i64 d.Next, .slice d.Files.A d.Files.n d.Files.c, .slice d.Kept.A d.Kept.n d.Kept.c, .slice d.Turns.A d.Turns.n d.Turns.c]] w fun e w' => ∃ A c L1, e = .returned (.slice A (dirD d.dat).length c) ∧ St w [] L1 w' ∧ OwnF encLink 101 (.slice A (dirD d.dat).length c) (dirD d.dat) L1 := by
 have nb_d_Files := f_d.Files_n
 have nl_d_Files := f_d.Files.sl.len
 have nb_d_Kept := f_d.Kept_n
 have nl_d_Kept := f_d.Kept.len
 have nb_d_Turns := f_d.Turns_n
 have nl_d_Turns := f_d.Turns.len
 have hD := diskOk_P hok
 obtain ⟨hs1, hs2, hs3, hs4, hs5, hs6, hs7, hs8⟩ := hD.small
 have hl1 := f_d.Files.sl.len
 have hl2 := f_d.Kept.len
 have hl3 := f_d.Turns.len
 have hm1 : d.Files.n ≤ 10 := by rw [← hl1, ← List.length_map (f := FileR.dat)]; exact hs1
 have hm2 : d.Kept.n ≤ 10 := by rw [← hl2]; exact hs2
 have hm3 : d.Turns.n ≤ 30 := by rw [← hl3]; exact hs3
 have hdl : (dirD d.dat).length ≤ 40 := Nat.le_trans turnsL_len (by show d.Kept.xs.length + d.Turns.xs.length ≤ 40; omega)
 refine enter 8 Tryz.func134 rfl Tryz.ntmps134 rfl rfl ?_
 have hs1 := St.init w
 refine WC.sr (WL.bx hs1 rfl (fun b2 _ hs3 => WL.r 1 hs3 [] rfl (WL.nil (WC.sr (WL.r 4 hs3 [0, 0] rfl ?_)))))
 refine WL.cl Tryz.call84 rfl (k54_ _ _ _ _ _ _ _ _ _ (SlF.st0 f_d.Kept hs3) (SlF.st0 f_d.Turns hs3) ?_ ?_ ?_ ?_ ?_ ?_) ?_
 iterate 6 first | assumption | rfl | omega | exact hD.sorted | exact hD.runi | exact f_d.Kept_s | exact f_d.Turns_s
 rintro _ whs4 ⟨A5, c6, L1_7, rfl, hs4, ho8⟩
 replace hs4 := hs3.callF hs4
 refine ⟨_, rfl, ?_⟩
 replace hs4 := St.back [_] hs4
 refine WL.r 1 hs4 [] rfl (WL.nil (WC.ret (retV1 rfl (resV.tmp rfl) ?_)))
 have hx_ := OwnF.eqOf (xs := dirD d.dat) ho8 (by rfl)
 rw [← hx_]
 first | exact ⟨_, _, _, rfl, (St.keep1 (hs4.fr L1_7)), ho8⟩ | exact ⟨A5, c6, _, by rw [OwnF.len_ ho8], (St.keep1 (hs4.fr L1_7)), by rw [OwnF.len_ ho8]; exact ho8⟩
theorem k56_ (f : FileR) (b_x : Nat) (x : SlD LinkD) (b_k : Nat) (q : Int) (k : Nat) (w : World) (f_x : SlF encVL w (some ⟨b_x, 0, none⟩) 1 [x]) (g_x : SlF encLink w x.A x.n x.xs) (f_k : SlF encI w (some ⟨b_k, 0, none⟩) 1 [q]) (hq : q = (k : Int)) (hk : k < x.n) :
    Calls Tryz.prog 171 #[.agg #[i64 f.Id, .slice f.Body.A f.Body.n f.Body.c, i64 f.Safe], .pointer (some ⟨b_x, 0, none⟩), .pointer (some ⟨b_k, 0, none⟩)] w fun e w' => e = .returned (.bool (decide (f.Id = (gat encLink x.xs k).Id))) ∧ St w [] [] w' := by
 refine enter 13 Tryz.func171 rfl Tryz.ntmps171 rfl rfl ?_
 have hs1 := St.init w
 refine WC.sr (WL.bx hs1 rfl (fun b2 _ hs3 => WL.r 1 hs3 [] rfl (WL.nil (WC.sq1 hs3 (WQ.r 2 [0] rfl ?_)))))
 refine WQ.val rfl rfl rfl (fun w_ hs_ => (Run.load Tryz.isAgg31 rfl rfl (SlF.var (SlF.st0 f_x (hs_ : St _ _ _ _)) rfl))) ?_
 refine WQ.val rfl rfl rfl (fun w_ hs_ => (Run.load Tryz.isAgg3 rfl rfl (SlF.var (SlF.st0 f_k (hs_ : St _ _ _ _)) rfl))) ?_
 refine WQ.val rfl rfl rfl (fun w_ hs_ => (Run.idxK (k) Tryz.runUnderlying31 Tryz.sizeOf101 rfl rfl rfl ?_ ?_ ?_)) ?_
 · exact SlF.some_ (SlF.st0 g_x (hs_ : St _ _ _ _))
 · omega
 · omega
 refine WQ.val rfl rfl rfl (fun w_ hs_ => (Run.fieldO Tryz.runUnderlying101 rfl rfl rfl Tryz.sizeOf3 rfl)) ?_
 refine WQ.val rfl rfl rfl (fun w_ hs_ => (Run.load Tryz.isAgg3 rfl rfl (SlF.fld (SlF.st0 g_x (hs_ : St _ _ _ _)) ?_ rfl))) ?_
 · omega
 refine WQ.r 2 [] rfl (WQ.nil (fun _ (hs4 : St _ _ _ _) => WC.ret (rtv rfl rfl hs4 ?_)))
 rfl
theorem k57_ (A_s : Option Addr) (n_s c_s : Nat) (s : List FileR) (b_x : Nat) (x : SlD LinkD) (b_k : Nat) (q : Int) (k : Nat) (w : World) (f_s : SlN encFileR (okFileR 549755813888) w A_s n_s s) (f_x : SlF encVL w (some ⟨b_x, 0, none⟩) 1 [x]) (g_x : SlF encLink w x.A x.n x.xs) (f_k : SlF encI w (some ⟨b_k, 0, none⟩) 1 [q]) (hn : n_s ≤ 1048576) (hq : q = (k : Int)) (hk : k < x.n) :
    Calls Tryz.prog 170 #[.slice A_s n_s c_s, .func (.func 171) #[] #[.pointer (some ⟨b_x, 0, none⟩), .pointer (some ⟨b_k, 0, none⟩)]] w fun e w' => e = .returned (.int .i64 (findI (fun f : FileR => decide (f.Id = (gat encLink x.xs k).Id)) s)) ∧ St w [] [] w' := by
 have hsl := f_s.sl.len
 refine enter 19 Tryz.func170 rfl Tryz.ntmps170 rfl rfl ?_
 have hs1 := St.init w
 refine WC.r1 hs1 [] rfl (WC.seq (fun K2 hK2 => WC.r1 hs1 [] rfl (WC.block ?_)))
 refine WC.lS [0, 1, 7] rfl hs1 (fun k_ f w' => ∃ (i : Nat), k_ = n_s - i ∧ (i ≤ n_s) ∧ (∀ j, j < i → (fun f : FileR => decide (f.Id = (gat encLink x.xs k).Id)) (gat encFileR s j) = false) ∧ Sub [(8, .int .i64 i)] f) ((fun (i : Nat) => n_s - i) (0)) ?_ ?_
 ·refine ⟨0, rfl, ?_, ?_, ⟨rfl, trivial⟩⟩
  · exact Nat.zero_le _
  · exact fun j hj => absurd hj (by omega)
 clear hs1
 rintro _ f w ⟨i, rfl, p0, p1, hG⟩ hF hs3
 refine WC.sub _ (hG.app hF) ?_
 clear hG hF
 refine WC.r1 hs3 [] rfl (WC.seq (fun K4 hK4 => ?_))
 refine WC.cq rfl (fun h5 qh5 => ?_) (fun h5 qh5 => ?_)
 ·refine WC.skip (hK4 _ _ (WC.seq (fun K6 hK6 => WC.block (WC.r1 hs3 [] rfl (WC.sr (WL.r 3 hs3 [] rfl ?_))))))
  refine WL.val rfl rfl rfl (Run.idxN Tryz.runUnderlying30 Tryz.sizeOf123 rfl rfl rfl ?_ ?_ ?_) ?_
  · exact SlF.some_ (SlF.st0 f_s.sl hs3)
  · omega
  · omega
  refine WL.val rfl rfl rfl (Run.loadA Tryz.isAgg123 Tryz.sizeOf123 rfl rfl (SlF.whole (SlF.st0 f_s.sl hs3) ?_)) ?_
  · omega
  refine WL.call rfl rfl rfl (Run.callC Tryz.call171 rfl rfl rfl) (k56_ _ _ x _ _ k _ (SlF.st0 f_x hs3) (SlF.st0 g_x hs3) (SlF.st0 f_k hs3) ?_ ?_) ?_
  iterate 2 first | assumption | rfl | omega
  rintro _ whs7 ⟨rfl, hs7⟩
  replace hs7 := hs3.call0 hs7
  refine ⟨_, rfl, WL.nil (WC.cq rfl (fun h8 qh8 => ?_) (fun h8 qh8 => ?_))⟩
  ·refine WC.r1 hs7 [] rfl (WC.ret (ibR (tkR (tkR (ibR (tkR ?_))))))
   clear hK6 hK2
   refine rtv rfl rfl hs7 ?_
   rw [findI_some (F := encFileR) (i := i) (by omega) p1 h8]
  refine WC.skip (hK6 _ _ (WC.region (WL.r 2 hs7 [] rfl (WL.nil (tkN ?_)))))
  refine ⟨sbF rfl, hs7, _, ?_, i + 1, rfl, ?_, ?_, ⟨rfl, trivial⟩⟩
  · omega
  · omega
  · intro j hj; rcases Nat.lt_or_ge j i with h_ | h_
    · exact p1 j h_
    · obtain rfl : j = i := by omega
      exact h8
 refine WC.exit (hK2 _ _ (WC.r1 hs3 [] rfl (WC.ret (rtv rfl rfl hs3 ?_))))
 rw [findI_none (F := encFileR) (fun j hj => p1 j (by omega))]
theorem k58_ (d : DiskR) (name : ByteArray) (w : World) (f_d : okDiskR 549755813888 w d) (hok : diskOk d.dat = true) :
    Calls Tryz.prog 117 #[.agg #[i64 d.Room, i64 d.Fuse, i64 d.Next, .slice d.Files.A d.Files.n d.Files.c, .slice d.Kept.A d.Kept.n d.Kept.c, .slice d.Turns.A d.Turns.n d.Turns.c], .string name] w fun e w' => e = .returned (.int .i64 (fileI d.dat name)) ∧ St w [] [] w' := by
 have nb_d_Files := f_d.Files_n
 have nl_d_Files := f_d.Files.sl.len
 have nb_d_Kept := f_d.Kept_n
 have nl_d_Kept := f_d.Kept.len
 have nb_d_Turns := f_d.Turns_n
 have nl_d_Turns := f_d.Turns.len
 have hD := diskOk_P hok
 obtain ⟨hs1, hs2, hs3, hs4, hs5, hs6, hs7, hs8⟩ := hD.small
 have hl1 := f_d.Files.sl.len
 have hl2 := f_d.Kept.len
 have hl3 := f_d.Turns.len
 have hm1 : d.Files.n ≤ 10 := by rw [← hl1, ← List.length_map (f := FileR.dat)]; exact hs1
 have hm2 : d.Kept.n ≤ 10 := by rw [← hl2]; exact hs2
 have hm3 : d.Turns.n ≤ 30 := by rw [← hl3]; exact hs3
 have hdl : (dirD d.dat).length ≤ 40 := Nat.le_trans turnsL_len (by show d.Kept.xs.length + d.Turns.xs.length ≤ 40; omega)
 refine enter 18 Tryz.func117 rfl Tryz.ntmps117 rfl rfl ?_
 have hs1 := St.init w
 refine WC.sr (WL.bx hs1 rfl (fun b2 _ hs3 => WL.r 1 hs3 [] rfl (WL.nil (WC.sr (WL.r 1 hs3 [0] rfl ?_)))))
 refine WL.cl Tryz.call134 rfl (k55_ d _ (okDiskR.st0 f_d hs3) ?_) ?_
 · first | assumption | rfl | omega
 rintro _ whs4 ⟨A5, c6, L1_7, rfl, hs4, ho8⟩
 replace hs4 := hs3.callF hs4
 refine ⟨_, rfl, ?_⟩
 replace hs4 := St.back [_] hs4
 refine WL.al hs4 Tryz.zeroValue31 rfl rfl (fun b9 _ hs10 => WL.st tbk hs10 0 rfl rfl (fun _ hs11 => WL.nil (WC.sr (WL.r 2 hs11 [0] rfl ?_))))
 refine WL.cl Tryz.call150 rfl (k37_ _ _ _ _ _ _ (SlF.ofOwn ho8 (hs11.ow L1_7)) ?_) ?_
 · first | assumption | rfl | omega
 rintro _ whs12 ⟨rfl, hs12⟩
 replace hs12 := hs11.call0 hs12
 refine ⟨_, rfl, WL.al hs12 Tryz.zeroValue3 rfl rfl (fun b13 _ hs14 => WL.st tbk hs14 0 rfl rfl (fun _ hs15 => WL.nil (WC.seq (fun K16 hK16 => WC.r1 hs15 [0] rfl ?_))))⟩
 refine WC.cq rfl (fun h17 qh17 => ?_) (fun h17 qh17 => ?_)
 ·have hh := has_no (dir := dirD d.dat) (n := name) (by have h8 := h17; simpa using h8)
  refine WC.r1 hs15 [] rfl (WC.ret (tkR ?_))
  clear hK16
  refine rtv rfl rfl hs15 ?_
  rw [fileI_n hh]
 obtain ⟨k9, hk9, hf9, hg9⟩ := idx_get (dir := dirD d.dat) (n := name) (by have h8 := h17; simp at h8; omega)
 have hh : hasN (dirD d.dat) name = true := has_idx (by omega)
 refine WC.skip (hK16 _ _ (WC.sr (WL.r 2 hs15 [2] rfl (WL.val rfl rfl rfl (Run.makeFunc rfl rfl) ?_))))
 refine WL.cl Tryz.call170 rfl (k57_ _ _ _ _ _ (⟨A5, (dirD d.dat).length, c6, dirD d.dat⟩ : SlD LinkD) _ _ k9 _ (SlN.st0 okFileR.st0 f_d.Files hs15) (SlF.own1 (hs15.own _ (nthL_mem (i := 1) rfl)).1) (SlF.ofOwn ho8 (hs15.ow L1_7)) (SlF.own1 (hs15.own _ (nthL_mem (i := 0) rfl)).1) ?_ ?_ ?_) ?_
 iterate 3 first | assumption | rfl | omega
 rintro _ whs18 ⟨rfl, hs18⟩
 replace hs18 := hs15.call0 hs18
 refine ⟨_, rfl, WL.r 1 hs18 [] rfl (WL.nil (WC.ret (rtv rfl rfl hs18 ?_)))⟩
 rw [file_idx hD hh hg9, fileI_y hh]
theorem k59_ (op : DiskOpR) (w : World) (f_op : okDiskOpR 549755813888 w op) :
    Calls Tryz.prog 88 #[.agg #[i64 op.Kind, .string op.Name, .string op.To, .slice op.Data.A op.Data.n op.Data.c]] w fun e w' => e = .returned (.bool (dopOk op.dat)) ∧ St w [] [] w' := by
 have nz_op_Name := f_op.Name_z
 have nz_op_To := f_op.To_z
 have nb_op_Data := f_op.Data_n
 have nl_op_Data := f_op.Data.len
 have hdl : op.dat.Data.length = op.Data.n := f_op.Data.len
 have hz1 := f_op.Name_z
 have hz2 := f_op.To_z
 refine enter 48 Tryz.func88 rfl Tryz.ntmps88 rfl rfl ?_
 have hs1 := St.init w
 refine WC.sr (WL.bx hs1 rfl (fun b2 _ hs3 => WL.r 1 hs3 [] rfl (WL.nil (WC.seq (fun K4 hK4 => WC.sr (WL.r 2 hs3 [0] rfl (WL.cl Tryz.call61 rfl (k0_ _ _ _ _) ?_)))))))
 rintro _ whs5 ⟨rfl, hs5⟩
 replace hs5 := hs3.call0 hs5
 refine ⟨_, rfl, WL.r 1 hs5 [] rfl (WL.nil (WC.cq rfl (fun h6 qh6 => ?_) (fun h6 qh6 => ?_)))⟩
 ·have hw : within op.dat.Kind 1 6 = false := by have h9 := h6; show within op.Kind 1 6 = false; simpa using h9
  refine WC.r1 hs5 [] rfl (WC.ret (tkR ?_))
  clear hK4
  refine rtv rfl rfl hs5 ?_
  unfold dopOk; rw [hw]; rfl
 have hw : within op.dat.Kind 1 6 = true := by have h9 := h6; show within op.Kind 1 6 = true; simpa using h9
 refine WC.skip (hK4 _ _ (WC.sr (WL.r 2 hs5 [0] rfl ?_)))
 refine WL.cl Tryz.call149 rfl (k22_ _ _ ?_) ?_
 · first | assumption | rfl | omega
 rintro _ whs7 ⟨rfl, hs7⟩
 replace hs7 := hs5.call0 hs7
 refine ⟨_, rfl, WL.r 1 hs7 [] rfl (WL.nil (WC.seq (fun K8 hK8 => WC.r1 hs7 [0] rfl ?_)))⟩
 refine WC.cq rfl (fun h9 qh9 => ?_) (fun h9 qh9 => ?_)
 ·have k6 : op.Kind = 6 := by have h9 := h9; simpa using h9
  refine WC.region (WL.r 4 hs7 [0] rfl (WL.nil (hK8 _ _ (WC.r1 hs7 [0] rfl (WC.seq (fun K10 hK10 => WC.r1 hs7 [0] rfl ?_))))))
  refine WC.condF rfl (by rw [decide_eq_false_iff_not]; omega) (WC.skip (hK10 _ _ (WC.sr (WL.r 2 hs7 [] rfl (WL.pA tbk 1 Acts.nil hs7 [] rfl rfl rfl rfl (fun g_ => trivial) (WL.r 1 hs7 [] rfl (WL.pA tbk 4 Acts.nil hs7 [0] rfl rfl rfl rfl (fun g_ => ⟨rfl, trivial⟩) ?_)))))))
  refine WL.r 1 hs7 [] rfl ?_
  apply WL.gA 9 Acts.nil hs7 rfl
  ·intro g12 J13
   have qg12 := g12
   try simp only [bf, within_iff, within_not] at qg12
   refine WL.runA tbk 4 (Acts.nil.cons (j := 10) rfl g12) hs7 [0] rfl ⟨rfl, trivial⟩ (WL.pO tbk 4 (Acts.nil.cons (j := 10) rfl g12) hs7 [0] rfl rfl rfl rfl (fun g_ => ⟨rfl, trivial⟩) (WL.eA 5 Acts.nil J13 hs7 g12 rfl rfl))
  intro _ hs14
  refine WL.r 1 hs14 [] rfl (WL.nil (WC.ret (rtv rfl rfl hs14 ?_)))
  unfold dopOk; rw [hw, Bool.true_and, hdl, opName_y k6, opTo_n (by rw [k6]; decide)]; rfl
 have k6 : ¬ op.Kind = 6 := by have h9 := h9; simpa using h9
 refine WC.skip (hK8 _ _ (WC.r1 hs7 [0] rfl (WC.seq (fun K15 hK15 => WC.r1 hs7 [0] rfl ?_))))
 refine WC.cq rfl (fun h16 qh16 => ?_) (fun h16 qh16 => ?_)
 ·have k4 : op.Kind = 4 := by have h9 := h16; simpa using h9
  refine WC.region (WL.r 2 hs7 [0] rfl (WL.cl Tryz.call149 rfl (k22_ _ _ ?_) ?_))
  · first | assumption | rfl | omega
  rintro _ whs17 ⟨rfl, hs17⟩
  replace hs17 := hs7.call0 hs17
  refine ⟨_, rfl, WL.r 1 hs17 [] rfl (WL.nil (hK15 _ _ (WC.sr (WL.r 2 hs17 [] rfl (WL.pA tbk 1 Acts.nil hs17 [] rfl rfl rfl rfl (fun g_ => trivial) (WL.r 1 hs17 [] rfl ?_))))))⟩
  refine WL.pA tbk 4 Acts.nil hs17 [0] rfl rfl rfl rfl (fun g_ => ⟨rfl, trivial⟩) (WL.r 1 hs17 [] rfl ?_)
  apply WL.gA 9 Acts.nil hs17 rfl
  ·intro g18 J19
   have qg18 := g18
   try simp only [bf, within_iff, within_not] at qg18
   refine WL.runA tbk 4 (Acts.nil.cons (j := 10) rfl g18) hs17 [0] rfl ⟨rfl, trivial⟩ (WL.pO tbk 4 (Acts.nil.cons (j := 10) rfl g18) hs17 [0] rfl rfl rfl rfl (fun g_ => ⟨rfl, trivial⟩) (WL.eA 5 Acts.nil J19 hs17 g18 rfl rfl))
  intro _ hs20
  refine WL.r 1 hs20 [] rfl (WL.nil (WC.ret (rtv rfl rfl hs20 ?_)))
  unfold dopOk; rw [hw, Bool.true_and, hdl, opName_n k6, opTo_y k4]; rfl
 have k4 : ¬ op.Kind = 4 := by have h9 := h16; simpa using h9
 refine WC.skip (hK15 _ _ (WC.sr (WL.r 2 hs7 [] rfl (WL.pA tbk 1 Acts.nil hs7 [] rfl rfl rfl rfl (fun g_ => trivial) (WL.r 1 hs7 [] rfl (WL.pA tbk 4 Acts.nil hs7 [0] rfl rfl rfl rfl (fun g_ => ⟨rfl, trivial⟩) (WL.r 1 hs7 [] rfl ?_)))))))
 apply WL.gA 9 Acts.nil hs7 rfl
 ·intro g21 J22
  have qg21 := g21
  try simp only [bf, within_iff, within_not] at qg21
  refine WL.runA tbk 4 (Acts.nil.cons (j := 10) rfl g21) hs7 [0] rfl ⟨rfl, trivial⟩ (WL.pO tbk 4 (Acts.nil.cons (j := 10) rfl g21) hs7 [0] rfl rfl rfl rfl (fun g_ => ⟨rfl, trivial⟩) (WL.eA 5 Acts.nil J22 hs7 g21 rfl rfl))
 intro _ hs23
 refine WL.r 1 hs23 [] rfl (WL.nil (WC.ret (rtv rfl rfl hs23 ?_)))
 unfold dopOk; rw [hw, Bool.true_and, hdl, opName_n k6, opTo_n k4]; rfl
theorem k60_ (k : Int) (w : World) :
    Calls Tryz.prog 151 #[i64 k] w fun e w' => e = .returned (.bool (turnK k)) ∧ St w [] [] w' := by
 refine enter 13 Tryz.func151 rfl Tryz.ntmps151 rfl rfl ?_
 have hs1 := St.init w
 refine WC.r1 hs1 [] rfl (WC.sr (WL.r 3 hs1 [] rfl (WL.pO tbk 2 Acts.nil hs1 [] rfl rfl rfl rfl (fun g_ => trivial) (WL.r 1 hs1 [] rfl (WL.pO tbk 2 Acts.nil hs1 [] rfl rfl rfl rfl (fun g_ => trivial) (WL.r 1 hs1 [] rfl (WL.nil ?_)))))))
 refine WC.ret (rtv rfl rfl hs1 ?_)
 rfl
theorem k61_ (A_s : Option Addr) (n_s c_s : Nat) (s : List UInt8) (w : World) (f_s : SlF encB w A_s n_s s) (hn : n_s ≤ 268435456) :
    Calls Tryz.prog 118 #[.slice A_s n_s c_s] w fun e w' => ∃ A c L1, e = .returned (.slice A (s).length c) ∧ St w [] L1 w' ∧ OwnF encB 5 (.slice A (s).length c) (s) L1 := by
 have hl := f_s.len
 refine enter 8 Tryz.func118 rfl Tryz.ntmps118 rfl rfl ?_
 have hs1 := St.init w
 refine WC.r1 hs1 [] rfl (WC.seq (fun K2 hK2 => WC.sr (WL.r 1 hs1 [] rfl (WL.val rfl rfl rfl (Run.eqlNil Tryz.underlying43 rfl rfl rfl) (WL.nil ?_)))))
 refine WC.cq rfl (fun h3 qh3 => ?_) (fun h3 qh3 => ?_)
 ·obtain rfl : A_s = none := by simpa using qh3
  have h0 : n_s = 0 := SlF.none_ f_s
  have hs : s = [] := List.eq_nil_of_length_eq_zero (by omega)
  refine WC.r1 hs1 [] rfl (WC.ret (tkR ?_))
  clear hK2
  refine retV1 rfl (resV.tmp rfl) ?_
  have hx_ := OwnF.eqOf (xs := s) (OwnF.nil encB 5) (by rw [hs])
  rw [← hx_]
  exact ⟨_, _, _, rfl, hs1.nil, (OwnF.nil encB 5)⟩
 refine WC.skip (hK2 _ _ (WC.sr (WL.buildF (F := encB) hs1 ([]) Tryz.runUnderlying43 Tryz.sizeOf5 Tryz.zeroValue5 rfl rfl rfl rfl rfl rfl rfl rfl rfl rfl rfl rfl (fun A7 c8 L4 whs5 hs5 ho6 => WL.r 1 hs5 [] rfl ?_))))
 refine WL.appendG hs5 ho6 (SlF.src (SlF.st0 f_s hs5) Tryz.underlying43) Tryz.underlying43 inf5 rfl rfl rfl rfl rfl rfl rfl rfl rfl rfl ?_ (fun A12 c13 L9 whs10 hs10 ho11 => ?_)
 · simp; omega
 refine WL.r 1 hs10 [] rfl (WL.nil (WC.ret (retV1 rfl (resV.tmp rfl) ?_)))
 have hx_ := OwnF.eqOf (xs := s) ho11 (by simp)
 rw [← hx_]
 first | exact ⟨_, _, _, rfl, (St.keep1 hs10), ho11⟩ | exact ⟨A12, c13, _, by rw [OwnF.len_ ho11], (St.keep1 hs10), by rw [OwnF.len_ ho11]; exact ho11⟩
theorem k62_ (A_s : Option Addr) (n_s c_s : Nat) (s : List TurnD) (w : World) (f_s : SlF encTurn w A_s n_s s) (hn : n_s ≤ 268435456) :
    Calls Tryz.prog 129 #[.slice A_s n_s c_s] w fun e w' => ∃ A c L1, e = .returned (.slice A (s).length c) ∧ St w [] L1 w' ∧ OwnF encTurn 137 (.slice A (s).length c) (s) L1 := by
 have hl := f_s.len
 refine enter 8 Tryz.func129 rfl Tryz.ntmps129 rfl rfl ?_
 have hs1 := St.init w
 refine WC.r1 hs1 [] rfl (WC.seq (fun K2 hK2 => WC.sr (WL.r 1 hs1 [] rfl (WL.val rfl rfl rfl (Run.eqlNil Tryz.underlying32 rfl rfl rfl) (WL.nil ?_)))))
 refine WC.cq rfl (fun h3 qh3 => ?_) (fun h3 qh3 => ?_)
 ·obtain rfl : A_s = none := by simpa using qh3
  have h0 : n_s = 0 := SlF.none_ f_s
  have hs : s = [] := List.eq_nil_of_length_eq_zero (by omega)
  refine WC.r1 hs1 [] rfl (WC.ret (tkR ?_))
  clear hK2
  refine retV1 rfl (resV.tmp rfl) ?_
  have hx_ := OwnF.eqOf (xs := s) (OwnF.nil encTurn 137) (by rw [hs])
  rw [← hx_]
  exact ⟨_, _, _, rfl, hs1.nil, (OwnF.nil encTurn 137)⟩
 refine WC.skip (hK2 _ _ (WC.sr (WL.buildF (F := encTurn) hs1 ([]) Tryz.runUnderlying32 Tryz.sizeOf137 Tryz.zeroValue137 rfl rfl rfl rfl rfl rfl rfl rfl rfl rfl rfl rfl (fun A7 c8 L4 whs5 hs5 ho6 => WL.r 1 hs5 [] rfl ?_))))
 refine WL.appendG hs5 ho6 (SlF.src (SlF.st0 f_s hs5) Tryz.underlying32) Tryz.underlying32 inf137 rfl rfl rfl rfl rfl rfl rfl rfl rfl rfl ?_ (fun A12 c13 L9 whs10 hs10 ho11 => ?_)
 · simp; omega
 refine WL.r 1 hs10 [] rfl (WL.nil (WC.ret (retV1 rfl (resV.tmp rfl) ?_)))
 have hx_ := OwnF.eqOf (xs := s) ho11 (by simp)
 rw [← hx_]
 first | exact ⟨_, _, _, rfl, (St.keep1 hs10), ho11⟩ | exact ⟨A12, c13, _, by rw [OwnF.len_ ho11], (St.keep1 hs10), by rw [OwnF.len_ ho11]; exact ho11⟩
theorem built_123_0_1_2 (x0 : Int) (x1 : Option Addr) (x2 : Nat) (x3 : Nat) (x4 : Int) : Tryz.prog.built 123 [(0, .int .i64 x0), (1, .slice x1 x2 x3), (2, .int .i64 x4)] = some (List.toArray [.int .i64 x0, .slice x1 x2 x3, .int .i64 x4]) := by kernel_rfl
set_option maxHeartbeats 4000000 in
theorem k63_ (d : DiskR) (w : World) (f_d : okDiskR 549755813888 w d) (hsm : smDisk 1048576 d.dat) :
    Calls Tryz.prog 75 #[.agg #[i64 d.Room, i64 d.Fuse, i64 d.Next, .slice d.Files.A d.Files.n d.Files.c, .slice d.Kept.A d.Kept.n d.Kept.c, .slice d.Turns.A d.Turns.n d.Turns.c]] w fun e w' => ∃ r L1, e = .returned (.agg #[i64 r.Room, i64 r.Fuse, i64 r.Next, .slice r.Files.A r.Files.n r.Files.c, .slice r.Kept.A r.Kept.n r.Kept.c, .slice r.Turns.A r.Turns.n r.Turns.c]) ∧ St w [] L1 w' ∧ ownDiskR r L1 ∧ r.dat = d.dat := by
 have nb_d_Files := f_d.Files_n
 have nl_d_Files := f_d.Files.sl.len
 have nb_d_Kept := f_d.Kept_n
 have nl_d_Kept := f_d.Kept.len
 have nb_d_Turns := f_d.Turns_n
 have nl_d_Turns := f_d.Turns.len
 have hF9 : d.Files.xs.length ≤ 1048576 := by have h_ := hsm.1; simpa [DiskR.dat] using h_
 have hl1 := f_d.Files.sl.len
 have hl2 := f_d.Kept.len
 have hl3 := f_d.Turns.len
 have hm2 : d.Kept.xs.length ≤ 1048576 := hsm.2.2.1
 have hm3 : d.Turns.xs.length ≤ 1048576 := hsm.2.2.2.2.1
 refine enter 37 Tryz.func75 rfl Tryz.ntmps75 rfl rfl ?_
 have hs1 := St.init w
 refine WC.sr (WL.bx hs1 rfl (fun b2 _ hs3 => WL.al hs3 Tryz.zeroValue34 rfl rfl (fun b4 _ hs5 => WL.nil (WC.sr (WL.buildF (F := encFileR) hs5 ([]) Tryz.runUnderlying30 Tryz.sizeOf123 Tryz.zeroValue123 rfl rfl rfl rfl rfl rfl rfl rfl rfl rfl rfl rfl (fun A9 c10 L6 whs7 hs7 ho8 => ?_))))))
 replace hs7 := St.back [_, _] hs7
 obtain ⟨L11, hs12, ho13⟩ := OwnN.fresh (own := ownFileR) (hs7.fr L6) ho8 Bag.nil
 have hs14 := ((hs12.fb b2).fb b4)
 refine WL.r 1 hs14 [] rfl (WL.nil (WC.seq (fun K15 hK15 => WC.r1 hs14 [1] rfl (WC.block ?_))))
 have hM20 := (St.grp1 (L1 := L11) [] (((hs14.fb b2).fb b4).fr L11))
 refine WC.lV [1, 2, 8, 9] rfl hM20 (fun k_ (a_ : Hp) f => ∃ (i : Nat) (fs : List FileR) (A16 : Option Addr) (c17 : Nat) (L18 : Hp), k_ = d.Files.n - i ∧ a_ = L18 ∧ (i ≤ d.Files.n) ∧ (fs.map FileR.dat = (d.Files.xs.take i).map FileR.dat) ∧ (fs.length = i) ∧ OwnN encFileR ownFileR 123 (.slice A16 (fs).length c17) (fs) L18 ∧ Sub [(3, .slice A16 (fs).length c17), (10, .int .i64 i)] f) (d.Files.n) ?_ ?_
 ·refine ⟨0, [], A9, c10, L11, rfl, rfl, ?_, ?_, ?_, ho13, ⟨rfl, rfl, trivial⟩⟩
  · exact Nat.zero_le _
  · rfl
  · rfl
 rintro _ L18 f w ⟨i, fs, A16, c17, _, rfl, rfl, p0, p1, p2, ho19, hG⟩ hF hs21
 refine WC.sub _ (hG.app hF) ?_
 clear hG hF
 replace hs21 := St.ungrp1 [] hs21
 have hs22 := ((hs21.fb b2).fb b4)
 refine WC.r1 hs22 [] rfl (WC.seq (fun K23 hK23 => ?_))
 refine WC.cD rfl (fun qh24 => ?_) (fun qh24 => ?_)
 ·have hbl := (SlN.nth f_d.Files (show i < d.Files.n by omega)).Body.len
  have hbn : (gat encFileR d.Files.xs i).Body.xs.length ≤ 1048576 := hsm.2.1 _ (List.mem_map_of_mem (f := FileR.dat) (gat_mem (F := encFileR) (xs := d.Files.xs) (k := i) (by omega)))
  refine WC.skip (hK23 _ _ (WC.seq (fun K25 hK25 => WC.block (WC.sr ?_))))
  refine WL.val rfl rfl rfl (Run.idxN Tryz.runUnderlying30 Tryz.sizeOf123 rfl rfl rfl ?_ ?_ ?_) ?_
  · exact SlF.some_ (SlF.st0 f_d.Files.sl hs22)
  · omega
  · omega
  refine WL.val rfl rfl rfl (Run.loadA Tryz.isAgg123 Tryz.sizeOf123 rfl rfl (SlF.whole (SlF.st0 f_d.Files.sl hs22) ?_)) ?_
  · omega
  refine WL.al hs22 Tryz.zeroValue123 rfl rfl (fun b26 _ hs27 => WL.st tbk hs27 0 rfl rfl (fun _ hs28 => WL.nil (WC.rH (hs28.rm L18) hs28 (fun _ hs29 => ?_))))
  refine WH.rn [0, 1, 2, 3, 4, 6, 7] (hs29.rm L18) [0, 0, 0] rfl rfl (WH.o1 5 rfl (WL.cl Tryz.call118 rfl (k61_ _ _ _ _ _ (SlF.st0 (SlN.nth f_d.Files (by omega)).Body hs29) ?_) ?_))
  · first | assumption | rfl | omega
  rintro _ whs30 ⟨A31, c32, L1_33, rfl, hs30, ho34⟩
  replace hs30 := hs29.callF hs30
  refine ⟨_, rfl, ?_⟩
  replace hs30 := St.back [_, _, _] hs30
  refine WL.nil ⟨((hs30.rm L1_33).rm L18), ?_⟩
  refine WH.take 8 rfl (by kernel_rfl) rfl rfl rfl ((hs30.rm L1_33).rm L18) (fun w_ hs_ => (Run.build rfl rfl rfl rfl (built_123_0_1_2 _ _ _ _ _))) ?_
  refine WH.o1 9 rfl (WL.buildSlice hs30 Tryz.runUnderlying30 Tryz.sizeOf123 Tryz.zeroValue123 rfl rfl rfl rfl rfl rfl rfl rfl rfl rfl (fun b35 whs36 hs36 => WL.nil ⟨((hs36.d1.rm L1_33).rm L18), WH.o1 10 rfl ?_⟩))
  obtain ⟨L37, L38, hs41, ho39, ho40⟩ := OwnN.open_ (hs36.fr L18) ho19
  have hs42 := ((((hs41.fb b2).fb b4).fb b26).fb b35)
  refine WL.appendG (hs42.fr L37) ho39 (srcF (F := encFileR) (ys := [(⟨(gat encFileR d.Files.xs i).Id, SlD.of ho34, (gat encFileR d.Files.xs i).Safe⟩ : FileR)]) Tryz.underlying30 rfl rfl (hs42.own _ (nthL_mem (i := 0) rfl)).1) Tryz.underlying30 inf123 rfl rfl rfl rfl rfl rfl rfl rfl rfl rfl ?_ (fun A46 c47 L43 whs44 hs44 ho45 => ?_)
  · (try simp only [List.length_append, List.length_singleton, List.nil_append, List.length_nil]); first | omega
  replace hs44 := St.back [_, _, _, _] hs44
  obtain ⟨L48, hs49, hb50⟩ := Bag.put (x := (⟨(gat encFileR d.Files.xs i).Id, SlD.of ho34, (gat encFileR d.Files.xs i).Safe⟩ : FileR)) ((hs44.fr L1_33).fr L38) ho40 ho34
  have hs51 := ((((hs49.fb b2).fb b4).fb b26).fb b35)
  obtain ⟨L53, hs52, ho54⟩ := OwnN.fold ((hs51.fr L48).fr L43) ho45 hb50
  have hs55 := ((((hs52.fb b2).fb b4).fb b26).fb b35)
  refine WL.nil ⟨(hs55.d1.rm L53), WH.rn [11] (hs55.d1.rm L53) [] rfl rfl (WH.dn (hK25 _ _ (WC.region (WL.r 2 hs55 [] rfl (WL.nil (tkN ?_))))))⟩
  replace hs55 := hs55.d1.d1
  have hF56 := (St.grp1 (L1 := L53) [] (((hs55.fb b2).fb b4).fr L53))
  refine ⟨sbF rfl, _, hF56, _, ?_, i + 1, ((fs) ++ [(⟨(gat encFileR d.Files.xs i).Id, SlD.of ho34, (gat encFileR d.Files.xs i).Safe⟩ : FileR)]), A46, c47, L53, rfl, rfl, ?_, ?_, ?_, ho54, ⟨rfl, rfl, trivial⟩⟩
  · omega
  · omega
  · rw [List.map_append, p1, map_take_succ (F := encFileR) (by omega)]; rfl
  · simp only [List.length_append, List.length_singleton]; omega
 refine WC.exit (hK15 _ _ (WC.seq (fun K57 hK57 => WC.rG 8 (hs22.fb b2).d1 hs22 hs22 (fun _ hs58 => ?_))))
 refine WG.rn [0, 1, 2, 4, 5, 7] hs58 [1, 1] rfl rfl (WG.o1 3 rfl rfl (WL.cl Tryz.call128 rfl (k38_ _ _ _ _ _ (SlF.st0 f_d.Kept hs58) ?_) ?_))
 · first | assumption | rfl | omega
 rintro _ whs59 ⟨A60, c61, L1_62, rfl, hs59, ho63⟩
 replace hs59 := hs58.callF hs59
 refine ⟨_, rfl, ?_⟩
 replace hs59 := St.back [_, _] hs59
 refine WL.nil ⟨(hs59.rm L1_62), WG.o1 6 rfl rfl (WL.cl Tryz.call129 rfl (k62_ _ _ _ _ _ (SlF.st0 f_d.Turns hs59) ?_) ?_)⟩
 · first | assumption | rfl | omega
 rintro _ whs64 ⟨A65, c66, L1_67, rfl, hs64, ho68⟩
 replace hs64 := hs59.callF hs64
 refine ⟨_, rfl, ?_⟩
 replace hs64 := St.back [_, _] hs64
 refine WL.nil ⟨((hs64.rm L1_67).rm L1_62), WG.oK rfl (WL.st tbk hs64 1 rfl rfl (fun _ hs69 => WL.nil ⟨(((hs69.fb b2).d1.rm L1_67).rm L1_62), WH.rn [9] (((hs69.fb b2).d1.rm L1_67).rm L1_62) [] rfl rfl (WH.o1 10 rfl (WL.st tbk hs69 1 rfl rfl (fun _ hs70 => WL.nil ⟨(((hs70.fb b2).d1.rm L1_67).rm L1_62), ?_⟩)))⟩))⟩
 refine WH.rn [11] (((hs70.fb b2).d1.rm L1_67).rm L1_62) [] rfl rfl (WH.o1 12 rfl (WL.st tbk hs70 1 rfl rfl (fun _ hs71 => WL.nil ⟨(((hs71.fb b2).d1.rm L1_67).rm L1_62), WH.dn (hK57 _ _ (WC.sr (WL.r 1 hs71 [1] rfl ?_)))⟩)))
 refine WL.st tbk hs71 0 rfl rfl (fun _ hs72 => WL.nil (WC.ret (retV1 rfl (resV.cellA tbk hs72 0 rfl rfl rfl rfl) ?_)))
 have hb_ : fs.map FileR.dat = d.dat.Files := by rw [p1, List.take_of_length_le (by omega)]; rfl
 obtain ⟨L74, hs73, ho75⟩ := ownDiskR.fl hs72 ho19 ho63 ho68
 have hs76 := ((hs73.fb b2).fb b4)
 refine ownDiskR.ret rfl (St.keep1 (hs76.fr L74)) ho75 ?_
 · exact DiskD.ext' rfl rfl rfl hb_ rfl rfl
theorem k64_ (d : DiskR) (op : DiskOpR) (w : World) (f_d : okDiskR 549755813888 w d) (f_op : okDiskOpR 549755813888 w op) (hok : diskOk d.dat = true) :
    Calls Tryz.prog 89 #[.agg #[i64 d.Room, i64 d.Fuse, i64 d.Next, .slice d.Files.A d.Files.n d.Files.c, .slice d.Kept.A d.Kept.n d.Kept.c, .slice d.Turns.A d.Turns.n d.Turns.c], .agg #[i64 op.Kind, .string op.Name, .string op.To, .slice op.Data.A op.Data.n op.Data.c]] w fun e w' => e = .returned (.int .i64 (refuse d.dat op.dat)) ∧ St w [] [] w' := by
 have nb_d_Files := f_d.Files_n
 have nl_d_Files := f_d.Files.sl.len
 have nb_d_Kept := f_d.Kept_n
 have nl_d_Kept := f_d.Kept.len
 have nb_d_Turns := f_d.Turns_n
 have nl_d_Turns := f_d.Turns.len
 have nz_op_Name := f_op.Name_z
 have nz_op_To := f_op.To_z
 have nb_op_Data := f_op.Data_n
 have nl_op_Data := f_op.Data.len
 have hD := diskOk_P hok
 obtain ⟨hs1, hs2, hs3, hs4, hs5, hs6, hs7, hs8⟩ := hD.small
 have hl1 := f_d.Files.sl.len
 have hl2 := f_d.Kept.len
 have hl3 := f_d.Turns.len
 have hm1 : d.Files.n ≤ 10 := by rw [← hl1, ← List.length_map (f := FileR.dat)]; exact hs1
 have hm2 : d.Kept.n ≤ 10 := by rw [← hl2]; exact hs2
 have hm3 : d.Turns.n ≤ 30 := by rw [← hl3]; exact hs3
 have hdl : (dirD d.dat).length ≤ 40 := Nat.le_trans turnsL_len (by show d.Kept.xs.length + d.Turns.xs.length ≤ 40; omega)
 have hfl : d.dat.Files.length = d.Files.n := by rw [← hl1]; exact List.length_map _
 have htl : d.dat.Turns.length = d.Turns.n := hl3
 refine enter 63 Tryz.func89 rfl Tryz.ntmps89 rfl rfl ?_
 have hs1 := St.init w
 refine WC.sr (WL.bx hs1 rfl (fun b2 _ hs3 => WL.bx hs3 rfl (fun b4 _ hs5 => WL.r 1 hs5 [] rfl (WL.nil (WC.seq (fun K6 hK6 => WC.rH hs5 hs5 (fun _ hs7 => ?_)))))))
 refine WH.rn [0, 2, 3] hs7 [1, 0] rfl rfl (WH.o1 1 rfl (WL.cl Tryz.call134 rfl (k55_ d _ (okDiskR.st0 f_d hs7) ?_) ?_))
 · first | assumption | rfl | omega
 rintro _ whs8 ⟨A9, c10, L1_11, rfl, hs8, ho12⟩
 replace hs8 := hs7.callF hs8
 refine ⟨_, rfl, ?_⟩
 replace hs8 := St.back [_, _] hs8
 refine WL.nil ⟨(hs8.rm L1_11), WH.o1 4 rfl (WL.cl Tryz.call150 rfl (k37_ _ _ _ _ _ _ (SlF.ofOwn ho12 (hs8.ow L1_11)) ?_) ?_)⟩
 · first | assumption | rfl | omega
 rintro _ whs13 ⟨rfl, hs13⟩
 replace hs13 := hs8.call0 hs13
 refine ⟨_, rfl, WL.nil ⟨(hs13.rm L1_11), WH.rn [5, 6] (hs13.rm L1_11) [] rfl rfl (WH.dn (hK6 _ _ (WC.seq (fun K14 hK14 => WC.block (WC.r1 hs13 [1] rfl ?_)))))⟩⟩
 refine WC.cq rfl (fun h15 qh15 => ?_) (fun h15 qh15 => ?_)
 ·have hf : d.dat.Fuse = 0 := by show d.Fuse = 0; have h9 := h15; simpa using h9
  refine WC.r1 hs13 [] rfl (WC.ret (ibR (tkR ?_)))
  clear hK14
  refine rtv rfl rfl hs13 ?_
  rw [refuse_2 hf]
 have hf : ¬ d.dat.Fuse = 0 := by show ¬ d.Fuse = 0; have h9 := h15; simpa using h9
 refine WC.sr (WL.r 4 hs13 [0] rfl (WL.pA tbk 5 Acts.nil hs13 [0] rfl rfl rfl rfl (fun g_ => ⟨rfl, trivial⟩) (WL.r 1 hs13 [] rfl (WL.nil (WC.cq rfl (fun h16 qh16 => ?_) (fun h16 qh16 => ?_))))))
 ·have h3 : op.dat.Kind ≠ 6 ∧ hasN (dirD d.dat) op.dat.Name = decide (op.dat.Kind = 1) := by have h9 := h16; rw [has_dec] at h9; show op.Kind ≠ 6 ∧ hasN (dirD d.dat) op.Name = decide (op.Kind = 1); simpa using h9
  refine WC.r1 hs13 [] rfl (WC.ret (ibR (tkR ?_)))
  clear hK14
  refine rtv rfl rfl hs13 ?_
  rw [refuse_3 hf h3]
 have h3 : ¬ (op.dat.Kind ≠ 6 ∧ hasN (dirD d.dat) op.dat.Name = decide (op.dat.Kind = 1)) := by have h9 := h16; rw [has_dec] at h9; show ¬ (op.Kind ≠ 6 ∧ hasN (dirD d.dat) op.Name = decide (op.Kind = 1)); simpa using h9
 refine WC.sr (WL.r 4 hs13 [0] rfl ?_)
 apply WL.gA 9 Acts.nil hs13 rfl
 ·intro g17 J18
  have qg17 := g17
  try simp only [bf, within_iff, within_not] at qg17
  refine WL.runA tbk 5 (Acts.nil.cons (j := 3) rfl g17) hs13 [1] rfl ⟨rfl, trivial⟩ (WL.pO tbk 3 (Acts.nil.cons (j := 3) rfl g17) hs13 [1] rfl rfl rfl rfl (fun g_ => ⟨rfl, trivial⟩) (WL.eA 6 Acts.nil J18 hs13 g17 rfl rfl))
 intro _ hs19
 refine WL.r 1 hs19 [] rfl (WL.nil (WC.cq rfl (fun h20 qh20 => ?_) (fun h20 qh20 => ?_)))
 ·have h4 : fourD d.dat op.dat := .inl (by show op.Kind = 1 ∧ (d.dat.Files.length = 10 ∨ d.Next = 1000000); have h9 := h20; simp only [Bool.and_eq_true, Bool.or_eq_true, decide_eq_true_eq] at h9; rw [hfl]; omega)
  refine WC.r1 hs19 [] rfl (WC.ret (ibR (tkR ?_)))
  clear hK14
  refine rtv rfl rfl hs19 ?_
  rw [refuse_4 hf h3 h4]
 have n27 : ¬ (op.Kind = 1 ∧ (d.dat.Files.length = 10 ∨ d.Next = 1000000)) := by have h9 := h20; simp only [Bool.and_eq_false_iff, Bool.or_eq_false_iff, decide_eq_false_iff_not] at h9; rw [hfl]; omega
 refine WC.sr (WL.r 2 hs19 [0] rfl (WL.cl Tryz.call151 rfl (k60_ _ _) ?_))
 rintro _ whs21 ⟨rfl, hs21⟩
 replace hs21 := hs19.call0 hs21
 refine ⟨_, rfl, WL.r 1 hs21 [] rfl (WL.pA tbk 4 Acts.nil hs21 [1] rfl rfl rfl rfl (fun g_ => ⟨rfl, trivial⟩) (WL.r 1 hs21 [] rfl (WL.nil (WC.cq rfl (fun h22 qh22 => ?_) (fun h22 qh22 => ?_)))))⟩
 ·have h4 : fourD d.dat op.dat := .inr (.inl (by show turnK op.Kind = true ∧ d.dat.Turns.length = 30; have h9 := h22; simp only [Bool.and_eq_true, Bool.or_eq_true, decide_eq_true_eq] at h9; rw [htl]; exact ⟨h9.1, by have := h9.2; omega⟩))
  refine WC.r1 hs21 [] rfl (WC.ret (ibR (tkR ?_)))
  clear hK14
  refine rtv rfl rfl hs21 ?_
  rw [refuse_4 hf h3 h4]
 have n42 : ¬ (turnK op.Kind = true ∧ d.dat.Turns.length = 30) := by
   have h9 := h22
   simp only [Bool.and_eq_false_iff, Bool.or_eq_false_iff, decide_eq_false_iff_not] at h9
   rw [htl]; rintro ⟨a, b⟩
   rcases h9 with h | h
   · rw [a] at h; cases h
   · omega
 refine WC.sr (WL.r 4 hs21 [0] rfl (WL.pA tbk 5 Acts.nil hs21 [0, 0] rfl rfl rfl rfl (fun g_ => ⟨rfl, rfl, trivial⟩) (WL.r 1 hs21 [] rfl (WL.nil (WC.cq rfl (fun h23 qh23 => ?_) (fun h23 qh23 => ?_))))))
 ·have h4 : fourD d.dat op.dat := .inr (.inr (by show op.Kind = 4 ∧ op.To = op.Name; have h9 := h23; simp only [Bool.and_eq_true, Bool.or_eq_true, decide_eq_true_eq] at h9; exact h9))
  refine WC.r1 hs21 [] rfl (WC.ret (ibR (tkR ?_)))
  clear hK14
  refine rtv rfl rfl hs21 ?_
  rw [refuse_4 hf h3 h4]
 have n52 : ¬ (op.Kind = 4 ∧ op.To = op.Name) := by
   have h9 := h23
   simp only [Bool.and_eq_false_iff, Bool.or_eq_false_iff, decide_eq_false_iff_not] at h9
   rintro ⟨a, b⟩
   rcases h9 with h | h
   · exact h a
   · exact h b
 have h4 : ¬ fourD d.dat op.dat := fun h => h.elim n27 (fun h => h.elim n42 n52)
 refine WC.skip (hK14 _ _ (WC.r1 hs21 [] rfl (WC.ret (rtv rfl rfl hs21 ?_))))
 rw [refuse_0 hf h3 h4]
theorem k65_ (d : DiskR) (n : Nat) (w : World) (f_d : okDiskR 549755813888 w d) (hn : n ≤ d.Turns.n) (h1 : d.Kept.n ≤ 1048576) (h2 : d.Turns.n ≤ 1048576) :
    Calls Tryz.prog 123 #[.agg #[i64 d.Room, i64 d.Fuse, i64 d.Next, .slice d.Files.A d.Files.n d.Files.c, .slice d.Kept.A d.Kept.n d.Kept.c, .slice d.Turns.A d.Turns.n d.Turns.c], .int .i64 n] w fun e w' => ∃ A c L1, e = .returned (.slice A (turnsL d.Kept.xs (d.Turns.xs.take n)).length c) ∧ St w [] L1 w' ∧ OwnF encLink 101 (.slice A (turnsL d.Kept.xs (d.Turns.xs.take n)).length c) (turnsL d.Kept.xs (d.Turns.xs.take n)) L1 := by
 have nb_d_Files := f_d.Files_n
 have nl_d_Files := f_d.Files.sl.len
 have nb_d_Kept := f_d.Kept_n
 have nl_d_Kept := f_d.Kept.len
 have nb_d_Turns := f_d.Turns_n
 have nl_d_Turns := f_d.Turns.len
 have hl2 := f_d.Kept.len
 have hl3 := f_d.Turns.len
 refine enter 24 Tryz.func123 rfl Tryz.ntmps123 rfl rfl ?_
 have hs1 := St.init w
 refine WC.sr (WL.bx hs1 rfl (fun b2 _ hs3 => WL.r 1 hs3 [] rfl (WL.nil (WC.sr (WL.buildF (F := encLink) hs3 ([]) Tryz.runUnderlying31 Tryz.sizeOf101 Tryz.zeroValue101 rfl rfl rfl rfl rfl rfl rfl rfl rfl rfl rfl rfl (fun A7 c8 L4 whs5 hs5 ho6 => ?_))))))
 replace hs5 := St.back [_] hs5
 refine WL.r 2 hs5 [0] rfl (WL.appendG (hs5.fr L4) ho6 (SlF.src (SlF.st0 f_d.Kept hs5) Tryz.underlying31) Tryz.underlying31 inf101 rfl rfl rfl rfl rfl rfl rfl rfl rfl rfl ?_ (fun A12 c13 L9 whs10 hs10 ho11 => ?_))
 · simp; omega
 replace hs10 := St.back [_] hs10
 refine WL.r 1 hs10 [] rfl (WL.nil (WC.seq (fun K14 hK14 => WC.r1 hs10 [] rfl (WC.block ?_))))
 refine WC.lO [1, 2, 4] rfl (hs10.fr L9) (fun k_ f L_ => ∃ (zs : List LinkD) (i : Nat) (A15 : Option Addr) (c16 : Nat), k_ = n - i ∧ (i ≤ n) ∧ (zs = turnsL d.Kept.xs (d.Turns.xs.take i)) ∧ OwnF encLink 101 (.slice A15 (zs.length) c16) (zs) L_ ∧ Sub [(5, .slice A15 (zs.length) c16), (6, .int .i64 i)] f) (((fun (zs : List LinkD) (i : Nat) => n - i) (d.Kept.xs) (0))) ?_ ?_
 ·refine ⟨d.Kept.xs, 0, _, _, rfl, ?_, ?_, ho11, ⟨rfl, rfl, trivial⟩⟩
  · exact Nat.zero_le _
  · rfl
 clear hs10
 rintro _ f w L17 ⟨zs, i, A15, c16, rfl, p0, p1, ho18, hG⟩ hF hs19
 refine WC.sub _ (hG.app hF) ?_
 clear hG hF
 replace hs19 := St.back [_] hs19
 have hzn : zs.length ≤ 2097152 := by rw [p1]; have h9 := turnsL_len (dir := d.Kept.xs) (l := (d.Turns.xs.take i)); rw [List.length_take] at h9; omega
 refine WC.seq (fun K20 hK20 => WC.r1 hs19 [] rfl ?_)
 refine WC.cq rfl (fun h21 qh21 => ?_) (fun h21 qh21 => ?_)
 ·refine WC.skip (hK20 _ _ (WC.seq (fun K22 hK22 => WC.block (WC.region (WL.r 4 hs19 [0] rfl ?_)))))
  refine WL.val rfl rfl rfl (Run.idxN Tryz.runUnderlying32 Tryz.sizeOf137 rfl rfl rfl ?_ ?_ ?_) ?_
  · exact SlF.some_ (SlF.st0 f_d.Turns hs19)
  · omega
  · omega
  refine WL.val rfl rfl rfl (Run.loadA Tryz.isAgg137 Tryz.sizeOf137 rfl rfl (SlF.whole (SlF.st0 f_d.Turns hs19) ?_)) ?_
  · omega
  refine WL.cl Tryz.call106 rfl (k28_ _ _ _ _ _ _ _ _ _ (SlF.ofOwn ho18 (hs19.ow L17)) ?_) ?_
  · first | assumption | rfl | omega
  rintro _ whs23 ⟨A24, c25, L1_26, rfl, hs23, ho27⟩
  replace hs23 := hs19.callF hs23
  refine ⟨_, rfl, ?_⟩
  replace hs23 := St.back [_] hs23
  refine WL.r 1 hs23 [] rfl (WL.nil (hK22 _ _ (WC.region (WL.r 3 hs23 [] rfl (WL.nil (tkN ?_))))))
  replace hs23 := (hs23.rm L17)
  refine ⟨sbF rfl, _, (hs23.fr L1_26), _, ?_, _, i + 1, _, _, rfl, ?_, ?_, ho27, ⟨rfl, rfl, trivial⟩⟩
  · omega
  · omega
  · rw [turnsL_take (by omega), ← p1]
 refine WC.exit (hK14 _ _ (WC.r1 hs19 [] rfl (WC.ret (retV1 rfl (resV.tmp rfl) ?_))))
 have hx_ := OwnF.eqOf (xs := turnsL d.Kept.xs (d.Turns.xs.take n)) ho18 (by rw [p1, show i = n by omega])
 rw [← hx_]
 first | exact ⟨_, _, _, rfl, (St.keep1 (hs19.fr L17)), ho18⟩ | exact ⟨A15, c16, _, by rw [OwnF.len_ ho18], (St.keep1 (hs19.fr L17)), by rw [OwnF.len_ ho18]; exact ho18⟩
theorem k66_ (d : DiskR) (w : World) (f_d : okDiskR 549755813888 w d) (hok : diskOk d.dat = true) (hb : totDisk d.dat ≤ 1048576) :
    Calls Tryz.prog 69 #[.agg #[i64 d.Room, i64 d.Fuse, i64 d.Next, .slice d.Files.A d.Files.n d.Files.c, .slice d.Kept.A d.Kept.n d.Kept.c, .slice d.Turns.A d.Turns.n d.Turns.c]] w fun e w' => ∃ A c L1, e = .returned (.slice A (dirD d.dat).length c) ∧ St w [] L1 w' ∧ OwnF encLink 101 (.slice A (dirD d.dat).length c) (dirD d.dat) L1 := by
 have nb_d_Files := f_d.Files_n
 have nl_d_Files := f_d.Files.sl.len
 have nb_d_Kept := f_d.Kept_n
 have nl_d_Kept := f_d.Kept.len
 have nb_d_Turns := f_d.Turns_n
 have nl_d_Turns := f_d.Turns.len
 have hD := diskOk_P hok
 obtain ⟨hs1, hs2, hs3, hs4, hs5, hs6, hs7, hs8⟩ := hD.small
 have hl1 := f_d.Files.sl.len
 have hl2 := f_d.Kept.len
 have hl3 := f_d.Turns.len
 have hm1 : d.Files.n ≤ 10 := by rw [← hl1, ← List.length_map (f := FileR.dat)]; exact hs1
 have hm2 : d.Kept.n ≤ 10 := by rw [← hl2]; exact hs2
 have hm3 : d.Turns.n ≤ 30 := by rw [← hl3]; exact hs3
 have hdl : (dirD d.dat).length ≤ 40 := Nat.le_trans turnsL_len (by show d.Kept.xs.length + d.Turns.xs.length ≤ 40; omega)
 refine enter 11 Tryz.func69 rfl Tryz.ntmps69 rfl rfl ?_
 have hs1 := St.init w
 refine WC.sr (WL.bx hs1 rfl (fun b2 _ hs3 => WL.r 1 hs3 [] rfl (WL.nil (WC.seq (fun K4 hK4 => WC.sr (WL.r 1 hs3 [0] rfl ?_))))))
 refine WL.cl Tryz.call52 rfl (k34_ d _ (okDiskR.st0 f_d hs3) ?_) ?_
 · first | assumption | rfl | omega | exact Nat.le_refl _
 rintro _ whs5 ⟨rfl, hs5⟩
 replace hs5 := hs3.call0 hs5
 refine ⟨_, rfl, WL.r 1 hs5 [] rfl (WL.nil (WC.cq rfl (fun h6 qh6 => ?_) (fun h6 qh6 => ?_)))⟩
 ·exfalso; have h9 := h6; rw [hok] at h9; cases h9
 refine WC.skip (hK4 _ _ (WC.sr (WL.r 4 hs5 [0, 0] rfl ?_)))
 refine WL.cl Tryz.call123 rfl (k65_ d _ _ (okDiskR.st0 f_d hs5) ?_ ?_ ?_) ?_
 iterate 3 first | assumption | rfl | omega | exact Nat.le_refl _
 rintro _ whs7 ⟨A8, c9, L1_10, rfl, hs7, ho11⟩
 replace hs7 := hs5.callF hs7
 refine ⟨_, rfl, ?_⟩
 replace hs7 := St.back [_] hs7
 refine WL.r 1 hs7 [] rfl (WL.nil (WC.ret (retV1 rfl (resV.tmp rfl) ?_)))
 have hx_ := OwnF.eqOf (xs := dirD d.dat) ho11 (by rw [List.take_of_length_le (by omega)]; rfl)
 rw [← hx_]
 first | exact ⟨_, _, _, rfl, (St.keep1 (hs7.fr L1_10)), ho11⟩ | exact ⟨A8, c9, _, by rw [OwnF.len_ ho11], (St.keep1 (hs7.fr L1_10)), by rw [OwnF.len_ ho11]; exact ho11⟩
set_option maxHeartbeats 4000000 in
theorem k67_ (d : DiskR) (w : World) (f_d : okDiskR 549755813888 w d) (hsm : smDisk 1048576 d.dat) :
    Calls Tryz.prog 66 #[.agg #[i64 d.Room, i64 d.Fuse, i64 d.Next, .slice d.Files.A d.Files.n d.Files.c, .slice d.Kept.A d.Kept.n d.Kept.c, .slice d.Turns.A d.Turns.n d.Turns.c]] w fun e w' => ∃ r L1, e = .returned (.agg #[i64 r.Room, i64 r.Fuse, i64 r.Next, .slice r.Files.A r.Files.n r.Files.c, .slice r.Kept.A r.Kept.n r.Kept.c, .slice r.Turns.A r.Turns.n r.Turns.c]) ∧ St w [] L1 w' ∧ ownDiskR r L1 ∧ r.dat = d.dat := by
 have nb_d_Files := f_d.Files_n
 have nl_d_Files := f_d.Files.sl.len
 have nb_d_Kept := f_d.Kept_n
 have nl_d_Kept := f_d.Kept.len
 have nb_d_Turns := f_d.Turns_n
 have nl_d_Turns := f_d.Turns.len
 have hF9 : d.Files.xs.length ≤ 1048576 := by have h_ := hsm.1; simpa [DiskR.dat] using h_
 have hl1 := f_d.Files.sl.len
 have hl2 := f_d.Kept.len
 have hl3 := f_d.Turns.len
 have hm2 : d.Kept.xs.length ≤ 1048576 := hsm.2.2.1
 have hm3 : d.Turns.xs.length ≤ 1048576 := hsm.2.2.2.2.1
 refine enter 40 Tryz.func66 rfl Tryz.ntmps66 rfl rfl ?_
 have hs1 := St.init w
 refine WC.sr (WL.bx hs1 rfl (fun b2 _ hs3 => WL.al hs3 Tryz.zeroValue34 rfl rfl (fun b4 _ hs5 => WL.nil (WC.sr (WL.buildF (F := encFileR) hs5 ([]) Tryz.runUnderlying30 Tryz.sizeOf123 Tryz.zeroValue123 rfl rfl rfl rfl rfl rfl rfl rfl rfl rfl rfl rfl (fun A9 c10 L6 whs7 hs7 ho8 => ?_))))))
 replace hs7 := St.back [_, _] hs7
 obtain ⟨L11, hs12, ho13⟩ := OwnN.fresh (own := ownFileR) (hs7.fr L6) ho8 Bag.nil
 have hs14 := ((hs12.fb b2).fb b4)
 refine WL.r 1 hs14 [] rfl (WL.nil (WC.seq (fun K15 hK15 => WC.r1 hs14 [1] rfl (WC.block ?_))))
 have hM20 := (St.grp1 (L1 := L11) [] (((hs14.fb b2).fb b4).fr L11))
 refine WC.lV [1, 2, 8, 9] rfl hM20 (fun k_ (a_ : Hp) f => ∃ (i : Nat) (fs : List FileR) (A16 : Option Addr) (c17 : Nat) (L18 : Hp), k_ = d.Files.n - i ∧ a_ = L18 ∧ (i ≤ d.Files.n) ∧ (fs.map FileR.dat = (d.Files.xs.take i).map FileR.dat) ∧ (fs.length = i) ∧ OwnN encFileR ownFileR 123 (.slice A16 (fs).length c17) (fs) L18 ∧ Sub [(3, .slice A16 (fs).length c17), (10, .int .i64 i)] f) (d.Files.n) ?_ ?_
 ·refine ⟨0, [], A9, c10, L11, rfl, rfl, ?_, ?_, ?_, ho13, ⟨rfl, rfl, trivial⟩⟩
  · exact Nat.zero_le _
  · rfl
  · rfl
 rintro _ L18 f w ⟨i, fs, A16, c17, _, rfl, rfl, p0, p1, p2, ho19, hG⟩ hF hs21
 refine WC.sub _ (hG.app hF) ?_
 clear hG hF
 replace hs21 := St.ungrp1 [] hs21
 have hs22 := ((hs21.fb b2).fb b4)
 refine WC.r1 hs22 [] rfl (WC.seq (fun K23 hK23 => ?_))
 refine WC.cD rfl (fun qh24 => ?_) (fun qh24 => ?_)
 ·have hbl := (SlN.nth f_d.Files (show i < d.Files.n by omega)).Body.len
  have hbn : (gat encFileR d.Files.xs i).Body.xs.length ≤ 1048576 := hsm.2.1 _ (List.mem_map_of_mem (f := FileR.dat) (gat_mem (F := encFileR) (xs := d.Files.xs) (k := i) (by omega)))
  refine WC.skip (hK23 _ _ (WC.seq (fun K25 hK25 => WC.block (WC.sr ?_))))
  refine WL.val rfl rfl rfl (Run.idxN Tryz.runUnderlying30 Tryz.sizeOf123 rfl rfl rfl ?_ ?_ ?_) ?_
  · exact SlF.some_ (SlF.st0 f_d.Files.sl hs22)
  · omega
  · omega
  refine WL.val rfl rfl rfl (Run.loadA Tryz.isAgg123 Tryz.sizeOf123 rfl rfl (SlF.whole (SlF.st0 f_d.Files.sl hs22) ?_)) ?_
  · omega
  refine WL.al hs22 Tryz.zeroValue123 rfl rfl (fun b26 _ hs27 => WL.st tbk hs27 0 rfl rfl (fun _ hs28 => WL.nil (WC.rH (hs28.rm L18) hs28 (fun _ hs29 => ?_))))
  refine WH.rn [0, 1, 2, 4, 5, 7, 8] (hs29.rm L18) [0, 0, 0] rfl rfl (WH.o1 3 rfl (WL.buildF (F := encB) hs29 ([]) Tryz.runUnderlying43 Tryz.sizeOf5 Tryz.zeroValue5 rfl rfl rfl rfl rfl rfl rfl rfl rfl rfl rfl rfl (fun A33 c34 L30 whs31 hs31 ho32 => ?_)))
  replace hs31 := St.back [_, _, _] hs31
  refine WL.nil ⟨((hs31.rm L30).rm L18), WH.o1 6 rfl (WL.appendG (hs31.fr L30) ho32 (SlF.src (SlF.st0 (SlN.nth f_d.Files (by omega)).Body hs31) Tryz.underlying43) Tryz.underlying43 inf5 rfl rfl rfl rfl rfl rfl rfl rfl rfl rfl ?_ (fun A38 c39 L35 whs36 hs36 ho37 => ?_))⟩
  · (try simp only [List.length_append, List.length_singleton, List.nil_append, List.length_nil]); first | omega
  replace hs36 := St.back [_, _, _] hs36
  refine WL.nil ⟨((hs36.rm L35).rm L18), ?_⟩
  refine WH.take 9 rfl (by kernel_rfl) rfl rfl rfl ((hs36.rm L35).rm L18) (fun w_ hs_ => (Run.build rfl rfl rfl rfl (built_123_0_1_2 _ _ _ _ _))) ?_
  refine WH.o1 10 rfl (WL.buildSlice hs36 Tryz.runUnderlying30 Tryz.sizeOf123 Tryz.zeroValue123 rfl rfl rfl rfl rfl rfl rfl rfl rfl rfl (fun b40 whs41 hs41 => WL.nil ⟨((hs41.d1.rm L35).rm L18), WH.o1 11 rfl ?_⟩))
  obtain ⟨L42, L43, hs46, ho44, ho45⟩ := OwnN.open_ (hs41.fr L18) ho19
  have hs47 := ((((hs46.fb b2).fb b4).fb b26).fb b40)
  refine WL.appendG (hs47.fr L42) ho44 (srcF (F := encFileR) (ys := [(⟨(gat encFileR d.Files.xs i).Id, SlD.of ho37, (gat encFileR d.Files.xs i).Safe⟩ : FileR)]) Tryz.underlying30 rfl rfl (hs47.own _ (nthL_mem (i := 0) rfl)).1) Tryz.underlying30 inf123 rfl rfl rfl rfl rfl rfl rfl rfl rfl rfl ?_ (fun A51 c52 L48 whs49 hs49 ho50 => ?_)
  · (try simp only [List.length_append, List.length_singleton, List.nil_append, List.length_nil]); first | omega
  replace hs49 := St.back [_, _, _, _] hs49
  obtain ⟨L53, hs54, hb55⟩ := Bag.put (x := (⟨(gat encFileR d.Files.xs i).Id, SlD.of ho37, (gat encFileR d.Files.xs i).Safe⟩ : FileR)) ((hs49.fr L35).fr L43) ho45 ho37
  have hs56 := ((((hs54.fb b2).fb b4).fb b26).fb b40)
  obtain ⟨L58, hs57, ho59⟩ := OwnN.fold ((hs56.fr L53).fr L48) ho50 hb55
  have hs60 := ((((hs57.fb b2).fb b4).fb b26).fb b40)
  refine WL.nil ⟨(hs60.d1.rm L58), WH.rn [12] (hs60.d1.rm L58) [] rfl rfl (WH.dn (hK25 _ _ (WC.region (WL.r 2 hs60 [] rfl (WL.nil (tkN ?_))))))⟩
  replace hs60 := hs60.d1.d1
  have hF61 := (St.grp1 (L1 := L58) [] (((hs60.fb b2).fb b4).fr L58))
  refine ⟨sbF rfl, _, hF61, _, ?_, i + 1, ((fs) ++ [(⟨(gat encFileR d.Files.xs i).Id, SlD.of ho37, (gat encFileR d.Files.xs i).Safe⟩ : FileR)]), A51, c52, L58, rfl, rfl, ?_, ?_, ?_, ho59, ⟨rfl, rfl, trivial⟩⟩
  · omega
  · omega
  · rw [List.map_append, p1, map_take_succ (F := encFileR) (by omega)]; rfl
  · simp only [List.length_append, List.length_singleton]; omega
 refine WC.exit (hK15 _ _ (WC.sr (WL.r 2 hs22 [] rfl (WL.st tbk hs22 1 rfl rfl (fun _ hs62 => WL.nil (WC.sr (WL.buildF (F := encLink) hs62 ([]) Tryz.runUnderlying31 Tryz.sizeOf101 Tryz.zeroValue101 rfl rfl rfl rfl rfl rfl rfl rfl rfl rfl rfl rfl (fun A66 c67 L63 whs64 hs64 ho65 => ?_))))))))
 replace hs64 := St.back [_, _] hs64
 refine WL.r 2 hs64 [1] rfl (WL.appendG (hs64.fr L63) ho65 (SlF.src (SlF.st0 f_d.Kept hs64) Tryz.underlying31) Tryz.underlying31 inf101 rfl rfl rfl rfl rfl rfl rfl rfl rfl rfl ?_ (fun A71 c72 L68 whs69 hs69 ho70 => ?_))
 · (try simp only [List.length_append, List.length_singleton, List.nil_append, List.length_nil]); first | omega
 replace hs69 := St.back [_, _] hs69
 refine WL.r 1 hs69 [] rfl (WL.st tbk hs69 1 rfl rfl (fun _ hs73 => WL.nil (WC.sr (WL.buildF (F := encTurn) hs73 ([]) Tryz.runUnderlying32 Tryz.sizeOf137 Tryz.zeroValue137 rfl rfl rfl rfl rfl rfl rfl rfl rfl rfl rfl rfl (fun A77 c78 L74 whs75 hs75 ho76 => ?_)))))
 replace hs75 := St.back [_, _] hs75
 refine WL.r 2 hs75 [1] rfl (WL.appendG (hs75.fr L74) ho76 (SlF.src (SlF.st0 f_d.Turns hs75) Tryz.underlying32) Tryz.underlying32 inf137 rfl rfl rfl rfl rfl rfl rfl rfl rfl rfl ?_ (fun A82 c83 L79 whs80 hs80 ho81 => ?_))
 · (try simp only [List.length_append, List.length_singleton, List.nil_append, List.length_nil]); first | omega
 replace hs80 := St.back [_, _] hs80
 refine WL.r 1 hs80 [] rfl (WL.st tbk hs80 1 rfl rfl (fun _ hs84 => WL.nil (WC.sr (WL.r 1 hs84 [1] rfl (WL.st tbk hs84 0 rfl rfl (fun _ hs85 => WL.nil (WC.ret ?_)))))))
 refine retV1 rfl (resV.cellA tbk hs85 0 rfl rfl rfl rfl) ?_
 have hb_ : fs.map FileR.dat = d.dat.Files := by rw [p1, List.take_of_length_le (by omega)]; rfl
 obtain ⟨L87, hs86, ho88⟩ := ownDiskR.fl hs85 ho19 ho70 ho81
 have hs89 := ((hs86.fb b2).fb b4)
 refine ownDiskR.ret rfl (St.keep1 (hs89.fr L87)) ho88 ?_
 · exact DiskD.ext' rfl rfl rfl hb_ rfl rfl
theorem k68_ (d : DiskR) (id : Int) (w : World) (f_d : okDiskR 549755813888 w d) :
    Calls Tryz.prog 109 #[.agg #[i64 d.Room, i64 d.Fuse, i64 d.Next, .slice d.Files.A d.Files.n d.Files.c, .slice d.Kept.A d.Kept.n d.Kept.c, .slice d.Turns.A d.Turns.n d.Turns.c], i64 id] w fun e w' => e = .returned (.int .i64 (atI d.dat.Files id)) ∧ St w [] [] w' := by
 have nb_d_Files := f_d.Files_n
 have nl_d_Files := f_d.Files.sl.len
 have nb_d_Kept := f_d.Kept_n
 have nl_d_Kept := f_d.Kept.len
 have nb_d_Turns := f_d.Turns_n
 have nl_d_Turns := f_d.Turns.len
 have hl1 := f_d.Files.sl.len
 refine enter 21 Tryz.func109 rfl Tryz.ntmps109 rfl rfl ?_
 have hs1 := St.init w
 refine WC.sr (WL.bx hs1 rfl (fun b2 _ hs3 => WL.r 1 hs3 [] rfl (WL.nil (WC.seq (fun K4 hK4 => WC.r1 hs3 [0] rfl (WC.block ?_))))))
 refine WC.lS [1, 8, 9] rfl hs3 (fun k_ f w' => ∃ (i : Nat), k_ = d.Files.n - i ∧ (i ≤ d.Files.n) ∧ (∀ j, j < i → (fun f : FileR => decide (f.Id = id)) (gat encFileR d.Files.xs j) = false) ∧ Sub [(10, .int .i64 i)] f) ((fun (i : Nat) => d.Files.n - i) (0)) ?_ ?_
 ·refine ⟨0, rfl, ?_, ?_, ⟨rfl, trivial⟩⟩
  · exact Nat.zero_le _
  · exact fun j hj => absurd hj (by omega)
 clear hs3
 rintro _ f w ⟨i, rfl, p0, p1, hG⟩ hF hs5
 refine WC.sub _ (hG.app hF) ?_
 clear hG hF
 refine WC.r1 hs5 [] rfl (WC.seq (fun K6 hK6 => ?_))
 refine WC.cq rfl (fun h7 qh7 => ?_) (fun h7 qh7 => ?_)
 ·refine WC.skip (hK6 _ _ (WC.seq (fun K8 hK8 => WC.block (WC.sr (WL.r 1 hs5 [] rfl ?_)))))
  refine WL.val rfl rfl rfl (Run.idxN Tryz.runUnderlying30 Tryz.sizeOf123 rfl rfl rfl ?_ ?_ ?_) ?_
  · exact SlF.some_ (SlF.st0 f_d.Files.sl hs5)
  · omega
  · omega
  refine WL.val rfl rfl rfl (Run.loadA Tryz.isAgg123 Tryz.sizeOf123 rfl rfl (SlF.whole (SlF.st0 f_d.Files.sl hs5) ?_)) ?_
  · omega
  refine WL.al hs5 Tryz.zeroValue123 rfl rfl (fun b9 _ hs10 => WL.r 1 hs10 [] rfl (WL.st tbk hs10 0 rfl rfl (fun _ hs11 => WL.nil (WC.r1 hs11 [0] rfl ?_))))
  refine WC.cq rfl (fun h12 qh12 => ?_) (fun h12 qh12 => ?_)
  ·refine WC.r1 hs11 [] rfl (WC.ret (ibR (tkR (tkR (ibR (tkR ?_))))))
   clear hK8 hK4
   refine rtv rfl rfl hs11 ?_
   rw [show atI d.dat.Files id = findI (fun f : FileR => decide (f.Id = id)) d.Files.xs from findI_map]; exact congrArg (Value.int _) (findI_some (F := encFileR) (p := (fun f : FileR => decide (f.Id = id))) (xs := d.Files.xs) (by omega) p1 h12).symm
  refine WC.skip (hK8 _ _ (WC.region (WL.r 2 hs11 [] rfl (WL.nil (tkN ?_)))))
  refine ⟨sbF rfl, (hs11.drop (by repeat (first | exact List.Sublist.refl _ | exact List.sublist_append_left _ _ | exact List.Sublist.trans (List.sublist_append_left _ _) (List.sublist_append_left _ _) | apply List.Sublist.cons | refine List.Sublist.trans ?_ (sR _)))), _, ?_, i + 1, rfl, ?_, ?_, ⟨rfl, trivial⟩⟩
  · omega
  · omega
  · intro j hj; rcases Nat.lt_or_ge j i with h_ | h_
    · exact p1 j h_
    · obtain rfl : j = i := by omega
      exact h12
 refine WC.exit (hK4 _ _ (WC.r1 hs5 [] rfl (WC.ret (rtv rfl rfl hs5 ?_))))
 rw [show atI d.dat.Files id = findI (fun f : FileR => decide (f.Id = id)) d.Files.xs from findI_map]; exact congrArg (Value.int _) (findI_none (F := encFileR) (p := (fun f : FileR => decide (f.Id = id))) (xs := d.Files.xs) (fun j hj => p1 j (by omega))).symm
theorem k69_ (op : DiskOpR) (w : World) (f_op : okDiskOpR 549755813888 w op) :
    Calls Tryz.prog 145 #[.agg #[i64 op.Kind, .string op.Name, .string op.To, .slice op.Data.A op.Data.n op.Data.c]] w fun e w' => e = .returned (.bool (dopOk op.dat)) ∧ St w [] [] w' := by
 have nz_op_Name := f_op.Name_z
 have nz_op_To := f_op.To_z
 have nb_op_Data := f_op.Data_n
 have nl_op_Data := f_op.Data.len
 have hdl : op.dat.Data.length = op.Data.n := f_op.Data.len
 have hz1 := f_op.Name_z
 have hz2 := f_op.To_z
 refine enter 64 Tryz.func145 rfl Tryz.ntmps145 rfl rfl ?_
 have hs1 := St.init w
 refine WC.sr (WL.bx hs1 rfl (fun b2 _ hs3 => WL.r 1 hs3 [] rfl (WL.nil (WC.seq (fun K4 hK4 => WC.sr (WL.r 4 hs3 [0] rfl (WL.pO tbk 3 Acts.nil hs3 [0] rfl rfl rfl rfl (fun g_ => ⟨rfl, trivial⟩) ?_)))))))
 refine WL.nil (WC.cq rfl (fun h5 qh5 => ?_) (fun h5 qh5 => ?_))
 ·have hw : within op.dat.Kind 1 6 = false := by show within op.Kind 1 6 = false; have h9 := h5; simp only [Bool.and_eq_true, Bool.or_eq_true, decide_eq_true_eq] at h9; rw [within_not]; omega
  refine WC.r1 hs3 [] rfl (WC.ret (tkR ?_))
  clear hK4
  refine rtv rfl rfl hs3 ?_
  unfold dopOk; rw [hw]; rfl
 have hw : within op.dat.Kind 1 6 = true := by show within op.Kind 1 6 = true; have h9 := h5; simp only [Bool.and_eq_false_iff, Bool.or_eq_false_iff, decide_eq_false_iff_not] at h9; rw [within_iff]; omega
 refine WC.skip (hK4 _ _ (WC.seq (fun K6 hK6 => WC.sr (WL.r 4 hs3 [0] rfl (WL.pA tbk 3 Acts.nil hs3 [0] rfl rfl rfl rfl (fun g_ => ⟨rfl, trivial⟩) (WL.r 1 hs3 [] rfl ?_))))))
 apply WL.gO 9 Acts.nil hs3 rfl
 ·intro g7 J8
  have qg7 := g7
  try simp only [bf, within_iff, within_not] at qg7
  refine WL.runA tbk 4 (Acts.nil.cons (j := 8) rfl g7) hs3 [0] rfl ⟨rfl, trivial⟩ ?_
  apply WL.gA 4 (Acts.nil.cons (j := 8) rfl g7) hs3 rfl
  ·intro g9 J10
   have qg9 := g9
   try simp only [bf, within_iff, within_not] at qg9
   refine WL.runA tbk 2 (Acts.nil.cons (j := 12) rfl g9) hs3 [0] rfl ⟨rfl, trivial⟩ (WL.call (wantT rfl g9) rfl rfl (Run.call Tryz.call102 rfl rfl rfl) (k23_ _ _ ?_) ?_)
   · first | assumption | rfl | omega
   rintro _ whs11 ⟨rfl, hs11⟩
   replace hs11 := hs3.call0 hs11
   refine ⟨_, rfl, WL.runA tbk 1 (Acts.nil.cons (j := 12) rfl g9) hs11 [] rfl trivial (WL.eA 4 (Acts.nil.cons (j := 8) rfl g7) J10 hs11 g9 rfl rfl)⟩
  intro _ hs12
  exact WL.eO 5 Acts.nil J8 hs12 g7 rfl rfl
 intro _ hs13
 refine WL.nil (WC.cq rfl (fun h14 qh14 => ?_) (fun h14 qh14 => ?_))
 ·have hnm : opName op.dat = false := (opName_spec (op := op)).trans (congrArg not h14)
  refine WC.r1 hs13 [] rfl (WC.ret (tkR ?_))
  clear hK6
  refine rtv rfl rfl hs13 ?_
  unfold dopOk; rw [hnm]; simp
 have hnm : opName op.dat = true := (opName_spec (op := op)).trans (congrArg not h14)
 refine WC.skip (hK6 _ _ (WC.seq (fun K15 hK15 => WC.sr (WL.r 4 hs13 [0] rfl ?_))))
 apply WL.gA 4 Acts.nil hs13 rfl
 ·intro g16 J17
  have qg16 := g16
  try simp only [bf, within_iff, within_not] at qg16
  refine WL.runA tbk 2 (Acts.nil.cons (j := 3) rfl g16) hs13 [0] rfl ⟨rfl, trivial⟩ (WL.call (wantT rfl g16) rfl rfl (Run.call Tryz.call102 rfl rfl rfl) (k23_ _ _ ?_) ?_)
  · first | assumption | rfl | omega
  rintro _ whs18 ⟨rfl, hs18⟩
  replace hs18 := hs13.call0 hs18
  refine ⟨_, rfl, WL.runA tbk 1 (Acts.nil.cons (j := 3) rfl g16) hs18 [] rfl trivial (WL.eA 4 Acts.nil J17 hs18 g16 rfl rfl)⟩
 intro _ hs19
 refine WL.r 1 hs19 [] rfl ?_
 apply WL.gO 8 Acts.nil hs19 rfl
 ·intro g20 J21
  have qg20 := g20
  try simp only [bf, within_iff, within_not] at qg20
  refine WL.runA tbk 4 (Acts.nil.cons (j := 9) rfl g20) hs19 [0] rfl ⟨rfl, trivial⟩ (WL.pA tbk 3 (Acts.nil.cons (j := 9) rfl g20) hs19 [0] rfl rfl rfl rfl (fun g_ => ⟨rfl, trivial⟩) (WL.eO 5 Acts.nil J21 hs19 g20 rfl rfl))
 intro _ hs22
 refine WL.nil (WC.cq rfl (fun h23 qh23 => ?_) (fun h23 qh23 => ?_))
 ·have hto : opTo op.dat = false := (opTo_spec (op := op)).trans (congrArg not h23)
  refine WC.r1 hs22 [] rfl (WC.ret (tkR ?_))
  clear hK15
  refine rtv rfl rfl hs22 ?_
  unfold dopOk; rw [hto]; simp
 have hto : opTo op.dat = true := (opTo_spec (op := op)).trans (congrArg not h23)
 refine WC.skip (hK15 _ _ (WC.sr (WL.r 5 hs22 [0] rfl ?_)))
 apply WL.gA 9 Acts.nil hs22 rfl
 ·intro g24 J25
  have qg24 := g24
  try simp only [bf, within_iff, within_not] at qg24
  refine WL.runA tbk 4 (Acts.nil.cons (j := 4) rfl g24) hs22 [0] rfl ⟨rfl, trivial⟩ (WL.pO tbk 4 (Acts.nil.cons (j := 4) rfl g24) hs22 [0] rfl rfl rfl rfl (fun g_ => ⟨rfl, trivial⟩) (WL.eA 5 Acts.nil J25 hs22 g24 rfl rfl))
 intro _ hs26
 refine WL.r 1 hs26 [] rfl (WL.nil (WC.ret (rtv rfl rfl hs26 ?_)))
 unfold dopOk; rw [hw, hnm, hto, hdl]; rfl
theorem k70_ (d : DiskR) (op : DiskOpR) (w : World) (f_d : okDiskR 549755813888 w d) (f_op : okDiskOpR 549755813888 w op) (hok : diskOk d.dat = true) (hb : totDisk d.dat ≤ 1048576) :
    Calls Tryz.prog 146 #[.agg #[i64 d.Room, i64 d.Fuse, i64 d.Next, .slice d.Files.A d.Files.n d.Files.c, .slice d.Kept.A d.Kept.n d.Kept.c, .slice d.Turns.A d.Turns.n d.Turns.c], .agg #[i64 op.Kind, .string op.Name, .string op.To, .slice op.Data.A op.Data.n op.Data.c]] w fun e w' => e = .returned (.int .i64 (refuse d.dat op.dat)) ∧ St w [] [] w' := by
 have nb_d_Files := f_d.Files_n
 have nl_d_Files := f_d.Files.sl.len
 have nb_d_Kept := f_d.Kept_n
 have nl_d_Kept := f_d.Kept.len
 have nb_d_Turns := f_d.Turns_n
 have nl_d_Turns := f_d.Turns.len
 have nz_op_Name := f_op.Name_z
 have nz_op_To := f_op.To_z
 have nb_op_Data := f_op.Data_n
 have nl_op_Data := f_op.Data.len
 have hD := diskOk_P hok
 obtain ⟨hs1, hs2, hs3, hs4, hs5, hs6, hs7, hs8⟩ := hD.small
 have hl1 := f_d.Files.sl.len
 have hl2 := f_d.Kept.len
 have hl3 := f_d.Turns.len
 have hm1 : d.Files.n ≤ 10 := by rw [← hl1, ← List.length_map (f := FileR.dat)]; exact hs1
 have hm2 : d.Kept.n ≤ 10 := by rw [← hl2]; exact hs2
 have hm3 : d.Turns.n ≤ 30 := by rw [← hl3]; exact hs3
 have hdl : (dirD d.dat).length ≤ 40 := Nat.le_trans turnsL_len (by show d.Kept.xs.length + d.Turns.xs.length ≤ 40; omega)
 have hfl : d.dat.Files.length = d.Files.n := by rw [← hl1]; exact List.length_map _
 have htl : d.dat.Turns.length = d.Turns.n := hl3
 refine enter 72 Tryz.func146 rfl Tryz.ntmps146 rfl rfl ?_
 have hs1 := St.init w
 refine WC.sr (WL.bx hs1 rfl (fun b2 _ hs3 => WL.bx hs3 rfl (fun b4 _ hs5 => WL.r 1 hs5 [] rfl (WL.nil (WC.seq (fun K6 hK6 => WC.r1 hs5 [1] rfl ?_))))))
 refine WC.cq rfl (fun h7 qh7 => ?_) (fun h7 qh7 => ?_)
 ·have hf : d.dat.Fuse = 0 := by show d.Fuse = 0; have h9 := h7; simpa using h9
  refine WC.r1 hs5 [] rfl (WC.ret (tkR ?_))
  clear hK6
  refine rtv rfl rfl hs5 ?_
  first | rw [refuse_2 hf] | rw [refuse_3 hf h3] | rw [refuse_4 hf h3 h4] | rw [refuse_0 hf h3 h4]
 have hf : ¬ d.dat.Fuse = 0 := by show ¬ d.Fuse = 0; have h9 := h7; simpa using h9
 refine WC.skip (hK6 _ _ (WC.seq (fun K8 hK8 => WC.seq (fun K9 hK9 => WC.rH hs5 hs5 (fun _ hs10 => ?_)))))
 refine WH.rn [0, 1, 2, 3] hs10 [0] rfl rfl (WH.split 12 rfl (fun g11 => ?_) (fun g11 => ?_))
 ·refine WH.rnA (Acts.nil.cons (j := 3) rfl g11) [4, 5, 6, 7, 9, 10] hs10 [0, 1, 0] rfl rfl (WH.o1 8 rfl (WL.call (wantT rfl g11) rfl rfl (Run.call Tryz.call69 rfl rfl rfl) (k66_ d _ (okDiskR.st0 f_d hs10) ?_ ?_) ?_))
  iterate 2 first | assumption | rfl | omega
  rintro _ whs12 ⟨A13, c14, L1_15, rfl, hs12, ho16⟩
  replace hs12 := hs10.callF hs12
  refine ⟨_, rfl, ?_⟩
  replace hs12 := St.back [_, _] hs12
  refine WL.nil ⟨(hs12.rm L1_15), WH.o1 11 rfl (WL.call (wantT rfl g11) rfl rfl (Run.call Tryz.call108 rfl rfl rfl) (k24_ _ _ _ _ _ _ (SlF.ofOwn ho16 (hs12.ow L1_15)) ?_) ?_)⟩
  · first | assumption | rfl | omega
  rintro _ whs17 ⟨rfl, hs17⟩
  replace hs17 := hs12.call0 hs17
  refine ⟨_, rfl, WL.nil ⟨(hs17.rm L1_15), WH.rnA (Acts.nil.cons (j := 3) rfl g11) [12, 13] (hs17.rm L1_15) [] rfl rfl ?_⟩⟩
  refine WH.take 14 rfl (by kernel_rfl) rfl rfl rfl (hs17.rm L1_15) (fun w_ hs_ => (Run.pick rfl rfl rfl rfl)) ?_
  refine WH.dn (hK9 _ _ ?_)
  refine WC.cq rfl (fun h18 qh18 => ?_) (fun h18 qh18 => ?_)
  ·have h3 : op.dat.Kind ≠ 6 ∧ hasN (dirD d.dat) op.dat.Name = decide (op.dat.Kind = 1) := by have h9 := h18; rw [has_find hD.allI] at h9; show op.Kind ≠ 6 ∧ hasN (dirD d.dat) op.Name = decide (op.Kind = 1); simp at h9; exact ⟨h9.1, by rw [← h9.2]⟩
   refine WC.r1 hs17 [] rfl (WC.ret (tkR ?_))
   clear hK8
   refine rtv rfl rfl hs17 ?_
   first | rw [refuse_2 hf] | rw [refuse_3 hf h3] | rw [refuse_4 hf h3 h4] | rw [refuse_0 hf h3 h4]
  have h3 : ¬ (op.dat.Kind ≠ 6 ∧ hasN (dirD d.dat) op.dat.Name = decide (op.dat.Kind = 1)) := by have h9 := h18; rw [has_find hD.allI] at h9; show ¬ (op.Kind ≠ 6 ∧ hasN (dirD d.dat) op.Name = decide (op.Kind = 1)); rintro ⟨a, b⟩; rw [b] at h9; simp [a] at h9
  refine WC.skip (hK8 _ _ (WC.sr (WL.r 4 hs17 [0] rfl (WL.pO tbk 3 Acts.nil hs17 [0] rfl rfl rfl rfl (fun g_ => ⟨rfl, trivial⟩) (WL.r 1 hs17 [] rfl (WL.pO tbk 3 Acts.nil hs17 [0] rfl rfl rfl rfl (fun g_ => ⟨rfl, trivial⟩) (WL.r 1 hs17 [] rfl ?_)))))))
  refine WL.nil (WC.seq (fun K19 hK19 => WC.sr (WL.r 4 hs17 [0] rfl ?_)))
  apply WL.gA 9 Acts.nil hs17 rfl
  ·intro g20 J21
   have qg20 := g20
   try simp only [bf, within_iff, within_not] at qg20
   refine WL.runA tbk 5 (Acts.nil.cons (j := 3) rfl g20) hs17 [1] rfl ⟨rfl, trivial⟩ (WL.pO tbk 3 (Acts.nil.cons (j := 3) rfl g20) hs17 [1] rfl rfl rfl rfl (fun g_ => ⟨rfl, trivial⟩) (WL.eA 6 Acts.nil J21 hs17 g20 rfl rfl))
  intro _ hs22
  refine WL.r 1 hs22 [] rfl ?_
  apply WL.gO 7 Acts.nil hs22 rfl
  ·intro g23 J24
   have qg23 := g23
   try simp only [bf, within_iff, within_not] at qg23
   refine WL.runA tbk 2 (Acts.nil.cons (j := 14) rfl g23) hs22 [] rfl trivial (WL.pA tbk 4 (Acts.nil.cons (j := 14) rfl g23) hs22 [1] rfl rfl rfl rfl (fun g_ => ⟨rfl, trivial⟩) (WL.eO 3 Acts.nil J24 hs22 g23 rfl rfl))
  intro _ hs25
  refine WL.r 1 hs25 [] rfl ?_
  apply WL.gO 10 Acts.nil hs25 rfl
  ·intro g26 J27
   have qg26 := g26
   try simp only [bf, within_iff, within_not] at qg26
   refine WL.runA tbk 4 (Acts.nil.cons (j := 23) rfl g26) hs25 [0] rfl ⟨rfl, trivial⟩ (WL.pA tbk 5 (Acts.nil.cons (j := 23) rfl g26) hs25 [0, 0] rfl rfl rfl rfl (fun g_ => ⟨rfl, rfl, trivial⟩) (WL.eO 5 Acts.nil J27 hs25 g26 rfl rfl))
  intro _ hs28
  refine WL.nil (WC.cq rfl (fun h29 qh29 => ?_) (fun h29 qh29 => ?_))
  ·have h4 : fourD d.dat op.dat := by
     have h9 := h29
     show (op.Kind = 1 ∧ (d.dat.Files.length = 10 ∨ d.Next = 1000000)) ∨ (turnK op.Kind = true ∧ d.dat.Turns.length = 30) ∨ (op.Kind = 4 ∧ op.To = op.Name)
     rw [hfl, htl]
     rw [Bool.or_eq_true, Bool.or_eq_true] at h9
     rcases h9 with (h9 | h9) | h9
     · simp only [Bool.and_eq_true, Bool.or_eq_true, decide_eq_true_eq] at h9
       exact .inl (by omega)
     · rw [Bool.and_eq_true] at h9
       exact .inr (.inl ⟨h9.1, by have := of_decide_eq_true h9.2; omega⟩)
     · simp only [Bool.and_eq_true, Bool.or_eq_true, decide_eq_true_eq] at h9
       exact .inr (.inr h9)
   refine WC.r1 hs28 [] rfl (WC.ret (tkR ?_))
   clear hK19
   refine rtv rfl rfl hs28 ?_
   first | rw [refuse_2 hf] | rw [refuse_3 hf h3] | rw [refuse_4 hf h3 h4] | rw [refuse_0 hf h3 h4]
  have h4 : ¬ fourD d.dat op.dat := by
    have h9 := h29
    show ¬ ((op.Kind = 1 ∧ (d.dat.Files.length = 10 ∨ d.Next = 1000000)) ∨ (turnK op.Kind = true ∧ d.dat.Turns.length = 30) ∨ (op.Kind = 4 ∧ op.To = op.Name))
    rw [hfl, htl]
    rw [Bool.or_eq_false_iff, Bool.or_eq_false_iff] at h9
    obtain ⟨⟨ha, hb⟩, hc⟩ := h9
    rintro (h | ⟨h, h'⟩ | h)
    · revert ha; simp [h.1]; omega
    · rw [show (decide (op.Kind = 1) || decide (op.Kind = 4) || decide (op.Kind = 5)) = true from h] at hb; revert hb; simp; omega
    · revert hc; simp [h.1, h.2]
  refine WC.skip (hK19 _ _ (WC.r1 hs28 [] rfl (WC.ret (rtv rfl rfl hs28 ?_))))
  first | rw [refuse_2 hf] | rw [refuse_3 hf h3] | rw [refuse_4 hf h3 h4] | rw [refuse_0 hf h3 h4]
 refine WH.takeSkip 4 rfl (by kernel_rfl) (wantNT rfl g11) rfl rfl hs10 (WH.takeSkip 5 rfl (by kernel_rfl) (wantNT rfl g11) rfl rfl hs10 (WH.takeSkip 6 rfl (by kernel_rfl) (wantNT rfl g11) rfl rfl hs10 (WH.takeSkip 7 rfl (by kernel_rfl) (wantNT rfl g11) rfl rfl hs10 (WH.takeSkip 9 rfl (by kernel_rfl) (wantNT rfl g11) rfl rfl hs10 (WH.takeSkip 10 rfl (by kernel_rfl) (wantNT rfl g11) rfl rfl hs10 (WH.o1 8 rfl (WL.skip (wantNT rfl g11) rfl rfl ?_)))))))
 refine WL.nil ⟨hs10, WH.o1 11 rfl (WL.skip (wantNT rfl g11) rfl rfl (WL.nil ⟨hs10, WH.takeSkip 12 rfl (by kernel_rfl) (wantNT rfl g11) rfl rfl hs10 (WH.takeSkip 13 rfl (by kernel_rfl) (wantNT rfl g11) rfl rfl hs10 ?_)⟩))⟩
 refine WH.take 14 rfl (by kernel_rfl) rfl rfl rfl hs10 (fun w_ hs_ => (Run.pickF rfl rfl g11 rfl)) ?_
 refine WH.dn (hK9 _ _ (WC.condF rfl rfl ?_))
 have h3 : ¬ (op.dat.Kind ≠ 6 ∧ hasN (dirD d.dat) op.dat.Name = decide (op.dat.Kind = 1)) := by rintro ⟨a, _⟩; have a' : op.Kind ≠ 6 := a; simp_all
 refine WC.skip (hK8 _ _ (WC.sr (WL.r 4 hs10 [0] rfl (WL.pO tbk 3 Acts.nil hs10 [0] rfl rfl rfl rfl (fun g_ => ⟨rfl, trivial⟩) (WL.r 1 hs10 [] rfl (WL.pO tbk 3 Acts.nil hs10 [0] rfl rfl rfl rfl (fun g_ => ⟨rfl, trivial⟩) (WL.r 1 hs10 [] rfl ?_)))))))
 refine WL.nil (WC.seq (fun K31 hK31 => WC.sr (WL.r 4 hs10 [0] rfl ?_)))
 apply WL.gA 9 Acts.nil hs10 rfl
 ·intro g32 J33
  have qg32 := g32
  try simp only [bf, within_iff, within_not] at qg32
  refine WL.runA tbk 5 (Acts.nil.cons (j := 3) rfl g32) hs10 [1] rfl ⟨rfl, trivial⟩ (WL.pO tbk 3 (Acts.nil.cons (j := 3) rfl g32) hs10 [1] rfl rfl rfl rfl (fun g_ => ⟨rfl, trivial⟩) (WL.eA 6 Acts.nil J33 hs10 g32 rfl rfl))
 intro _ hs34
 refine WL.r 1 hs34 [] rfl ?_
 apply WL.gO 7 Acts.nil hs34 rfl
 ·intro g35 J36
  have qg35 := g35
  try simp only [bf, within_iff, within_not] at qg35
  refine WL.runA tbk 2 (Acts.nil.cons (j := 14) rfl g35) hs34 [] rfl trivial (WL.pA tbk 4 (Acts.nil.cons (j := 14) rfl g35) hs34 [1] rfl rfl rfl rfl (fun g_ => ⟨rfl, trivial⟩) (WL.eO 3 Acts.nil J36 hs34 g35 rfl rfl))
 intro _ hs37
 refine WL.r 1 hs37 [] rfl ?_
 apply WL.gO 10 Acts.nil hs37 rfl
 ·intro g38 J39
  have qg38 := g38
  try simp only [bf, within_iff, within_not] at qg38
  refine WL.runA tbk 4 (Acts.nil.cons (j := 23) rfl g38) hs37 [0] rfl ⟨rfl, trivial⟩ (WL.pA tbk 5 (Acts.nil.cons (j := 23) rfl g38) hs37 [0, 0] rfl rfl rfl rfl (fun g_ => ⟨rfl, rfl, trivial⟩) (WL.eO 5 Acts.nil J39 hs37 g38 rfl rfl))
 intro _ hs40
 refine WL.nil (WC.cq rfl (fun h41 qh41 => ?_) (fun h41 qh41 => ?_))
 ·have h4 : fourD d.dat op.dat := by
    have h9 := h41
    show (op.Kind = 1 ∧ (d.dat.Files.length = 10 ∨ d.Next = 1000000)) ∨ (turnK op.Kind = true ∧ d.dat.Turns.length = 30) ∨ (op.Kind = 4 ∧ op.To = op.Name)
    rw [hfl, htl]
    rw [Bool.or_eq_true, Bool.or_eq_true] at h9
    rcases h9 with (h9 | h9) | h9
    · simp only [Bool.and_eq_true, Bool.or_eq_true, decide_eq_true_eq] at h9
      exact .inl (by omega)
    · rw [Bool.and_eq_true] at h9
      exact .inr (.inl ⟨h9.1, by have := of_decide_eq_true h9.2; omega⟩)
    · simp only [Bool.and_eq_true, Bool.or_eq_true, decide_eq_true_eq] at h9
      exact .inr (.inr h9)
  refine WC.r1 hs40 [] rfl (WC.ret (tkR ?_))
  clear hK31
  refine rtv rfl rfl hs40 ?_
  first | rw [refuse_2 hf] | rw [refuse_3 hf h3] | rw [refuse_4 hf h3 h4] | rw [refuse_0 hf h3 h4]
 have h4 : ¬ fourD d.dat op.dat := by
   have h9 := h41
   show ¬ ((op.Kind = 1 ∧ (d.dat.Files.length = 10 ∨ d.Next = 1000000)) ∨ (turnK op.Kind = true ∧ d.dat.Turns.length = 30) ∨ (op.Kind = 4 ∧ op.To = op.Name))
   rw [hfl, htl]
   rw [Bool.or_eq_false_iff, Bool.or_eq_false_iff] at h9
   obtain ⟨⟨ha, hb⟩, hc⟩ := h9
   rintro (h | ⟨h, h'⟩ | h)
   · revert ha; simp [h.1]; omega
   · rw [show (decide (op.Kind = 1) || decide (op.Kind = 4) || decide (op.Kind = 5)) = true from h] at hb; revert hb; simp; omega
   · revert hc; simp [h.1, h.2]
 refine WC.skip (hK31 _ _ (WC.r1 hs40 [] rfl (WC.ret (rtv rfl rfl hs40 ?_))))
 first | rw [refuse_2 hf] | rw [refuse_3 hf h3] | rw [refuse_4 hf h3 h4] | rw [refuse_0 hf h3 h4]
theorem k71_ (d : DiskR) (w : World) (f_d : okDiskR 549755813888 w d) (hb : totDisk d.dat ≤ 1048576) :
    Calls Tryz.prog 69 #[.agg #[i64 d.Room, i64 d.Fuse, i64 d.Next, .slice d.Files.A d.Files.n d.Files.c, .slice d.Kept.A d.Kept.n d.Kept.c, .slice d.Turns.A d.Turns.n d.Turns.c]] w fun e w' => ∃ A c L1, e = .returned (.slice A (dirS d.dat).length c) ∧ St w [] L1 w' ∧ OwnF encLink 101 (.slice A (dirS d.dat).length c) (dirS d.dat) L1 := by
 have nb_d_Files := f_d.Files_n
 have nl_d_Files := f_d.Files.sl.len
 have nb_d_Kept := f_d.Kept_n
 have nl_d_Kept := f_d.Kept.len
 have nb_d_Turns := f_d.Turns_n
 have nl_d_Turns := f_d.Turns.len
 let w0 := w
 obtain ⟨⟨hb1, hb2, hb3⟩, hb4⟩ := totDisk_facts hb
 have hl1 := f_d.Files.sl.len
 have hl2 := f_d.Kept.len
 have hl3 := f_d.Turns.len
 have hm1 : d.Files.n ≤ 1048576 := by rw [← hl1, ← List.length_map (f := FileR.dat)]; exact hb1
 have hm2 : d.Kept.n ≤ 1048576 := by rw [← hl2]; exact hb2
 have hm3 : d.Turns.n ≤ 1048576 := by rw [← hl3]; exact hb3
 refine enter 11 Tryz.func69 rfl Tryz.ntmps69 rfl rfl ?_
 have hs1 := St.init w
 refine WC.sr (WL.bx hs1 rfl (fun b2 _ hs3 => WL.r 1 hs3 [] rfl (WL.nil (WC.seq (fun K4 hK4 => WC.sr (WL.r 1 hs3 [0] rfl ?_))))))
 refine WL.cl Tryz.call52 rfl (k34_ d _ (okDiskR.st0 f_d hs3) ?_) ?_
 · first | assumption | rfl | omega | exact Nat.le_refl _
 rintro _ whs5 ⟨rfl, hs5⟩
 replace hs5 := hs3.call0 hs5
 refine ⟨_, rfl, WL.r 1 hs5 [] rfl (WL.nil (WC.cq rfl (fun h6 qh6 => ?_) (fun h6 qh6 => ?_)))⟩
 ·have hS : dirS d.dat = [] := if_neg (by have h9 := h6; simp at h9; rw [h9]; decide)
  refine WC.r1 hs5 [] rfl (WC.ret (tkR ?_))
  clear hK4
  refine retV1 rfl (resV.tmp rfl) ?_
  have hx_ := OwnF.eqOf (xs := dirS d.dat) (OwnF.nil encLink 101) (by rw [hS])
  rw [← hx_]
  exact ⟨_, _, _, rfl, hs5.nil, (OwnF.nil encLink 101)⟩
 have hS : dirS d.dat = dirD d.dat := if_pos (by have h9 := h6; simpa using h9)
 refine WC.skip (hK4 _ _ (WC.sr (WL.r 4 hs5 [0, 0] rfl ?_)))
 refine WL.cl Tryz.call123 rfl (k65_ d _ _ (okDiskR.st0 f_d hs5) ?_ ?_ ?_) ?_
 iterate 3 first | assumption | rfl | omega | exact Nat.le_refl _
 rintro _ whs7 ⟨A8, c9, L1_10, rfl, hs7, ho11⟩
 replace hs7 := hs5.callF hs7
 refine ⟨_, rfl, ?_⟩
 replace hs7 := St.back [_] hs7
 refine WL.r 1 hs7 [] rfl (WL.nil (WC.ret (retV1 rfl (resV.tmp rfl) ?_)))
 have hx_ := OwnF.eqOf (xs := dirS d.dat) ho11 (by rw [hS, List.take_of_length_le (by omega)]; rfl)
 rw [← hx_]
 first | exact ⟨_, _, _, rfl, (St.keep1 (hs7.fr L1_10)), ho11⟩ | exact ⟨A8, c9, _, by rw [OwnF.len_ ho11], (St.keep1 (hs7.fr L1_10)), by rw [OwnF.len_ ho11]; exact ho11⟩
theorem k72_ (d : DiskR) (name : ByteArray) (w : World) (f_d : okDiskR 549755813888 w d) (hb : totDisk d.dat ≤ 1048576) :
    Calls Tryz.prog 54 #[.agg #[i64 d.Room, i64 d.Fuse, i64 d.Next, .slice d.Files.A d.Files.n d.Files.c, .slice d.Kept.A d.Kept.n d.Kept.c, .slice d.Turns.A d.Turns.n d.Turns.c], .string name] w fun e w' => ∃ A c L1, e = .returned (.tuple #[.slice A (readB d.dat name).length c, .bool (readOk d.dat name)]) ∧ St w [] L1 w' ∧ OwnF encB 5 (.slice A (readB d.dat name).length c) (readB d.dat name) L1 := by
 have nb_d_Files := f_d.Files_n
 have nl_d_Files := f_d.Files.sl.len
 have nb_d_Kept := f_d.Kept_n
 have nl_d_Kept := f_d.Kept.len
 have nb_d_Turns := f_d.Turns_n
 have nl_d_Turns := f_d.Turns.len
 have hsl : (dirS d.dat).length ≤ 1048576 := dirS_len d.dat
 refine enter 23 Tryz.func54 rfl Tryz.ntmps54 rfl rfl ?_
 have hs1 := St.init w
 refine WC.sr (WL.bx hs1 rfl (fun b2 _ hs3 => WL.r 2 hs3 [] rfl (WL.nil (WC.sr (WL.r 1 hs3 [0] rfl ?_)))))
 refine WL.cl Tryz.call69 rfl (k71_ d _ (okDiskR.st0 f_d hs3) ?_) ?_
 · first | assumption | rfl | omega
 rintro _ whs4 ⟨A5, c6, L1_7, rfl, hs4, ho8⟩
 replace hs4 := hs3.callF hs4
 refine ⟨_, rfl, ?_⟩
 replace hs4 := St.back [_] hs4
 refine WL.r 1 hs4 [] rfl (WL.cl Tryz.call108 rfl (k24_ _ _ _ _ _ _ (SlF.ofOwn ho8 (hs4.ow L1_7)) ?_) ?_)
 · first | assumption | rfl | omega
 rintro _ whs9 ⟨rfl, hs9⟩
 replace hs9 := hs4.call0 hs9
 refine ⟨_, rfl, WL.r 1 hs9 [] rfl (WL.nil (WC.seq (fun K10 hK10 => WC.r1 hs9 [] rfl ?_)))⟩
 refine WC.cq rfl (fun h11 qh11 => ?_) (fun h11 qh11 => ?_)
 ·have hf : readOk d.dat name = false := by unfold readOk; exact dirS_no (by have h9 := h11; simpa using h9)
  have hB : readB d.dat name = [] := if_neg (by rw [hf]; decide)
  refine WC.r1 hs9 [] rfl (WC.ret (tkR ?_))
  clear hK10
  refine retV2 rfl (resV.tmp rfl) (resV.tmp rfl) ?_
  rw [hf]
  have hx_ := OwnF.eqOf (xs := readB d.dat name) (OwnF.nil encB 5) (by rw [hB])
  rw [← hx_]
  exact ⟨_, _, _, rfl, hs9.nil, (OwnF.nil encB 5)⟩
 obtain ⟨hok, hh⟩ := dirS_yes (d := d.dat) (n := name) (by have h9 := h11; simpa using h9)
 have hD := diskOk_P hok
 have hf : readOk d.dat name = true := by unfold readOk; rw [hok, hh]; rfl
 have hfn := (hD.at hh).1
 have hfn2 : fileN d.dat name < d.Files.xs.length := by rw [← List.length_map (f := FileR.dat)]; exact hfn
 have hB : readB d.dat name = (gat encFileR d.Files.xs (fileN d.dat name)).Body.xs := by unfold readB; rw [if_pos hf, show fAt d.dat.Files (fileN d.dat name) = FileR.dat (gat encFileR d.Files.xs (fileN d.dat name)) from fAt_dat hfn2]; rfl
 have hyb := (f_d.Files.all _ (gat_mem (F := encFileR) (xs := d.Files.xs) (k := fileN d.dat name) hfn2)).Body.len
 have hyu : (gat encFileR d.Files.xs (fileN d.dat name)).Body.xs.length ≤ usedF d.dat.Files := usedF_gat hfn2
 have hul := hD.room.2.1
 have hfl9 := f_d.Files.sl.len
 have hat := (hD.at hh).2
 have hdS : dirS d.dat = dirD d.dat := if_pos hok
 rw [hdS]
 refine WC.skip (hK10 _ _ (WC.seq (fun K12 hK12 => WC.rH hs9 hs9 (fun _ hs13 => ?_))))
 refine WH.rn [1, 2, 3, 4] hs13 [0, 0] rfl rfl (WH.all [0, 5] (by kernel_rfl) rfl (WHs.cons (i := 0) rfl ?_ (WHs.cons (i := 5) rfl ?_ WHs.nil)))
 ·refine WL.buildF (F := encB) hs13 ([]) Tryz.runUnderlying43 Tryz.sizeOf5 Tryz.zeroValue5 rfl rfl rfl rfl rfl rfl rfl rfl rfl rfl rfl rfl (fun A17 c18 L14 whs15 hs15 ho16 => ?_)
  replace hs15 := St.back [_] hs15
  refine WL.nil ⟨(hs15.rm L14), WH.o1 5 rfl (WL.cl Tryz.call109 rfl (k68_ d _ _ (okDiskR.st0 f_d hs15)) ?_)⟩
  rintro _ whs19 ⟨rfl, hs19⟩
  replace hs19 := hs15.call0 hs19
  refine ⟨_, rfl, WL.nil ⟨(hs19.rm L14), ?_⟩⟩
  refine WH.take 6 rfl (by kernel_rfl) rfl rfl rfl (hs19.rm L14) (fun w_ hs_ => (Run.idxK ((fileN d.dat name)) Tryz.runUnderlying30 Tryz.sizeOf123 rfl rfl rfl ?_ ?_ ?_)) ?_
  · exact SlF.some_ (SlF.st0 f_d.Files.sl (hs_ : St _ _ _ _))
  · omega
  · omega
  refine WH.take 7 rfl (by kernel_rfl) rfl rfl rfl (hs19.rm L14) (fun w_ hs_ => (Run.fieldO Tryz.runUnderlying123 rfl rfl rfl Tryz.sizeOf43 rfl)) ?_
  refine WH.take 8 rfl (by kernel_rfl) rfl rfl rfl (hs19.rm L14) (fun w_ hs_ => (Run.load Tryz.isAgg43 rfl rfl (SlF.fld (SlF.st0 f_d.Files.sl (hs_ : St _ _ _ _)) ?_ rfl))) ?_
  · omega
  refine WH.o1 9 rfl (WL.appendG (hs19.fr L14) ho16 (SlF.src (SlF.st0 (SlN.nth f_d.Files (by omega)).Body hs19) Tryz.underlying43) Tryz.underlying43 inf5 rfl rfl rfl rfl rfl rfl rfl rfl rfl rfl ?_ (fun A23 c24 L20 whs21 hs21 ho22 => ?_))
  · simp; omega
  replace hs21 := St.back [_] hs21
  refine WL.nil ⟨(hs21.rm L20), WH.rn [10, 11] (hs21.rm L20) [] rfl rfl (WH.dn (hK12 _ _ (WC.ret (retV2 rfl (resV.tmp rfl) (resV.tmp rfl) ?_))))⟩
  rw [hf]
  have hx_ := OwnF.eqOf (xs := readB d.dat name) ho22 (by rw [hB]; first | done | rfl | simp)
  rw [← hx_]
  first | exact ⟨_, _, _, rfl, (St.keep1 (hs21.fr L20)), ho22⟩ | exact ⟨A23, c24, _, by rw [OwnF.len_ ho22], (St.keep1 (hs21.fr L20)), by rw [OwnF.len_ ho22]; exact ho22⟩
 refine WL.cl Tryz.call109 rfl (k68_ d _ _ (okDiskR.st0 f_d hs13)) ?_
 rintro _ whs25 ⟨rfl, hs25⟩
 replace hs25 := hs13.call0 hs25
 refine ⟨_, rfl, WL.nil ⟨hs25, ?_⟩⟩
 refine WH.take 6 rfl (by kernel_rfl) rfl rfl rfl hs25 (fun w_ hs_ => (Run.idxK ((fileN d.dat name)) Tryz.runUnderlying30 Tryz.sizeOf123 rfl rfl rfl ?_ ?_ ?_)) ?_
 · exact SlF.some_ (SlF.st0 f_d.Files.sl (hs_ : St _ _ _ _))
 · omega
 · omega
 refine WH.take 7 rfl (by kernel_rfl) rfl rfl rfl hs25 (fun w_ hs_ => (Run.fieldO Tryz.runUnderlying123 rfl rfl rfl Tryz.sizeOf43 rfl)) ?_
 refine WH.take 8 rfl (by kernel_rfl) rfl rfl rfl hs25 (fun w_ hs_ => (Run.load Tryz.isAgg43 rfl rfl (SlF.fld (SlF.st0 f_d.Files.sl (hs_ : St _ _ _ _)) ?_ rfl))) ?_
 · omega
 refine WH.o1 0 rfl (WL.buildF (F := encB) hs25 ([]) Tryz.runUnderlying43 Tryz.sizeOf5 Tryz.zeroValue5 rfl rfl rfl rfl rfl rfl rfl rfl rfl rfl rfl rfl (fun A29 c30 L26 whs27 hs27 ho28 => ?_))
 replace hs27 := St.back [_] hs27
 refine WL.nil ⟨(hs27.rm L26), WH.o1 9 rfl (WL.appendG (hs27.fr L26) ho28 (SlF.src (SlF.st0 (SlN.nth f_d.Files (by omega)).Body hs27) Tryz.underlying43) Tryz.underlying43 inf5 rfl rfl rfl rfl rfl rfl rfl rfl rfl rfl ?_ (fun A34 c35 L31 whs32 hs32 ho33 => ?_))⟩
 · simp; omega
 replace hs32 := St.back [_] hs32
 refine WL.nil ⟨(hs32.rm L31), WH.rn [10, 11] (hs32.rm L31) [] rfl rfl (WH.dn (hK12 _ _ (WC.ret (retV2 rfl (resV.tmp rfl) (resV.tmp rfl) ?_))))⟩
 rw [hf]
 have hx_ := OwnF.eqOf (xs := readB d.dat name) ho33 (by rw [hB]; first | done | rfl | simp)
 rw [← hx_]
 first | exact ⟨_, _, _, rfl, (St.keep1 (hs32.fr L31)), ho33⟩ | exact ⟨A34, c35, _, by rw [OwnF.len_ ho33], (St.keep1 (hs32.fr L31)), by rw [OwnF.len_ ho33]; exact ho33⟩
theorem k73_ (l_Name : ByteArray) (l_Id : Int) (b_f : Nat) (f : FileR) (w : World) (f_f : SlF encFileR w (some ⟨b_f, 0, none⟩) 1 [f]) :
    Calls Tryz.prog 144 #[.agg #[.string l_Name, i64 l_Id], .pointer (some ⟨b_f, 0, none⟩)] w fun e w' => e = .returned (.bool (decide (l_Id = f.Id))) ∧ St w [] [] w' := by
 refine enter 9 Tryz.func144 rfl Tryz.ntmps144 rfl rfl ?_
 have hs1 := St.init w
 refine WC.sr (WL.bx hs1 rfl (fun b2 _ hs3 => WL.r 1 hs3 [] rfl (WL.nil (WC.sr (WL.r 2 hs3 [0] rfl ?_)))))
 refine WL.val rfl rfl rfl (Run.field Tryz.runUnderlying123 rfl rfl rfl Tryz.sizeOf3 rfl) ?_
 refine WL.val rfl rfl rfl (Run.load Tryz.isAgg3 rfl rfl (SlF.varF (off := 0) (SlF.st0 f_f hs3) rfl)) (WL.r 2 hs3 [] rfl (WL.nil (WC.ret (rtv rfl rfl hs3 ?_))))
 rfl
theorem k74_ (A_s : Option Addr) (n_s c_s : Nat) (s : List LinkD) (b_f : Nat) (fq : FileR) (w : World) (f_s : SlF encLink w A_s n_s s) (f_f : SlF encFileR w (some ⟨b_f, 0, none⟩) 1 [fq]) (hn : n_s ≤ 1099511627776) :
    Calls Tryz.prog 175 #[.slice A_s n_s c_s, .func (.func 144) #[] #[.pointer (some ⟨b_f, 0, none⟩)]] w fun e w' => e = .returned (.int .i64 (findI (fun l : LinkD => decide (l.Id = fq.Id)) s)) ∧ St w [] [] w' := by
 have hl := f_s.len
 refine enter 19 Tryz.func175 rfl Tryz.ntmps175 rfl rfl ?_
 have hs1 := St.init w
 refine WC.r1 hs1 [] rfl (WC.seq (fun K2 hK2 => WC.r1 hs1 [] rfl (WC.block ?_)))
 refine WC.lS [0, 1, 7] rfl hs1 (fun k_ f w' => ∃ (i : Nat), k_ = n_s - i ∧ (i ≤ n_s) ∧ (∀ j, j < i → (fun l : LinkD => decide (l.Id = fq.Id)) (gat encLink s j) = false) ∧ Sub [(8, .int .i64 i)] f) ((fun (i : Nat) => n_s - i) (0)) ?_ ?_
 ·refine ⟨0, rfl, ?_, ?_, ⟨rfl, trivial⟩⟩
  · exact Nat.zero_le _
  · exact fun j hj => absurd hj (by omega)
 clear hs1
 rintro _ f w ⟨i, rfl, p0, p1, hG⟩ hF hs3
 refine WC.sub _ (hG.app hF) ?_
 clear hG hF
 refine WC.r1 hs3 [] rfl (WC.seq (fun K4 hK4 => ?_))
 refine WC.cq rfl (fun h5 qh5 => ?_) (fun h5 qh5 => ?_)
 ·refine WC.skip (hK4 _ _ (WC.seq (fun K6 hK6 => WC.block (WC.r1 hs3 [] rfl (WC.sr (WL.r 3 hs3 [] rfl ?_))))))
  refine WL.val rfl rfl rfl (Run.idxN Tryz.runUnderlying31 Tryz.sizeOf101 rfl rfl rfl ?_ ?_ ?_) ?_
  · exact SlF.some_ (SlF.st0 f_s hs3)
  · omega
  · omega
  refine WL.val rfl rfl rfl (Run.loadA Tryz.isAgg101 Tryz.sizeOf101 rfl rfl (SlF.whole (SlF.st0 f_s hs3) ?_)) ?_
  · omega
  refine WL.call rfl rfl rfl (Run.callC Tryz.call144 rfl rfl rfl) (k73_ _ _ _ _ _ (SlF.st0 f_f hs3)) ?_
  rintro _ whs7 ⟨rfl, hs7⟩
  replace hs7 := hs3.call0 hs7
  refine ⟨_, rfl, WL.nil (WC.cq rfl (fun h8 qh8 => ?_) (fun h8 qh8 => ?_))⟩
  ·refine WC.r1 hs7 [] rfl (WC.ret (ibR (tkR (tkR (ibR (tkR ?_))))))
   clear hK6 hK2
   refine rtv rfl rfl hs7 ?_
   rw [findI_some (F := encLink) (i := i) (by omega) p1 h8]
  refine WC.skip (hK6 _ _ (WC.region (WL.r 2 hs7 [] rfl (WL.nil (tkN ?_)))))
  refine ⟨sbF rfl, hs7, _, ?_, i + 1, rfl, ?_, ?_, ⟨rfl, trivial⟩⟩
  · omega
  · omega
  · intro j hj; rcases Nat.lt_or_ge j i with h_ | h_
    · exact p1 j h_
    · obtain rfl : j = i := by omega
      exact h8
 refine WC.exit (hK2 _ _ (WC.r1 hs3 [] rfl (WC.ret (rtv rfl rfl hs3 ?_))))
 rw [findI_none (F := encLink) (fun j hj => p1 j (by omega))]
theorem k75_ (A_s : Option Addr) (n_s c_s : Nat) (s : List LinkD) (b_f : Nat) (fq : FileR) (w : World) (f_s : SlF encLink w A_s n_s s) (f_f : SlF encFileR w (some ⟨b_f, 0, none⟩) 1 [fq]) (hn : n_s ≤ 1099511627776) :
    Calls Tryz.prog 143 #[.slice A_s n_s c_s, .func (.func 144) #[] #[.pointer (some ⟨b_f, 0, none⟩)]] w fun e w' => e = .returned (.bool (linkd s fq.Id)) ∧ St w [] [] w' := by
 refine enter 9 Tryz.func143 rfl Tryz.ntmps143 rfl rfl ?_
 have hs1 := St.init w
 refine WC.r1 hs1 [] rfl (WC.sr (WL.r 2 hs1 [] rfl (WL.cl Tryz.call175 rfl (k74_ _ _ _ _ _ _ _ (SlF.st0 f_s hs1) (SlF.st0 f_f hs1) ?_) ?_)))
 · first | assumption | rfl | omega
 rintro _ whs2 ⟨rfl, hs2⟩
 replace hs2 := hs1.call0 hs2
 refine ⟨_, rfl, WL.r 2 hs2 [] rfl (WL.nil (WC.ret (rtv rfl rfl hs2 ?_)))⟩
 rw [linkd_find]
theorem k76_ (f : FileR) (b_p b_d : Nat) (d : DiskR) (w : World) (f_p : SlF encP w (some ⟨b_p, 0, none⟩) 1 [b_d]) (f_b : SlF encDiskR w (some ⟨b_d, 0, none⟩) 1 [d]) (f_K : SlF encLink w d.Kept.A d.Kept.n d.Kept.xs) (hn : d.Kept.n ≤ 1099511627776) :
    Calls Tryz.prog 142 #[.agg #[i64 f.Id, .slice f.Body.A f.Body.n f.Body.c, i64 f.Safe], .pointer (some ⟨b_p, 0, none⟩)] w fun e w' => e = .returned (.bool (!linkd d.Kept.xs f.Id)) ∧ St w [] [] w' := by
 refine enter 11 Tryz.func142 rfl Tryz.ntmps142 rfl rfl ?_
 have hs1 := St.init w
 refine WC.sr (WL.bx hs1 rfl (fun b2 _ hs3 => WL.r 1 hs3 [] rfl (WL.nil (WC.sr (WL.val rfl rfl rfl (Run.load Tryz.isAgg168 rfl rfl (SlF.var (SlF.st0 f_p hs3) rfl)) (WL.r 1 hs3 [] rfl ?_))))))
 refine WL.val rfl rfl rfl (Run.field Tryz.runUnderlying34 rfl rfl rfl Tryz.sizeOf31 rfl) ?_
 refine WL.val rfl rfl rfl (Run.load Tryz.isAgg31 rfl rfl (SlF.varF (off := 4) (SlF.st0 f_b hs3) rfl)) (WL.val rfl rfl rfl (Run.makeFunc rfl rfl) (WL.cl Tryz.call143 rfl (k75_ _ _ _ _ _ _ _ (SlF.st0 f_K hs3) (SlF.own1 (hs3.own _ (nthL_mem (i := 0) rfl)).1) ?_) ?_))
 · first | assumption | rfl | omega
 rintro _ whs4 ⟨rfl, hs4⟩
 replace hs4 := hs3.call0 hs4
 refine ⟨_, rfl, WL.r 2 hs4 [] rfl (WL.nil (WC.ret (rtv rfl rfl hs4 ?_)))⟩
 rfl
theorem k77_ (A_s : Option Addr) (n_s c_s : Nat) (s : List FileR) (b_p b_d : Nat) (d : DiskR) (w : World) (f_s : SlF encFileR w A_s n_s s) (f_p : SlF encP w (some ⟨b_p, 0, none⟩) 1 [b_d]) (f_b : SlF encDiskR w (some ⟨b_d, 0, none⟩) 1 [d]) (f_K : SlF encLink w d.Kept.A d.Kept.n d.Kept.xs) (hn : n_s ≤ 1099511627776) (hk : d.Kept.n ≤ 1099511627776) :
    Calls Tryz.prog 170 #[.slice A_s n_s c_s, .func (.func 142) #[] #[.pointer (some ⟨b_p, 0, none⟩)]] w fun e w' => e = .returned (.int .i64 (findI (fun f : FileR => !linkd d.Kept.xs f.Id) s)) ∧ St w [] [] w' := by
 have hl := f_s.len
 refine enter 19 Tryz.func170 rfl Tryz.ntmps170 rfl rfl ?_
 have hs1 := St.init w
 refine WC.r1 hs1 [] rfl (WC.seq (fun K2 hK2 => WC.r1 hs1 [] rfl (WC.block ?_)))
 refine WC.lS [0, 1, 7] rfl hs1 (fun k_ f w' => ∃ (i : Nat), k_ = n_s - i ∧ (i ≤ n_s) ∧ (∀ j, j < i → (fun f : FileR => !linkd d.Kept.xs f.Id) (gat encFileR s j) = false) ∧ Sub [(8, .int .i64 i)] f) ((fun (i : Nat) => n_s - i) (0)) ?_ ?_
 ·refine ⟨0, rfl, ?_, ?_, ⟨rfl, trivial⟩⟩
  · exact Nat.zero_le _
  · exact fun j hj => absurd hj (by omega)
 clear hs1
 rintro _ f w ⟨i, rfl, p0, p1, hG⟩ hF hs3
 refine WC.sub _ (hG.app hF) ?_
 clear hG hF
 refine WC.r1 hs3 [] rfl (WC.seq (fun K4 hK4 => ?_))
 refine WC.cq rfl (fun h5 qh5 => ?_) (fun h5 qh5 => ?_)
 ·refine WC.skip (hK4 _ _ (WC.seq (fun K6 hK6 => WC.block (WC.r1 hs3 [] rfl (WC.sr (WL.r 3 hs3 [] rfl ?_))))))
  refine WL.val rfl rfl rfl (Run.idxN Tryz.runUnderlying30 Tryz.sizeOf123 rfl rfl rfl ?_ ?_ ?_) ?_
  · exact SlF.some_ (SlF.st0 f_s hs3)
  · omega
  · omega
  refine WL.val rfl rfl rfl (Run.loadA Tryz.isAgg123 Tryz.sizeOf123 rfl rfl (SlF.whole (SlF.st0 f_s hs3) ?_)) ?_
  · omega
  refine WL.call rfl rfl rfl (Run.callC Tryz.call142 rfl rfl rfl) (k76_ _ _ _ _ _ (SlF.st0 f_p hs3) (SlF.st0 f_b hs3) (SlF.st0 f_K hs3) ?_) ?_
  · first | assumption | rfl | omega
  rintro _ whs7 ⟨rfl, hs7⟩
  replace hs7 := hs3.call0 hs7
  refine ⟨_, rfl, WL.nil (WC.cq rfl (fun h8 qh8 => ?_) (fun h8 qh8 => ?_))⟩
  ·refine WC.r1 hs7 [] rfl (WC.ret (ibR (tkR (tkR (ibR (tkR ?_))))))
   clear hK6 hK2
   refine rtv rfl rfl hs7 ?_
   rw [findI_some (F := encFileR) (i := i) (by omega) p1 h8]
  refine WC.skip (hK6 _ _ (WC.region (WL.r 2 hs7 [] rfl (WL.nil (tkN ?_)))))
  refine ⟨sbF rfl, hs7, _, ?_, i + 1, rfl, ?_, ?_, ⟨rfl, trivial⟩⟩
  · omega
  · omega
  · intro j hj; rcases Nat.lt_or_ge j i with h_ | h_
    · exact p1 j h_
    · obtain rfl : j = i := by omega
      exact h8
 refine WC.exit (hK2 _ _ (WC.r1 hs3 [] rfl (WC.ret (rtv rfl rfl hs3 ?_))))
 rw [findI_none (F := encFileR) (fun j hj => p1 j (by omega))]
theorem k78_ (v_s : Value) (s : List FileR) (L_s : Hp) (b_p b_d : Nat) (d : DiskR) (w : World) (o_s : OwnF encFileR 123 v_s s L_s) (h_s : Hh w L_s) (f_p : SlF encP w (some ⟨b_p, 0, none⟩) 1 [b_d]) (f_b : SlF encDiskR w (some ⟨b_d, 0, none⟩) 1 [d]) (f_K : SlF encLink w d.Kept.A d.Kept.n d.Kept.xs) (s_p : b_p ∉ L_s.map (·.1)) (s_b : b_d ∉ L_s.map (·.1)) (s_K : 0 < d.Kept.n → (adr d.Kept.A).block ∉ L_s.map (·.1)) (hn : s.length ≤ 268435456) (hk : d.Kept.n ≤ 1099511627776) :
    Calls Tryz.prog 141 #[v_s, .func (.func 142) #[] #[.pointer (some ⟨b_p, 0, none⟩)]] w fun e w' => ∃ A c L1, e = .returned (.slice A (s.filter (fun f : FileR => linkd d.Kept.xs f.Id)).length c) ∧ St w (L_s.map (·.1)) L1 w' ∧ OwnF encFileR 123 (.slice A (s.filter (fun f : FileR => linkd d.Kept.xs f.Id)).length c) (s.filter (fun f : FileR => linkd d.Kept.xs f.Id)) L1 := by
 obtain ⟨A_s, c_s, rfl⟩ := o_s.shape
 refine enter 42 Tryz.func141 rfl Tryz.ntmps141 rfl rfl ?_
 have hs1 := St.lent1 w L_s o_s h_s
 refine WC.r1 hs1 [] rfl ?_
 refine WC.sr ?_
 refine WL.r 2 hs1 [] rfl ?_
 refine WL.cl Tryz.call170 rfl (k77_ _ _ _ _ _ _ _ _ (SlF.ofOwn o_s (hs1.ow L_s)) (SlF.st f_p hs1 (fun _ => s_p)) (SlF.st f_b hs1 (fun _ => s_b)) (SlF.st f_K hs1 s_K) ?_ ?_) ?_
 iterate 2 first | assumption | rfl | omega
 rintro _ whs2 ⟨rfl, hs2⟩
 replace hs2 := hs1.call0 hs2
 refine ⟨_, rfl, ?_⟩
 refine WL.r 1 hs2 [] rfl ?_
 refine WL.nil ?_
 refine WC.seq (fun K3 hK3 => ?_)
 refine WC.r1 hs2 [] rfl ?_
 refine WC.cq rfl (fun h4 qh4 => ?_) (fun h4 qh4 => ?_)
 ·have hall : s.filter (fun f : FileR => linkd d.Kept.xs f.Id) = s := by
    rcases findI_cases (p := (fun f : FileR => !linkd d.Kept.xs f.Id)) (xs := s) with ⟨_, h1_⟩ | ⟨i1, _, h1_, _⟩
    · exact List.filter_eq_self.2 (fun x hx => by have h9 := h1_ x hx; simpa using h9)
    · omega
  refine WC.r1 hs2 [] rfl ?_
  refine WC.ret ?_
  refine tkR ?_
  clear hK3
  refine retV1 rfl (resV.tmp rfl) ?_
  have hx_ := OwnF.eqOf (xs := s.filter (fun f : FileR => linkd d.Kept.xs f.Id)) o_s (by rw [hall])
  rw [← hx_]
  first | exact ⟨_, _, _, rfl, (St.keep1 hs2), o_s⟩ | exact ⟨A_s, c_s, _, by rw [OwnF.len_ o_s], (St.keep1 hs2), by rw [OwnF.len_ o_s]; exact o_s⟩
 obtain ⟨i0, hi0, hf0, hp0, hb0⟩ : ∃ i0 : Nat, ∃ hi : i0 < s.length, findI (fun f : FileR => !linkd d.Kept.xs f.Id) s = (i0 : Int) ∧ (fun f : FileR => !linkd d.Kept.xs f.Id) s[i0] = true ∧ ∀ j (hj : j < i0), (fun f : FileR => !linkd d.Kept.xs f.Id) (s[j]'(by omega)) = false := by
   rcases findI_cases (p := (fun f : FileR => !linkd d.Kept.xs f.Id)) (xs := s) with ⟨h1_, _⟩ | ⟨i1, hi, h1_, h2_, h3_⟩
   · omega
   · exact ⟨i1, hi, h1_, h2_, h3_⟩
 rw [hf0]
 have hinit : s.take i0 = (s.take (i0 + 1)).filter (fun f : FileR => linkd d.Kept.xs f.Id) := by
   rw [filter_take (F := encFileR) hi0]
   have hg : gat encFileR s i0 = s[i0] := by have e_ := gat_get (F := encFileR) hi0; rw [List.getElem?_eq_getElem hi0] at e_; exact (Option.some.inj e_).symm
   rw [if_neg (by rw [hg]; simpa using hp0), List.append_nil]
   symm
   refine List.filter_eq_self.2 (fun x hx => ?_)
   obtain ⟨j, hj, rfl⟩ := List.mem_iff_getElem.1 hx
   rw [List.length_take] at hj
   rw [List.getElem_take]
   have h9 := hb0 j (by omega)
   simpa using h9
 refine WC.skip ?_
 refine hK3 _ _ ?_
 refine WC.seq (fun K5 hK5 => ?_)
 refine WC.r1 hs2 [] rfl ?_
 refine WC.block ?_
 refine WC.lO [1, 4, 12] rfl hs2 (fun k_ f L_ => ∃ (zs : List FileR) (i j : Nat), k_ = s.length - j ∧ (i < j) ∧ (j ≤ s.length) ∧ (zs.length = s.length) ∧ (zs.take i = (s.take j).filter (fun f : FileR => linkd d.Kept.xs f.Id)) ∧ (∀ k, j ≤ k → gat encFileR zs k = gat encFileR s k) ∧ OwnF encFileR 123 (.slice A_s (s.length) c_s) (zs) L_ ∧ Sub [(0, .slice A_s (s.length) c_s), (5, .int .i64 i), (6, .int .i64 j)] f) (((fun (zs : List FileR) (i j : Nat) => s.length - j) (s) (i0) ((i0 + 1)))) ?_ ?_
 ·refine ⟨s, i0, (i0 + 1), rfl, ?_, ?_, ?_, ?_, ?_, o_s, ⟨rfl, rfl, rfl, trivial⟩⟩
  · omega
  · omega
  · rfl
  · exact hinit
  · exact fun k _ => rfl
 clear hs2
 rintro _ f w L8 ⟨zs, i, j, rfl, p0, p1, p2, p3, p4, ho9, hG⟩ hF hs10
 refine WC.sub _ (hG.app hF) ?_
 clear hG hF
 refine WC.seq (fun K11 hK11 => ?_)
 refine WC.r1 hs10 [] rfl ?_
 refine WC.cq rfl (fun h12 qh12 => ?_) (fun h12 qh12 => ?_)
 ·refine WC.skip ?_
  refine hK11 _ _ ?_
  refine WC.seq (fun K13 hK13 => ?_)
  refine WC.block ?_
  refine WC.sr ?_
  refine WL.r 2 hs10 [] rfl ?_
  refine WL.val rfl rfl rfl (Run.idxN Tryz.runUnderlying30 Tryz.sizeOf123 rfl rfl rfl ?_ ?_ ?_) ?_
  · exact SlF.some_ (SlF.ofOwn ho9 (hs10.ow L8))
  · omega
  · omega
  refine WL.val rfl rfl rfl (Run.loadA Tryz.isAgg123 Tryz.sizeOf123 rfl rfl (SlF.whole (SlF.ofOwn ho9 (hs10.ow L8)) ?_)) ?_
  · omega
  refine WL.al hs10 Tryz.zeroValue123 rfl rfl (fun b14 _ hs15 => ?_)
  refine WL.st tbk hs15 0 rfl rfl (fun _ hs16 => ?_)
  refine WL.nil ?_
  refine WC.sr ?_
  refine WL.r 2 hs16 [0] rfl ?_
  refine WL.call rfl rfl rfl (Run.callC Tryz.call142 rfl rfl rfl) (k76_ _ _ _ _ _ (SlF.st f_p hs16 (fun _ => s_p)) (SlF.st f_b hs16 (fun _ => s_b)) (SlF.st f_K hs16 s_K) ?_) ?_
  · first | assumption | rfl | omega
  rintro _ whs17 ⟨rfl, hs17⟩
  replace hs17 := hs16.call0 hs17
  refine ⟨_, rfl, ?_⟩
  refine WL.r 1 hs17 [] rfl ?_
  refine WL.nil ?_
  refine WC.cq rfl (fun h18 qh18 => ?_) (fun h18 qh18 => ?_)
  ·refine WC.sr ?_
   refine WL.r 3 hs17 [0] rfl ?_
   refine WL.val rfl rfl rfl (Run.idxN Tryz.runUnderlying30 Tryz.sizeOf123 rfl rfl rfl ?_ ?_ ?_) ?_
   · exact SlF.some_ (SlF.ofOwn ho9 (hs17.ow L8))
   · omega
   · omega
   refine WL.storeF1 (x' := (gat encFileR zs j)) (hs17.fr L8) ho9 Tryz.sizeOf123 rfl rfl rfl rfl rfl rfl rfl rfl rfl ?_ rfl (fun L19 whs20 hs20 ho21 _ => ?_)
   · omega
   replace hs20 := St.back [_] hs20
   refine WL.nil ?_
   refine WC.region ?_
   refine WL.r 3 hs20 [] rfl ?_
   refine WL.nil ?_
   refine hK13 _ _ ?_
   refine WC.region ?_
   refine WL.r 3 hs20 [] rfl ?_
   refine WL.nil ?_
   refine tkN ?_
   replace hs20 := hs20.d1
   refine ⟨sbF rfl, _, hs20, _, ?_, _, (i + 1), (j + 1), rfl, ?_, ?_, ?_, ?_, ?_, ho21, ⟨rfl, rfl, rfl, trivial⟩⟩
   · omega
   · omega
   · omega
   · first | omega | (rw [List.length_set]; omega)
   · first | (rw [set_take (by omega), p3, filter_take (F := encFileR) (by omega), if_pos (by rw [← p4 j (Nat.le_refl _)]; simpa using h18), p4 j (Nat.le_refl _)]) | (rw [p3, filter_take (F := encFileR) (by omega), if_neg (by rw [← p4 j (Nat.le_refl _)]; simpa using h18), List.append_nil])
   · intro k hk; first | (rw [gat_set_ne (by omega)]; exact p4 k (by omega)) | exact p4 k (by omega)
  refine WC.skip ?_
  refine hK13 _ _ ?_
  refine WC.region ?_
  refine WL.r 3 hs17 [] rfl ?_
  refine WL.nil ?_
  refine tkN ?_
  replace hs17 := hs17.d1
  refine ⟨sbF rfl, _, hs17, _, ?_, _, i, (j + 1), rfl, ?_, ?_, ?_, ?_, ?_, ho9, ⟨rfl, rfl, rfl, trivial⟩⟩
  · omega
  · omega
  · omega
  · first | omega | (rw [List.length_set]; omega)
  · first | (rw [set_take (by omega), p3, filter_take (F := encFileR) (by omega), if_pos (by rw [← p4 j (Nat.le_refl _)]; simpa using h18), p4 j (Nat.le_refl _)]) | (rw [p3, filter_take (F := encFileR) (by omega), if_neg (by rw [← p4 j (Nat.le_refl _)]; simpa using h18), List.append_nil])
  · intro k hk; first | (rw [gat_set_ne (by omega)]; exact p4 k (by omega)) | exact p4 k (by omega)
 refine WC.exit ?_
 refine hK5 _ _ ?_
 refine WC.sr ?_
 refine WL.r 2 hs10 [] rfl ?_
 have hc_ := OwnF.cap ho9
 refine WL.val rfl rfl rfl (Run.sliceL (i) Tryz.runUnderlying30 Tryz.sizeOf123 rfl rfl rfl ?_ ?_) ?_
 · first | rfl | (omega)
 · refine ⟨?_, ?_, ?_⟩ <;> (omega)
 refine WL.clearF (lo := i) hs10 ho9 Tryz.underlying30 Tryz.zeroValue123 rfl rfl rfl rfl rfl ?_ (fun L22 whs23 hs23 ho24 _ => ?_)
 · omega
 refine WL.nil ?_
 refine WC.sr ?_
 refine WL.r 2 hs23 [] rfl ?_
 have ho25 := OwnF.take (k := i) ho24 (by omega)
 have hcho25 := OwnF.cap ho25
 refine WL.val rfl rfl rfl (Run.sliceH0 (i) Tryz.runUnderlying30 Tryz.sizeOf123 rfl rfl rfl ?_ ?_) ?_
 · first | rfl | (omega)
 · first | (exact Nat.zero_le _) | (omega)
 refine WL.r 1 hs23 [] rfl ?_
 refine WL.nil ?_
 refine WC.ret ?_
 refine retV1 rfl (resV.tmp rfl) ?_
 have hx_ := OwnF.eqOf (xs := s.filter (fun f : FileR => linkd d.Kept.xs f.Id)) ho25 (by first | (rw [List.take_left' (by rw [List.length_take]; omega), p3, List.take_of_length_le (by omega)]) | (rw [List.take_append_of_le_length (by rw [List.length_take]; omega), List.take_take, Nat.min_self, p3, List.take_of_length_le (by omega)]))
 rw [← hx_]
 first | exact ⟨_, _, _, rfl, (St.keep1 hs23), ho25⟩ | exact ⟨A_s, c_s, _, by rw [OwnF.len_ ho25], (St.keep1 hs23), by rw [OwnF.len_ ho25]; exact ho25⟩
set_option maxHeartbeats 4000000 in
theorem k79_ (d : DiskR) (L_d : Hp) (w : World) (o_d : ownDiskR d L_d) (h_d : Hh w L_d) (hd_ : ((L_d).map (·.1)).Nodup) (ht : d.Turns.xs = []) (hsm : smDisk 549755813888 d.dat) (hn1 : d.Files.xs.length ≤ 1048576) (hn2 : d.Kept.n ≤ 1048576) :
    Calls Tryz.prog 147 #[.agg #[i64 d.Room, i64 d.Fuse, i64 d.Next, .slice d.Files.A d.Files.n d.Files.c, .slice d.Kept.A d.Kept.n d.Kept.c, .slice d.Turns.A d.Turns.n d.Turns.c]] w fun e w' => ∃ r L1, e = .returned (.agg #[i64 r.Room, i64 r.Fuse, i64 r.Next, .slice r.Files.A r.Files.n r.Files.c, .slice r.Kept.A r.Kept.n r.Kept.c, .slice r.Turns.A r.Turns.n r.Turns.c]) ∧ St w (L_d.map (·.1)) L1 w' ∧ ownDiskR r L1 ∧ r.dat = ({ d.dat with Files := onlyL d.dat.Kept d.dat.Files } : DiskD) := by
 have hdo := ownDiskR.ok (B := 549755813888) o_d h_d hsm
 have hl1 := hdo.Files.sl.len
 have hl2 := hdo.Kept.len
 have hl3 := hdo.Turns.len
 have htn : d.Turns.n = 0 := by rw [← hl3, ht]; rfl
 have hil : (idsD d.dat).length ≤ 1048576 := by unfold idsD; rw [List.length_append, List.length_map]; have h9 := made_len d.dat.Turns; have h8 : d.dat.Turns.length = d.Turns.xs.length := rfl; have h7 : d.dat.Kept.length = d.Kept.xs.length := rfl; omega
 refine enter 27 Tryz.func147 rfl Tryz.ntmps147 rfl rfl ?_
 have hs1 := St.takes1 w L_d h_d hd_
 refine WC.sr (WL.bx hs1 rfl (fun b2 _ hs3 => WL.al hs3 Tryz.zeroValue34 rfl rfl (fun b4 _ hs5 => WL.nil (WC.sr (WL.buildF (F := encFileR) hs5 ([]) Tryz.runUnderlying30 Tryz.sizeOf123 Tryz.zeroValue123 rfl rfl rfl rfl rfl rfl rfl rfl rfl rfl rfl rfl (fun A9 c10 L6 whs7 hs7 ho8 => ?_))))))
 replace hs7 := St.back [_, _] hs7
 refine WL.r 1 hs7 [] rfl (WL.nil (WC.seq (fun K11 hK11 => WC.r1 hs7 [1] rfl (WC.block ?_))))
 refine WC.lO [1, 2, 8, 9] rfl (hs7.fr L6) (fun k_ f L_ => ∃ (zs : List FileR) (i : Nat) (A12 : Option Addr) (c13 : Nat), k_ = d.Files.n - i ∧ (i ≤ d.Files.n) ∧ (zs = (d.Files.xs.take i).filter (fun f : FileR => linkd d.Kept.xs f.Id)) ∧ OwnF encFileR 123 (.slice A12 (zs.length) c13) (zs) L_ ∧ Sub [(3, .slice A12 (zs.length) c13), (10, .int .i64 i)] f) (((fun (zs : List FileR) (i : Nat) => d.Files.n - i) ([]) (0))) ?_ ?_
 ·refine ⟨[], 0, _, _, rfl, ?_, ?_, ho8, ⟨rfl, rfl, trivial⟩⟩
  · exact Nat.zero_le _
  · rfl
 clear hs7
 rintro _ f w L14 ⟨zs, i, A12, c13, rfl, p0, p1, ho15, hG⟩ hF hs16
 refine WC.sub _ (hG.app hF) ?_
 clear hG hF
 replace hs16 := St.back [_, _] hs16
 have hzl : zs.length ≤ d.Files.n := by rw [p1]; have h9 := List.length_filter_le (fun f : FileR => linkd d.Kept.xs f.Id) (d.Files.xs.take i); rw [List.length_take] at h9; omega
 refine WC.r1 hs16 [] rfl (WC.seq (fun K17 hK17 => ?_))
 refine WC.cq rfl (fun h18 qh18 => ?_) (fun h18 qh18 => ?_)
 ·refine WC.skip (hK17 _ _ (WC.seq (fun K19 hK19 => WC.block (WC.sr ?_))))
  refine WL.val rfl rfl rfl (Run.idxN Tryz.runUnderlying30 Tryz.sizeOf123 rfl rfl rfl ?_ ?_ ?_) ?_
  · exact SlF.some_ (ownDiskR.ok (B := 549755813888) o_d (hs16.ow L_d) (by assumption)).Files.sl
  · omega
  · omega
  refine WL.val rfl rfl rfl (Run.loadA Tryz.isAgg123 Tryz.sizeOf123 rfl rfl (SlF.whole (ownDiskR.ok (B := 549755813888) o_d (hs16.ow L_d) (by assumption)).Files.sl ?_)) ?_
  · omega
  refine WL.al hs16 Tryz.zeroValue123 rfl rfl (fun b20 _ hs21 => WL.st tbk hs21 0 rfl rfl (fun _ hs22 => WL.nil (WC.seq (fun K23 hK23 => WC.rH hs22 hs22 (fun _ hs24 => ?_)))))
  refine WH.rn [0, 2, 3] hs24 [2, 0] rfl rfl (WH.o1 1 rfl (WL.cl Tryz.call103 rfl (k31_ d _ (ownDiskR.ok (B := 549755813888) o_d (hs24.ow L_d) (by assumption)) ?_ ?_) ?_))
  iterate 2 first | assumption | rfl | omega
  rintro _ whs25 ⟨A26, c27, L1_28, rfl, hs25, ho29⟩
  replace hs25 := hs24.callF hs25
  refine ⟨_, rfl, ?_⟩
  replace hs25 := St.back [_, _, _] hs25
  refine WL.nil ⟨(hs25.rm L1_28), WH.o1 4 rfl (WL.cl Tryz.call104 rfl (k27_ _ _ _ _ _ _ (SlF.ofOwn ho29 (hs25.ow L1_28)) ?_) ?_)⟩
  · first | assumption | rfl | omega
  rintro _ whs30 ⟨rfl, hs30⟩
  replace hs30 := hs25.call0 hs30
  refine ⟨_, rfl, WL.nil ⟨(hs30.rm L1_28), WH.dn (hK23 _ _ ?_)⟩⟩
  refine WC.cq rfl (fun h31 qh31 => ?_) (fun h31 qh31 => ?_)
  ·have hkp : linkd d.Kept.xs (gat encFileR d.Files.xs i).Id = true := by have h9 := h31; rw [show (idsD d.dat).contains (gat encFileR d.Files.xs i).Id = linkd d.Kept.xs (gat encFileR d.Files.xs i).Id from has_linkd ht] at h9; exact h9
   refine WC.region (WL.r 2 hs30 [0] rfl (WL.buildSlice hs30 Tryz.runUnderlying30 Tryz.sizeOf123 Tryz.zeroValue123 rfl rfl rfl rfl rfl rfl rfl rfl rfl rfl (fun b32 whs33 hs33 => ?_)))
   refine WL.appendG (hs33.fr L14) ho15 (srcF (F := encFileR) (ys := [(gat encFileR d.Files.xs i)]) Tryz.underlying30 rfl rfl (hs33.own _ (nthL_mem (i := 0) rfl)).1) Tryz.underlying30 inf123 rfl rfl rfl rfl rfl rfl rfl rfl rfl rfl ?_ (fun A37 c38 L34 whs35 hs35 ho36 => ?_)
   · (try simp only [List.length_append, List.length_singleton]); omega
   replace hs35 := St.back [_, _, _, _] hs35
   refine WL.r 1 hs35 [] rfl (WL.nil (hK19 _ _ (WC.region (WL.r 2 hs35 [] rfl (WL.nil (tkN ?_))))))
   replace hs35 := (hs35.d1.d1.rm L1_28)
   refine ⟨sbF rfl, _, (hs35.fr L34), _, ?_, _, i + 1, _, _, rfl, ?_, ?_, ho36, ⟨rfl, rfl, trivial⟩⟩
   · omega
   · omega
   · rw [p1, filter_take (F := encFileR) (by omega)]; first | (rw [if_pos hkp]; done) | (rw [if_neg hkp, List.append_nil]; done)
  have hkp : ¬ linkd d.Kept.xs (gat encFileR d.Files.xs i).Id = true := by have h9 := h31; rw [show (idsD d.dat).contains (gat encFileR d.Files.xs i).Id = linkd d.Kept.xs (gat encFileR d.Files.xs i).Id from has_linkd ht] at h9; rw [h9]; decide
  refine WC.skip (hK19 _ _ (WC.region (WL.r 2 hs30 [] rfl (WL.nil (tkN ?_)))))
  replace hs30 := (hs30.d1.rm L1_28)
  refine ⟨sbF rfl, _, (hs30.fr L14), _, ?_, _, i + 1, _, _, rfl, ?_, ?_, ho15, ⟨rfl, rfl, trivial⟩⟩
  · omega
  · omega
  · rw [p1, filter_take (F := encFileR) (by omega)]; first | (rw [if_pos hkp]; done) | (rw [if_neg hkp, List.append_nil]; done)
 refine WC.exit (hK11 _ _ (WC.sr (WL.r 2 hs16 [] rfl (WL.st tbk hs16 1 rfl rfl (fun _ hs39 => WL.nil (WC.sr (WL.r 1 hs39 [1] rfl ?_)))))))
 refine WL.st tbk hs39 0 rfl rfl (fun _ hs40 => WL.nil (WC.ret (retV1 rfl (resV.cellA tbk hs40 0 rfl rfl rfl rfl) ?_)))
 obtain ⟨L41, L42, L43, hs47, ho44, ho45, ho46⟩ := ownDiskR.op hs40 o_d
 have hs48 := ((hs47.fb b2).fb b4)
 obtain ⟨L49, L50, hs53, ho51, ho52⟩ := OwnN.open_ (hs48.fr L41) ho44
 have hs54 := ((hs53.fb b2).fb b4)
 obtain ⟨L55, hs56, hb57⟩ := Bag.keep (fun f : FileR => linkd d.Kept.xs f.Id) (hs54.fr L50) ho52
 have hs58 := ((hs56.fb b2).fb b4)
 have hzz : zs = d.Files.xs.filter (fun f : FileR => linkd d.Kept.xs f.Id) := by rw [p1, List.take_of_length_le (by omega)]
 rw [← hzz] at hb57
 obtain ⟨L60, hs59, ho61⟩ := OwnN.fold ((hs58.fr L55).fr L14) ho15 hb57
 have hs62 := ((hs59.fb b2).fb b4)
 obtain ⟨L64, hs63, ho65⟩ := ownDiskR.fl hs62 ho61 ho45 ho46
 have hs66 := ((hs63.fb b2).fb b4)
 refine ownDiskR.ret rfl (St.keep1 (hs66.fr L64)) ho65 ?_
 · exact DiskD.ext' rfl rfl rfl (by show zs.map FileR.dat = _; rw [hzz]; exact onlyL_dat) rfl rfl
theorem k80_ (b_s : Nat) (s : DiskR) (L_s : Hp) (w : World) (hb_s : w.heap[b_s]? = some (Obj.cells (List.toArray [i64 s.Room, i64 s.Fuse, i64 s.Next, .slice s.Files.A s.Files.n s.Files.c, .slice s.Kept.A s.Kept.n s.Kept.c, .slice s.Turns.A s.Turns.n s.Turns.c]) 34 (0, 0))) (o_s : ownDiskR s L_s) (h_s : Hh w L_s) (hd_ : (b_s :: L_s.map (·.1)).Nodup) (hn : s.Files.xs.length ≤ 1048576) (hk : s.Kept.n ≤ 1048576) :
    Calls Tryz.prog 85 #[.pointer (some ⟨b_s, 0, none⟩)] w fun e w' => ∃ r L1, e = .returned (.tuple #[]) ∧ St w (b_s :: L_s.map (·.1)) ([(b_s, Obj.cells (List.toArray [i64 r.Room, i64 r.Fuse, i64 r.Next, .slice r.Files.A r.Files.n r.Files.c, .slice r.Kept.A r.Kept.n r.Kept.c, .slice r.Turns.A r.Turns.n r.Turns.c]) 34 (0, 0))] ++ L1) w' ∧ ownDiskR r L1 ∧ r.dat = ({ s.dat with Files := onlyL s.dat.Kept s.dat.Files } : DiskD) := by
 refine enter 11 Tryz.func85 rfl Tryz.ntmps85 rfl rfl ?_
 have hs1 := St.takeP w b_s _ L_s hb_s h_s hd_
 refine WC.sr (WL.bx hs1 rfl (fun b2 _ hs3 => WL.nil (WC.rG 9 ((hs3.fb b_s).d1.rm L_s) (hs3.rm L_s) hs3 (fun _ hs4 => ?_))))
 refine WG.rn [0, 1, 2, 3, 4] (hs4.rm L_s) [0, 0, 1] rfl rfl ?_
 refine WG.tk 5 rfl (by kernel_rfl) rfl rfl rfl (hs4.rm L_s) (fun w_ hs_ => (Run.makeFunc rfl rfl)) ?_
 refine WG.o1 6 rfl rfl ?_
 obtain ⟨L6, L7, L8, hs12, ho9, ho10, ho11⟩ := ownDiskR.op hs4 o_s
 have hs13 := ((hs12.fb b_s).fb b2)
 obtain ⟨L14, L15, hs18, ho16, ho17⟩ := OwnN.open_ (hs13.fr L6) ho9
 have hs19 := ((hs18.fb b_s).fb b2)
 refine WL.cl Tryz.call141 rfl (k78_ _ _ _ _ _ _ _ ho16 (hs19.ow L14) (SlF.own1 (hs19.own _ (nthL_mem (i := 0) rfl)).1) (SlF.own1 (hs19.own _ (nthL_mem (i := 1) rfl)).1) (SlF.ofOwn ho10 (hs19.ow L7)) (St.sepOwn (hs19.fr L14) (nthL_mem (i := 0) rfl)) (St.sepOwn (hs19.fr L14) (nthL_mem (i := 1) rfl)) (OwnF.sep (hs19.fr L14) (fun p_ hp_ => (List.mem_append_right [_, _] (List.mem_append_right _ (List.mem_append_left _ hp_)))) ho10) ?_ ?_) ?_
 iterate 2 first | assumption | rfl | omega
 rintro _ whs5 ⟨A20, c21, L1_22, rfl, hs5, ho23⟩
 replace hs5 := St.lend (hs19.fr L14) hs5
 refine ⟨_, rfl, ?_⟩
 replace hs5 := St.back [_, _] hs5
 obtain ⟨L24, hs25, hb26⟩ := Bag.keep (fun f : FileR => linkd s.Kept.xs f.Id) (hs5.fr L15) ho17
 have hs27 := ((hs25.fb b_s).fb b2)
 obtain ⟨L29, hs28, ho30⟩ := OwnN.fold ((hs27.fr L24).fr L1_22) ho23 hb26
 have hs31 := ((hs28.fb b_s).fb b2)
 skip
 refine WL.nil ⟨(((hs31.rm L29).rm L7).rm L8), WG.rn [7, 8] (((hs31.rm L29).rm L7).rm L8) [] rfl rfl (WG.oK rfl (WL.st tbk hs31 1 rfl rfl (fun _ hs32 => WL.nil ⟨((((hs32.fb b_s).d1.rm L29).rm L7).rm L8), WH.dn (retK0 rfl ?_)⟩)))⟩
 obtain ⟨L34, hs33, ho35⟩ := ownDiskR.fl hs32 ho30 ho10 ho11
 have hs36 := ((hs33.fb b_s).fb b2)
 refine ownDiskR.retp rfl ((hs36.fr L34).fb b_s) ho35 ?_
 · exact DiskD.ext' rfl rfl rfl onlyL_dat rfl rfl
theorem built_123_0 (x0 : Int) : Tryz.prog.built 123 [(0, .int .i64 x0)] = some (List.toArray [.int .i64 x0, .slice none 0 0, .int .i64 0]) := by kernel_rfl
theorem built_137_0_1_3 (x0 : Int) (x1 : ByteArray) (x2 : Int) : Tryz.prog.built 137 [(0, .int .i64 x0), (1, .string x1), (3, .int .i64 x2)] = some (List.toArray [.int .i64 x0, .string x1, .string ⟨#[]⟩, .int .i64 x2]) := by kernel_rfl
theorem built_137_0_1_2 (x0 : Int) (x1 : ByteArray) (x2 : ByteArray) : Tryz.prog.built 137 [(0, .int .i64 x0), (1, .string x1), (2, .string x2)] = some (List.toArray [.int .i64 x0, .string x1, .string x2, .int .i64 0]) := by kernel_rfl
set_option maxHeartbeats 8000000 in
theorem k81_ (b_s : Nat) (s : DiskR) (L_s : Hp) (op_Kind : Int) (op_Name : ByteArray) (op_To : ByteArray) (A_op_Data : Option Addr) (n_op_Data c_op_Data : Nat) (op_Data : List UInt8) (w : World) (hb_s : w.heap[b_s]? = some (Obj.cells (List.toArray [i64 s.Room, i64 s.Fuse, i64 s.Next, .slice s.Files.A s.Files.n s.Files.c, .slice s.Kept.A s.Kept.n s.Kept.c, .slice s.Turns.A s.Turns.n s.Turns.c]) 34 (0, 0))) (o_s : ownDiskR s L_s) (h_s : Hh w L_s) (f_op_Data : SlF encB w A_op_Data n_op_Data op_Data) (hcd : n_op_Data ≤ c_op_Data) (hd_ : (b_s :: L_s.map (·.1)).Nodup) (s_op_Data : 0 < n_op_Data → (adr A_op_Data).block ∉ (b_s :: L_s.map (·.1))) (hok : diskOk s.dat = true) (hr : refuse s.dat (⟨op_Kind, op_Name, op_To, op_Data⟩ : DiskOpD) = 0) (ho : dopOk (⟨op_Kind, op_Name, op_To, op_Data⟩ : DiskOpD) = true) (hsm : smDisk 549755813888 s.dat) :
    Calls Tryz.prog 90 #[.pointer (some ⟨b_s, 0, none⟩), .agg #[i64 op_Kind, .string op_Name, .string op_To, .slice A_op_Data n_op_Data c_op_Data]] w fun e w' => ∃ r L1, e = .returned (.int .i64 (doC s.dat (⟨op_Kind, op_Name, op_To, op_Data⟩ : DiskOpD))) ∧ St w (b_s :: L_s.map (·.1)) ([(b_s, Obj.cells (List.toArray [i64 r.Room, i64 r.Fuse, i64 r.Next, .slice r.Files.A r.Files.n r.Files.c, .slice r.Kept.A r.Kept.n r.Kept.c, .slice r.Turns.A r.Turns.n r.Turns.c]) 34 (0, 0))] ++ L1) w' ∧ ownDiskR r L1 ∧ r.dat = doD (fuse1 s.dat) (⟨op_Kind, op_Name, op_To, op_Data⟩ : DiskOpD) := by
 have hD := diskOk_P hok
 have hsmF : smDisk 549755813888 (fuse1 s.dat) := hsm
 have nl9 := f_op_Data.len
 have hn9 : n_op_Data ≤ 400000 := by have h9 := dop_len ho; simp only at h9; omega
 refine enter 158 Tryz.func90 rfl Tryz.ntmps90 rfl rfl ?_
 have hs1 := St.takeP w b_s _ L_s hb_s h_s hd_
 refine WC.sr (WL.bx hs1 rfl (fun b2 _ hs3 => WL.r 1 hs3 [] rfl (WL.nil (WC.seq (fun K4 hK4 => WC.r1 hs3 [1] rfl ?_)))))
 refine WC.jPK [0, 1, 3, 4, 8, 9, 10, 11, 12] rfl ((hs3.fr L_s).fb b_s) (fun o_ L_ => ∃ r : DiskR, o_ = Obj.cells (List.toArray [i64 r.Room, i64 r.Fuse, i64 r.Next, .slice r.Files.A r.Files.n r.Files.c, .slice r.Kept.A r.Kept.n r.Kept.c, .slice r.Turns.A r.Turns.n r.Turns.c]) 34 (0, 0) ∧ ownDiskR r L_ ∧ r.dat = fuse1 s.dat) ?_ ?_
 ·refine WC.cq rfl (fun h5 qh5 => ?_) (fun h5 qh5 => ?_)
  ·have hfu := h5
   have hfu2 := hD.small.2.2.2.2.2.2.1
   have hfu3 : s.Fuse ≤ 1000 := hfu2
   have hfu4 : 0 < s.Fuse := by simpa using hfu
   refine WC.region (WL.r 7 hs3 [1] rfl (WL.st tbk hs3 1 rfl rfl (fun _ hs6 => WL.nil ?_)))
   obtain ⟨L7, L8, L9, hs13, ho10, ho11, ho12⟩ := ownDiskR.op hs6 o_s
   have hs14 := ((hs13.fb b_s).fb b2)
   obtain ⟨L16, hs15, ho17⟩ := ownDiskR.fl hs14 ho10 ho11 ho12
   have hs18 := ((hs15.fb b_s).fb b2)
   refine tkN ⟨_, _, ((hs18.fr L16).fb b_s), ⟨⟨s.Room, (s.Fuse - (1)), s.Next, SlD.ofN ho10, SlD.of ho11, SlD.of ho12⟩, rfl, (by exact ho17), ?_⟩, sbF rfl⟩
   · unfold fuse1; rw [if_pos (show 0 < s.dat.Fuse from by show 0 < s.Fuse; simpa using hfu)]; first | done | rfl
  have hfu := h5
  refine WC.skip (tkN ⟨_, _, ((hs3.fr L_s).fb b_s), ⟨s, rfl, o_s, ?_⟩, sbF rfl⟩)
  · unfold fuse1; rw [if_neg (show ¬ 0 < s.dat.Fuse from by show ¬ 0 < s.Fuse; simpa using hfu)]; first | done | rfl
 rintro _ L19 _ ⟨r20, rfl, ho21, hd22⟩ hs23 f_ hf_
 refine hK4 _ _ (WC.sub _ hf_ ?_)
 clear hf_
 have hs24 := ((hs23.fb b2).fb b_s)
 have hsmr : smDisk 549755813888 (DiskR.dat r20) := by rw [hd22]; exact hsmF
 have hro := ownDiskR.ok (B := 549755813888) ho21 (hs24.ow L19) hsmr
 have hrok : diskOk (DiskR.dat r20) = true := by rw [hd22]; exact fuse_ok hok (refuse_fuse hr)
 have hrD := diskOk_P hrok
 have hrN : r20.Next = s.Next := congrArg DiskD.Next hd22
 have hrF : (DiskR.dat r20).Files = s.dat.Files := (show _ = (fuse1 s.dat).Files from congrArg DiskD.Files hd22)
 have hrfl := hro.Files.sl.len
 have hrkl := hro.Kept.len
 have hrtl := hro.Turns.len
 obtain ⟨ks1, ks2, ks3, ks4, ks5, ks6, ks7, ks8⟩ := hrD.small
 have hrf10 : r20.Files.xs.length ≤ 10 := by rw [← List.length_map (f := FileR.dat)]; exact ks1
 have hrt30 : r20.Turns.xs.length ≤ 30 := ks3
 have hrk10 : r20.Kept.xs.length ≤ 10 := ks2
 obtain ⟨hrm1, hrm2, hrm3⟩ := hrD.room
 have hrd : dirD (DiskR.dat r20) = dirD s.dat := by rw [hd22]; rfl
 have hrdl : (dirD (DiskR.dat r20)).length ≤ 40 := Nat.le_trans turnsL_len (by show r20.Kept.xs.length + r20.Turns.xs.length ≤ 40; omega)
 have hrr : roomD (DiskR.dat r20) = roomD s.dat := by unfold roomD; rw [hrF, show (DiskR.dat r20).Room = s.dat.Room from (show _ = (fuse1 s.dat).Room from congrArg DiskD.Room hd22)]
 have hrm1' : r20.Room - ((usedF (DiskR.dat r20).Files : Nat) : Int) = (roomD (DiskR.dat r20) : Int) := hrm1
 have hrm4 : r20.Room ≤ 400000 := hrm3
 have hrn0 : r20.Next ≤ 1000000 := ks4
 have hrn1 : 1 ≤ r20.Next := ks5
 refine WC.seq (fun K25 hK25 => WC.r1 hs24 [1] rfl (WC.block (WC.r1 hs24 [] rfl ?_)))
 refine WC.cq rfl (fun h26 qh26 => ?_) (fun h26 qh26 => ?_)
 ·have k1 : op_Kind = 1 := by have h9 := h26; simpa using h9
  have hc : doC s.dat (⟨op_Kind, op_Name, op_To, op_Data⟩ : DiskOpD) = 0 := doC_0 (show ¬ op_Kind = 2 by omega)
  refine WC.seq (fun K27 hK27 => WC.rG 11 (hs24.d1.rm L19) hs24 hs24 (fun _ hs28 => ?_))
  refine WG.rn [0, 1, 2, 3, 4, 5, 6, 7, 8] hs28 [0, 0] rfl rfl ?_
  refine WG.tk 9 rfl (by kernel_rfl) rfl rfl rfl hs28 (fun w_ hs_ => (Run.build rfl rfl rfl rfl (built_123_0 _))) ?_
  refine WG.o1 10 rfl rfl (WL.buildSlice hs28 Tryz.runUnderlying30 Tryz.sizeOf123 Tryz.zeroValue123 rfl rfl rfl rfl rfl rfl rfl rfl rfl rfl (fun b29 whs30 hs30 => WL.nil ⟨hs30.d1, WG.oK rfl ?_⟩))
  obtain ⟨L31, L32, L33, hs37, ho34, ho35, ho36⟩ := ownDiskR.op hs30 ho21
  have hs38 := (((hs37.fb b2).fb b_s).fb b29)
  obtain ⟨L40, L41, hs44, ho42, ho43⟩ := OwnN.open_ (hs38.fr L31) ho34
  have hs45 := (((hs44.fb b2).fb b_s).fb b29)
  refine WL.appendG (hs45.fr L40) ho42 (srcF (F := encFileR) (ys := [(⟨r20.Next, ⟨none, 0, 0, []⟩, 0⟩ : FileR)]) Tryz.underlying30 rfl rfl (hs45.own _ (nthL_mem (i := 0) rfl)).1) Tryz.underlying30 inf123 rfl rfl rfl rfl rfl rfl rfl rfl rfl rfl ?_ (fun A49 c50 L46 whs47 hs47 ho48 => ?_)
  · (try simp only [List.length_append, List.length_singleton, List.length_take]); omega
  replace hs47 := St.back [_, _, _] hs47
  obtain ⟨L51, hs52, hb53⟩ := Bag.put (x := (⟨r20.Next, ⟨none, 0, 0, []⟩, 0⟩ : FileR)) ((hs47.fr ([] : Hp)).fr L41) ho43 (OwnF.nil _ _)
  have hs54 := (((hs52.fb b2).fb b_s).fb b29)
  obtain ⟨L56, hs55, ho57⟩ := OwnN.fold ((hs54.fr L51).fr L46) ho48 hb53
  have hs58 := (((hs55.fb b2).fb b_s).fb b29)
  refine WL.nil ⟨(((hs58.d1.d1.rm L56).rm L32).rm L33), WH.rn [12, 13] (((hs58.d1.d1.rm L56).rm L32).rm L33) [] rfl rfl (WH.o1 14 rfl (WL.st tbk hs58 1 rfl rfl (fun _ hs59 => WL.nil ⟨(((hs59.d1.d1.rm L56).rm L32).rm L33), WH.dn (hK27 _ _ (WC.seq (fun K60 hK60 => ?_)))⟩)))⟩
  refine WC.rG 13 ((hs59.fb b_s).d1.rm L33) hs59 hs59 (fun _ hs61 => ?_)
  refine WG.rn [0, 1, 2, 3, 4, 5, 6, 7, 8, 9, 10] hs61 [1, 2, 1] rfl rfl ?_
  refine WG.tk 11 rfl (by kernel_rfl) rfl rfl rfl hs61 (fun w_ hs_ => (Run.build rfl rfl rfl rfl (built_137_0_1_3 _ _ _))) ?_
  refine WG.o1 12 rfl rfl (WL.buildSlice hs61 Tryz.runUnderlying32 Tryz.sizeOf137 Tryz.zeroValue137 rfl rfl rfl rfl rfl rfl rfl rfl rfl rfl (fun b62 whs63 hs63 => WL.nil ⟨hs63.d1, WG.oK rfl ?_⟩))
  refine WL.appendG (hs63.fr L33) ho36 (srcF (F := encTurn) (ys := [⟨1, op_Name, noName, r20.Next⟩]) Tryz.underlying32 rfl rfl (hs63.own _ (nthL_mem (i := 0) rfl)).1) Tryz.underlying32 inf137 rfl rfl rfl rfl rfl rfl rfl rfl rfl rfl ?_ (fun A67 c68 L64 whs65 hs65 ho66 => ?_)
  · (try simp only [List.length_append, List.length_singleton, List.length_take]); omega
  replace hs65 := St.back [_, _, _, _] hs65
  refine WL.nil ⟨((hs65.d1.fb b_s).d1.rm L64), WH.rn [14, 15] ((hs65.d1.fb b_s).d1.rm L64) [] rfl rfl (WH.o1 16 rfl (WL.st tbk hs65 2 rfl rfl (fun _ hs69 => WL.nil ⟨((hs69.d1.fb b_s).d1.rm L64), WH.dn (hK60 _ _ (WC.region ?_))⟩)))⟩
  refine WL.r 7 hs69 [2] rfl (WL.st tbk hs69 2 rfl rfl (fun _ hs70 => WL.nil (hK25 _ _ (WC.r1 hs70 [] rfl (WC.ret (retV1 rfl (resV.tmp rfl) ?_))))))
  obtain ⟨L72, hs71, ho73⟩ := ownDiskR.fl hs70 ho57 ho35 ho66
  have hs74 := ((((hs71.fb b2).fb b_s).fb b29).fb b62)
  refine ownDiskR.retp (by rw [hc]) ((hs74.fr L72).fb b_s) ho73 ?_
  · unfold doD; rw [if_pos (show ((⟨op_Kind, op_Name, op_To, op_Data⟩ : DiskOpD)).Kind = 1 from k1), ← hd22]; exact DiskD.ext' rfl rfl rfl (by show List.map FileR.dat (_ ++ _) = _; rw [List.map_append]; rfl) rfl rfl
 have k1 : ¬ op_Kind = 1 := by have h9 := h26; simpa using h9
 refine WC.r1 hs24 [] rfl (WC.cq rfl (fun h75 qh75 => ?_) (fun h75 qh75 => ?_))
 ·have k2 : op_Kind = 2 := by have h9 := h75; simpa using h9
  have hh : hasN (dirD (DiskR.dat r20)) op_Name = true := by rw [hrd]; exact (refuse_has hr (show op_Kind ≠ 6 by omega)).trans (by rw [show decide (((⟨op_Kind, op_Name, op_To, op_Data⟩ : DiskOpD)).Kind = 1) = false from decide_eq_false (show ¬ op_Kind = 1 by omega)]; rfl)
  have hfn := (hrD.at hh).1
  have hfi := fileI_y hh
  have hfn2 : (fileN (DiskR.dat r20) op_Name) < r20.Files.xs.length := by rw [← List.length_map (f := FileR.dat)]; exact hfn
  have hyb := (hro.Files.all _ (gat_mem (F := encFileR) (xs := r20.Files.xs) (k := (fileN (DiskR.dat r20) op_Name)) hfn2)).Body.len
  have hyn := (hro.Files.all _ (gat_mem (F := encFileR) (xs := r20.Files.xs) (k := (fileN (DiskR.dat r20) op_Name)) hfn2)).Body_n
  have hyu : (gat encFileR r20.Files.xs (fileN (DiskR.dat r20) op_Name)).Body.xs.length ≤ usedF (DiskR.dat r20).Files := usedF_gat hfn2
  refine WC.sq1 hs24 (WQ.r 7 [0, 0] rfl ?_)
  refine WQ.call rfl rfl rfl (fun w_ hs_ => (Run.call Tryz.call152 rfl rfl rfl)) (fun w_ hs_ => (k33_ r20 _ (ownDiskR.ok (B := 549755813888) ho21 ((hs_ : St _ _ _ _).ow L19) hsmr) ?_).mono fun e_ w_ h_ => ⟨h_.1, (hs_ : St _ _ _ _).call0 h_.2⟩) ?_
  · first | assumption | rfl | omega
  refine WQ.r 2 [] rfl (WQ.nil (fun _ (hs76 : St _ _ _ _) => WC.sq1 hs76 (WQ.r 9 [0, 0, 1] rfl ?_)))
  refine WQ.call rfl rfl rfl (fun w_ hs_ => (Run.call Tryz.call117 rfl rfl rfl)) (fun w_ hs_ => (k58_ r20 _ _ (ownDiskR.ok (B := 549755813888) ho21 ((hs_ : St _ _ _ _).ow L19) hsmr) ?_).mono fun e_ w_ h_ => ⟨h_.1, (hs_ : St _ _ _ _).call0 h_.2⟩) ?_
  · first | assumption | rfl | omega
  refine WQ.val rfl rfl rfl (fun w_ hs_ => (Run.idxK ((fileN (DiskR.dat r20) op_Name)) Tryz.runUnderlying30 Tryz.sizeOf123 rfl rfl rfl ?_ ?_ ?_)) ?_
  · exact SlF.some_ (ownDiskR.ok (B := 549755813888) ho21 ((hs_ : St _ _ _ _).ow L19) hsmr).Files.sl
  · omega
  · omega
  refine WQ.r 1 [] rfl (WQ.nil (fun _ (hs77 : St _ _ _ _) => WC.seq (fun K78 hK78 => WC.rG 13 (hs77.rm L19) hs77 hs77 (fun _ hs79 => ?_))))
  refine WG.rn [0, 1, 2] hs79 [] rfl rfl ?_
  refine WG.tk 3 rfl (by kernel_rfl) rfl rfl rfl hs79 (fun w_ hs_ => (Run.fieldO Tryz.runUnderlying123 rfl rfl rfl Tryz.sizeOf43 rfl)) ?_
  refine WG.tk 4 rfl (by kernel_rfl) rfl rfl rfl hs79 (fun w_ hs_ => (Run.load Tryz.isAgg43 rfl rfl (SlF.fld (ownDiskR.ok (B := 549755813888) ho21 ((hs_ : St _ _ _ _).ow L19) hsmr).Files.sl ?_ rfl))) ?_
  · omega
  refine WG.rn [5, 6, 7, 8, 9, 10, 11] hs79 [1, 1] rfl rfl ?_
  refine WG.tk 12 rfl (by kernel_rfl) rfl rfl rfl hs79 (fun w_ hs_ => (Run.sliceH ((min (roomD (DiskR.dat r20)) n_op_Data)) Tryz.runUnderlying43 Tryz.sizeOf5 rfl rfl rfl ?_ ?_)) ?_
  · first | rfl | (omega)
  · refine ⟨?_, ?_, ?_⟩ <;> (omega)
  refine WG.oK rfl ?_
  obtain ⟨L80, L81, L82, hs86, ho83, ho84, ho85⟩ := ownDiskR.op hs79 ho21
  have hs87 := ((hs86.fb b2).fb b_s)
  obtain ⟨L88, L89, hs92, ho90, ho91⟩ := OwnN.open_ (hs87.fr L80) ho83
  have hs93 := ((hs92.fb b2).fb b_s)
  obtain ⟨L94, L95, L96, hs97, ho98, hp99⟩ := Bag.out (F := encFileR) (i := (fileN (DiskR.dat r20) op_Name)) (hs93.fr L89) ho91 (by omega)
  have hs100 := ((hs97.fb b2).fb b_s)
  refine WL.appendG (hs100.fr L95) ho98 (SlF.src (SlF.cutH ((min (roomD (DiskR.dat r20)) n_op_Data)) (SlF.st f_op_Data hs100 s_op_Data) (by refine ⟨?_, ?_, ?_⟩ <;> (omega))) Tryz.underlying43) Tryz.underlying43 inf5 rfl rfl rfl rfl rfl rfl rfl rfl rfl rfl ?_ (fun A104 c105 L101 whs102 hs102 ho103 => ?_)
  · (try simp only [List.length_append, List.length_singleton, List.length_take]); omega
  replace hs102 := St.back [_, _] hs102
  refine WL.nil ⟨(((((hs102.rm L101).rm (L94 ++ L96)).rm L88).rm L81).rm L82), WH.rn [14] (((((hs102.rm L101).rm (L94 ++ L96)).rm L88).rm L81).rm L82) [] rfl rfl ?_⟩
  refine WH.take 15 rfl (by kernel_rfl) rfl rfl rfl (((((hs102.rm L101).rm (L94 ++ L96)).rm L88).rm L81).rm L82) (fun w_ hs_ => (Run.fieldO Tryz.runUnderlying123 rfl rfl rfl Tryz.sizeOf43 rfl)) ?_
  refine WH.o1 16 rfl (WL.storeF (x' := ({ (gat encFileR r20.Files.xs (fileN (DiskR.dat r20) op_Name)) with Body := ⟨A104, ((gat encFileR r20.Files.xs (fileN (DiskR.dat r20) op_Name)).Body.xs ++ op_Data.take (min (roomD (DiskR.dat r20)) n_op_Data)).length, c105, ((gat encFileR r20.Files.xs (fileN (DiskR.dat r20) op_Name)).Body.xs ++ op_Data.take (min (roomD (DiskR.dat r20)) n_op_Data))⟩ } : FileR)) (hs102.fr L88) ho90 Tryz.sizeOf43 rfl rfl rfl rfl rfl rfl rfl rfl rfl ?_ rfl (fun L106 whs107 hs107 ho108 _ => ?_))
  · omega
  replace hs107 := St.back [_, _] hs107
  obtain ⟨L109, hs110, hb111⟩ := hp99 ({ (gat encFileR r20.Files.xs (fileN (DiskR.dat r20) op_Name)) with Body := ⟨A104, ((gat encFileR r20.Files.xs (fileN (DiskR.dat r20) op_Name)).Body.xs ++ op_Data.take (min (roomD (DiskR.dat r20)) n_op_Data)).length, c105, ((gat encFileR r20.Files.xs (fileN (DiskR.dat r20) op_Name)).Body.xs ++ op_Data.take (min (roomD (DiskR.dat r20)) n_op_Data))⟩ } : FileR) _ ((hs107.fr (L94 ++ L96)).fr L101) (by have h_ := ho103; exact h_)
  have hs113 := ((hs110.fb b2).fb b_s)
  have ho112 := ho108
  obtain ⟨L115, hs114, ho116⟩ := OwnN.fold ((hs113.fr L109).fr L106) ho112 hb111
  have hs117 := ((hs114.fb b2).fb b_s)
  refine WL.nil ⟨(((hs117.rm L115).rm L81).rm L82), WH.dn (hK78 _ _ (WC.r1 hs117 [1] rfl ?_))⟩
  refine WC.cq rfl (fun h118 qh118 => ?_) (fun h118 qh118 => ?_)
  ·have hc : doC s.dat (⟨op_Kind, op_Name, op_To, op_Data⟩ : DiskOpD) = 5 := if_pos ⟨k2, by have h9 := h118; rw [hrm1'] at h9; rw [← hrr]; show _ < op_Data.length; simp at h9; omega⟩
   refine WC.r1 hs117 [] rfl (WC.ret (ibR (tkR ?_)))
   clear hK25
   refine retV1 rfl (resV.tmp rfl) ?_
   obtain ⟨L120, hs119, ho121⟩ := ownDiskR.fl hs117 ho116 ho84 ho85
   have hs122 := ((hs119.fb b2).fb b_s)
   refine ownDiskR.retp (by rw [hc]) ((hs122.fr L120).fb b_s) ho121 ?_
   · unfold doD; rw [if_neg (show ¬ ((⟨op_Kind, op_Name, op_To, op_Data⟩ : DiskOpD)).Kind = 1 from (by first | assumption | (show ¬ op_Kind = 1; omega))), if_pos (show ((⟨op_Kind, op_Name, op_To, op_Data⟩ : DiskOpD)).Kind = 2 from k2), ← hd22]; exact DiskD.ext' rfl rfl rfl (files_set (by rw [show fAt (DiskR.dat r20).Files (fileN (DiskR.dat r20) op_Name) = FileR.dat (gat encFileR r20.Files.xs (fileN (DiskR.dat r20) op_Name)) from fAt_dat hfn2]; exact FileD.ext' rfl (by show _ ++ _ = _ ++ _; rw [take_min nl9]; rfl) rfl)) rfl rfl
  have hc : doC s.dat (⟨op_Kind, op_Name, op_To, op_Data⟩ : DiskOpD) = 0 := if_neg fun h_ => by have h9 := h118; rw [hrm1'] at h9; have h8 := h_.2; rw [← hrr] at h8; replace h8 : _ < op_Data.length := h8; simp at h9; omega
  refine WC.skip (hK25 _ _ (WC.r1 hs117 [] rfl (WC.ret (retV1 rfl (resV.tmp rfl) ?_))))
  obtain ⟨L124, hs123, ho125⟩ := ownDiskR.fl hs117 ho116 ho84 ho85
  have hs126 := ((hs123.fb b2).fb b_s)
  refine ownDiskR.retp (by rw [hc]) ((hs126.fr L124).fb b_s) ho125 ?_
  · unfold doD; rw [if_neg (show ¬ ((⟨op_Kind, op_Name, op_To, op_Data⟩ : DiskOpD)).Kind = 1 from (by first | assumption | (show ¬ op_Kind = 1; omega))), if_pos (show ((⟨op_Kind, op_Name, op_To, op_Data⟩ : DiskOpD)).Kind = 2 from k2), ← hd22]; exact DiskD.ext' rfl rfl rfl (files_set (by rw [show fAt (DiskR.dat r20).Files (fileN (DiskR.dat r20) op_Name) = FileR.dat (gat encFileR r20.Files.xs (fileN (DiskR.dat r20) op_Name)) from fAt_dat hfn2]; exact FileD.ext' rfl (by show _ ++ _ = _ ++ _; rw [take_min nl9]; rfl) rfl)) rfl rfl
 have k2 : ¬ op_Kind = 2 := by have h9 := h75; simpa using h9
 have hc : doC s.dat (⟨op_Kind, op_Name, op_To, op_Data⟩ : DiskOpD) = 0 := doC_0 (show ¬ op_Kind = 2 by omega)
 refine WC.r1 hs24 [] rfl (WC.cq rfl (fun h127 qh127 => ?_) (fun h127 qh127 => ?_))
 ·have k3 : op_Kind = 3 := by have h9 := h127; simpa using h9
  have hh : hasN (dirD (DiskR.dat r20)) op_Name = true := by rw [hrd]; exact (refuse_has hr (show op_Kind ≠ 6 by omega)).trans (by rw [show decide (((⟨op_Kind, op_Name, op_To, op_Data⟩ : DiskOpD)).Kind = 1) = false from decide_eq_false (show ¬ op_Kind = 1 by omega)]; rfl)
  have hfn := (hrD.at hh).1
  have hfi := fileI_y hh
  have hfn2 : (fileN (DiskR.dat r20) op_Name) < r20.Files.xs.length := by rw [← List.length_map (f := FileR.dat)]; exact hfn
  have hyb := (hro.Files.all _ (gat_mem (F := encFileR) (xs := r20.Files.xs) (k := (fileN (DiskR.dat r20) op_Name)) hfn2)).Body.len
  have hyn := (hro.Files.all _ (gat_mem (F := encFileR) (xs := r20.Files.xs) (k := (fileN (DiskR.dat r20) op_Name)) hfn2)).Body_n
  have hyu : (gat encFileR r20.Files.xs (fileN (DiskR.dat r20) op_Name)).Body.xs.length ≤ usedF (DiskR.dat r20).Files := usedF_gat hfn2
  refine WC.sq1 hs24 (WQ.r 9 [0, 0, 1] rfl ?_)
  refine WQ.call rfl rfl rfl (fun w_ hs_ => (Run.call Tryz.call117 rfl rfl rfl)) (fun w_ hs_ => (k58_ r20 _ _ (ownDiskR.ok (B := 549755813888) ho21 ((hs_ : St _ _ _ _).ow L19) hsmr) ?_).mono fun e_ w_ h_ => ⟨h_.1, (hs_ : St _ _ _ _).call0 h_.2⟩) ?_
  · first | assumption | rfl | omega
  refine WQ.val rfl rfl rfl (fun w_ hs_ => (Run.idxK ((fileN (DiskR.dat r20) op_Name)) Tryz.runUnderlying30 Tryz.sizeOf123 rfl rfl rfl ?_ ?_ ?_)) ?_
  · exact SlF.some_ (ownDiskR.ok (B := 549755813888) ho21 ((hs_ : St _ _ _ _).ow L19) hsmr).Files.sl
  · omega
  · omega
  refine WQ.r 1 [] rfl (WQ.nil (fun _ (hs128 : St _ _ _ _) => WC.region (WL.r 3 hs128 [] rfl (WL.val rfl rfl rfl (Run.fieldO Tryz.runUnderlying123 rfl rfl rfl Tryz.sizeOf43 rfl) ?_))))
  refine WL.val rfl rfl rfl (Run.load Tryz.isAgg43 rfl rfl (SlF.fld (ownDiskR.ok (B := 549755813888) ho21 (hs128.ow L19) hsmr).Files.sl ?_ rfl)) ?_
  · omega
  refine WL.r 2 hs128 [] rfl ?_
  refine WL.val rfl rfl rfl (Run.fieldO Tryz.runUnderlying123 rfl rfl rfl Tryz.sizeOf3 rfl) ?_
  obtain ⟨L129, L130, L131, hs135, ho132, ho133, ho134⟩ := ownDiskR.op hs128 ho21
  have hs136 := ((hs135.fb b2).fb b_s)
  obtain ⟨L137, L138, hs141, ho139, ho140⟩ := OwnN.open_ (hs136.fr L129) ho132
  have hs142 := ((hs141.fb b2).fb b_s)
  refine WL.storeF (x' := ({ (gat encFileR r20.Files.xs (fileN (DiskR.dat r20) op_Name)) with Safe := ((gat encFileR r20.Files.xs (fileN (DiskR.dat r20) op_Name)).Body.n : Int) } : FileR)) (hs142.fr L137) ho139 Tryz.sizeOf3 rfl rfl rfl rfl rfl rfl rfl rfl rfl ?_ rfl (fun L143 whs144 hs144 ho145 _ => ?_)
  · omega
  replace hs144 := St.back [_, _] hs144
  have hb146 := Bag.same (i := (fileN (DiskR.dat r20) op_Name)) (x := ({ (gat encFileR r20.Files.xs (fileN (DiskR.dat r20) op_Name)) with Safe := ((gat encFileR r20.Files.xs (fileN (DiskR.dat r20) op_Name)).Body.n : Int) } : FileR)) ho140 (fun y_ L_ e_ h_ => by cases (e_.symm.trans (gat_get (F := encFileR) (by (try simp only [List.length_set]); omega))); first | exact h_ | (rw [gat_set (by (try simp only [List.length_set]); omega) rfl] at h_; exact h_))
  refine WL.nil (hK25 _ _ (WC.r1 hs144 [] rfl (WC.ret (retV1 rfl (resV.tmp rfl) ?_))))
  obtain ⟨L148, hs147, ho149⟩ := OwnN.fold ((hs144.fr L138).fr L143) ho145 hb146
  have hs150 := ((hs147.fb b2).fb b_s)
  obtain ⟨L152, hs151, ho153⟩ := ownDiskR.fl hs150 ho149 ho133 ho134
  have hs154 := ((hs151.fb b2).fb b_s)
  refine ownDiskR.retp (by rw [hc]) ((hs154.fr L152).fb b_s) ho153 ?_
  · unfold doD; rw [if_neg (show ¬ ((⟨op_Kind, op_Name, op_To, op_Data⟩ : DiskOpD)).Kind = 1 from (by first | assumption | (show ¬ op_Kind = 1; omega))), if_neg (show ¬ ((⟨op_Kind, op_Name, op_To, op_Data⟩ : DiskOpD)).Kind = 2 from (by first | assumption | (show ¬ op_Kind = 2; omega))), if_pos (show ((⟨op_Kind, op_Name, op_To, op_Data⟩ : DiskOpD)).Kind = 3 from k3), ← hd22]; exact DiskD.ext' rfl rfl rfl (files_set (by rw [show fAt (DiskR.dat r20).Files (fileN (DiskR.dat r20) op_Name) = FileR.dat (gat encFileR r20.Files.xs (fileN (DiskR.dat r20) op_Name)) from fAt_dat hfn2]; exact FileD.ext' rfl rfl (by show ((_ : Nat) : Int) = ((_ : Nat) : Int); rw [← hyb]; rfl))) rfl rfl
 have k3 : ¬ op_Kind = 3 := by have h9 := h127; simpa using h9
 refine WC.seq (fun K155 hK155 => WC.r1 hs24 [] rfl ?_)
 refine WC.cq rfl (fun h156 qh156 => ?_) (fun h156 qh156 => ?_)
 ·have k45 : op_Kind = 4 ∨ op_Kind = 5 := by have h9 := h156; simp at h9; omega
  refine WC.skip (hK155 _ _ (WC.condT rfl h156 (WC.rG 13 (hs24.d1.rm L19) hs24 hs24 (fun _ hs158 => ?_))))
  refine WG.rn [0, 1, 2, 3, 4, 5, 6, 7, 8, 9, 10] hs158 [0, 1, 1, 1] rfl rfl ?_
  refine WG.tk 11 rfl (by kernel_rfl) rfl rfl rfl hs158 (fun w_ hs_ => (Run.build rfl rfl rfl rfl (built_137_0_1_2 _ _ _))) ?_
  refine WG.o1 12 rfl rfl (WL.buildSlice hs158 Tryz.runUnderlying32 Tryz.sizeOf137 Tryz.zeroValue137 rfl rfl rfl rfl rfl rfl rfl rfl rfl rfl (fun b159 whs160 hs160 => WL.nil ⟨hs160.d1, WG.oK rfl ?_⟩))
  obtain ⟨L161, L162, L163, hs167, ho164, ho165, ho166⟩ := ownDiskR.op hs160 ho21
  have hs168 := (((hs167.fb b2).fb b_s).fb b159)
  refine WL.appendG (hs168.fr L163) ho166 (srcF (F := encTurn) (ys := [⟨op_Kind, op_Name, op_To, 0⟩]) Tryz.underlying32 rfl rfl (hs168.own _ (nthL_mem (i := 0) rfl)).1) Tryz.underlying32 inf137 rfl rfl rfl rfl rfl rfl rfl rfl rfl rfl ?_ (fun A172 c173 L169 whs170 hs170 ho171 => ?_)
  · (try simp only [List.length_append, List.length_singleton, List.length_take]); omega
  replace hs170 := St.back [_, _, _] hs170
  refine WL.nil ⟨(((hs170.d1.d1.rm L169).rm L161).rm L162), WH.rn [14, 15] (((hs170.d1.d1.rm L169).rm L161).rm L162) [] rfl rfl (WH.o1 16 rfl (WL.st tbk hs170 1 rfl rfl (fun _ hs174 => WL.nil ⟨(((hs174.d1.d1.rm L169).rm L161).rm L162), WH.dn (hK25 _ _ (WC.r1 hs174 [] rfl ?_))⟩)))⟩
  refine WC.ret (retV1 rfl (resV.tmp rfl) ?_)
  obtain ⟨L176, hs175, ho177⟩ := ownDiskR.fl hs174 ho164 ho165 ho171
  have hs178 := (((hs175.fb b2).fb b_s).fb b159)
  refine ownDiskR.retp (by rw [hc]) ((hs178.fr L176).fb b_s) ho177 ?_
  · unfold doD; rw [if_neg (show ¬ ((⟨op_Kind, op_Name, op_To, op_Data⟩ : DiskOpD)).Kind = 1 from (by first | assumption | (show ¬ op_Kind = 1; omega))), if_neg (show ¬ ((⟨op_Kind, op_Name, op_To, op_Data⟩ : DiskOpD)).Kind = 2 from (by first | assumption | (show ¬ op_Kind = 2; omega))), if_neg (show ¬ ((⟨op_Kind, op_Name, op_To, op_Data⟩ : DiskOpD)).Kind = 3 from (by first | assumption | (show ¬ op_Kind = 3; omega))), if_neg (show ¬ ((⟨op_Kind, op_Name, op_To, op_Data⟩ : DiskOpD)).Kind = 6 from (by first | assumption | (show ¬ op_Kind = 6; omega))), ← hd22]; rfl
 have k45n : ¬ op_Kind = 4 := by first | assumption | (have h9 := h156; simp at h9; omega)
 refine WC.region (WL.r 2 hs24 [] rfl (WL.nil (hK155 _ _ ?_)))
 refine WC.cq rfl (fun h179 qh179 => ?_) (fun h179 qh179 => ?_)
 ·have k45 : op_Kind = 4 ∨ op_Kind = 5 := by have h9 := h179; simp at h9; omega
  refine WC.rG 13 (hs24.d1.rm L19) hs24 hs24 (fun _ hs180 => ?_)
  refine WG.rn [0, 1, 2, 3, 4, 5, 6, 7, 8, 9, 10] hs180 [0, 1, 1, 1] rfl rfl ?_
  refine WG.tk 11 rfl (by kernel_rfl) rfl rfl rfl hs180 (fun w_ hs_ => (Run.build rfl rfl rfl rfl (built_137_0_1_2 _ _ _))) ?_
  refine WG.o1 12 rfl rfl (WL.buildSlice hs180 Tryz.runUnderlying32 Tryz.sizeOf137 Tryz.zeroValue137 rfl rfl rfl rfl rfl rfl rfl rfl rfl rfl (fun b181 whs182 hs182 => WL.nil ⟨hs182.d1, WG.oK rfl ?_⟩))
  obtain ⟨L183, L184, L185, hs189, ho186, ho187, ho188⟩ := ownDiskR.op hs182 ho21
  have hs190 := (((hs189.fb b2).fb b_s).fb b181)
  refine WL.appendG (hs190.fr L185) ho188 (srcF (F := encTurn) (ys := [⟨op_Kind, op_Name, op_To, 0⟩]) Tryz.underlying32 rfl rfl (hs190.own _ (nthL_mem (i := 0) rfl)).1) Tryz.underlying32 inf137 rfl rfl rfl rfl rfl rfl rfl rfl rfl rfl ?_ (fun A194 c195 L191 whs192 hs192 ho193 => ?_)
  · (try simp only [List.length_append, List.length_singleton, List.length_take]); omega
  replace hs192 := St.back [_, _, _] hs192
  refine WL.nil ⟨(((hs192.d1.d1.rm L191).rm L183).rm L184), WH.rn [14, 15] (((hs192.d1.d1.rm L191).rm L183).rm L184) [] rfl rfl (WH.o1 16 rfl (WL.st tbk hs192 1 rfl rfl (fun _ hs196 => WL.nil ⟨(((hs196.d1.d1.rm L191).rm L183).rm L184), WH.dn (hK25 _ _ (WC.r1 hs196 [] rfl ?_))⟩)))⟩
  refine WC.ret (retV1 rfl (resV.tmp rfl) ?_)
  obtain ⟨L198, hs197, ho199⟩ := ownDiskR.fl hs196 ho186 ho187 ho193
  have hs200 := (((hs197.fb b2).fb b_s).fb b181)
  refine ownDiskR.retp (by rw [hc]) ((hs200.fr L198).fb b_s) ho199 ?_
  · unfold doD; rw [if_neg (show ¬ ((⟨op_Kind, op_Name, op_To, op_Data⟩ : DiskOpD)).Kind = 1 from (by first | assumption | (show ¬ op_Kind = 1; omega))), if_neg (show ¬ ((⟨op_Kind, op_Name, op_To, op_Data⟩ : DiskOpD)).Kind = 2 from (by first | assumption | (show ¬ op_Kind = 2; omega))), if_neg (show ¬ ((⟨op_Kind, op_Name, op_To, op_Data⟩ : DiskOpD)).Kind = 3 from (by first | assumption | (show ¬ op_Kind = 3; omega))), if_neg (show ¬ ((⟨op_Kind, op_Name, op_To, op_Data⟩ : DiskOpD)).Kind = 6 from (by first | assumption | (show ¬ op_Kind = 6; omega))), ← hd22]; rfl
 have k45n : ¬ op_Kind = 4 := by first | assumption | (have h9 := h179; simp at h9; omega)
 refine WC.r1 hs24 [] rfl (WC.cq rfl (fun h201 qh201 => ?_) (fun h201 qh201 => ?_))
 ·have k6 : op_Kind = 6 := by have h9 := h201; simpa using h9
  refine WC.sr (WL.r 5 hs24 [0] rfl (WL.cl Tryz.call134 rfl (k55_ r20 _ (ownDiskR.ok (B := 549755813888) ho21 (hs24.ow L19) hsmr) ?_) ?_))
  · first | assumption | rfl | omega | (show r20.Files.xs.length ≤ 1048576; omega) | (show (dirD (DiskR.dat r20)).length ≤ 1048576; omega)
  rintro _ whs202 ⟨A203, c204, L1_205, rfl, hs202, ho206⟩
  replace hs202 := hs24.callF hs202
  refine ⟨_, rfl, ?_⟩
  replace hs202 := St.back [_, _] hs202
  refine WL.r 2 hs202 [] rfl (WL.st tbk hs202 0 rfl rfl (fun _ hs207 => WL.r 2 hs207 [] rfl (WL.st tbk hs207 0 rfl rfl (fun _ hs208 => WL.nil (WC.region (WL.r 1 hs208 [] rfl ?_))))))
  obtain ⟨L209, L210, L211, hs215, ho212, ho213, ho214⟩ := ownDiskR.op hs208 ho21
  have hs216 := ((hs215.fb b2).fb b_s)
  obtain ⟨L219, hs218, ho220⟩ := ownDiskR.fl hs216 ho212 ho206 (OwnF.nil _ _)
  have hs221 := ((hs218.fb b2).fb b_s)
  have hF222 := ((hs221.fr L219).fb b_s)
  refine WL.cl Tryz.call85 rfl (k80_ _ ⟨r20.Room, r20.Fuse, r20.Next, SlD.ofN ho212, SlD.of ho206, ⟨none, 0, 0, []⟩⟩ _ _ (St.headP hF222) (by exact ho220) (St.ownP hF222) (St.nodupP hF222) ?_ ?_) ?_
  iterate 2 first | assumption | rfl | omega | (show r20.Files.xs.length ≤ 1048576; omega) | (show (dirD (DiskR.dat r20)).length ≤ 1048576; omega)
  rintro _ whs223 ⟨r224, L225, rfl, hs223, ho226, hd227⟩
  replace hs223 := St.lendP hF222 hs223
  refine ⟨_, rfl, ?_⟩
  have hs228 := ((hs223.fb b2).fb b_s)
  refine WL.nil (hK25 _ _ (WC.r1 hs228 [] rfl (WC.ret (retV1 rfl (resV.tmp rfl) (⟨r224, _, (by rw [hc]), St.keepP (L1 := L225) ((hs228.fr L225).fb b_s), ho226, ?_⟩)))))
  · unfold doD; rw [if_neg (show ¬ ((⟨op_Kind, op_Name, op_To, op_Data⟩ : DiskOpD)).Kind = 1 from (by first | assumption | (show ¬ op_Kind = 1; omega))), if_neg (show ¬ ((⟨op_Kind, op_Name, op_To, op_Data⟩ : DiskOpD)).Kind = 2 from (by first | assumption | (show ¬ op_Kind = 2; omega))), if_neg (show ¬ ((⟨op_Kind, op_Name, op_To, op_Data⟩ : DiskOpD)).Kind = 3 from (by first | assumption | (show ¬ op_Kind = 3; omega))), if_pos (show ((⟨op_Kind, op_Name, op_To, op_Data⟩ : DiskOpD)).Kind = 6 from k6), ← hd22]; exact hd227
 have k6 : ¬ op_Kind = 6 := by have h9 := h201; simpa using h9
 refine WC.skip (hK25 _ _ (WC.r1 hs24 [] rfl (WC.ret (retV1 rfl (resV.tmp rfl) (⟨r20, _, (by rw [hc]), St.keepP (L1 := L19) ((hs24.fr L19).fb b_s), ho21, ?_⟩)))))
 · exfalso; have h9 := dop_kind ho; simp only at h9; omega
theorem built_34 : Tryz.prog.built 34 [] = some (List.toArray [.int .i64 0, .int .i64 0, .int .i64 0, .slice none 0 0, .slice none 0 0, .slice none 0 0]) := by kernel_rfl
set_option maxHeartbeats 4000000 in
theorem k82_ (d : DiskR) (op : DiskOpR) (w : World) (f_d : okDiskR 549755813888 w d) (f_op : okDiskOpR 549755813888 w op) (hb : totDisk d.dat ≤ 1048576) :
    Calls Tryz.prog 43 #[.agg #[i64 d.Room, i64 d.Fuse, i64 d.Next, .slice d.Files.A d.Files.n d.Files.c, .slice d.Kept.A d.Kept.n d.Kept.c, .slice d.Turns.A d.Turns.n d.Turns.c], .agg #[i64 op.Kind, .string op.Name, .string op.To, .slice op.Data.A op.Data.n op.Data.c]] w fun e w' => ∃ r L1, e = .returned (.tuple #[.agg #[i64 r.Room, i64 r.Fuse, i64 r.Next, .slice r.Files.A r.Files.n r.Files.c, .slice r.Kept.A r.Kept.n r.Kept.c, .slice r.Turns.A r.Turns.n r.Turns.c], .int .i64 (doneC d.dat op.dat)]) ∧ St w [] L1 w' ∧ ownDiskR r L1 ∧ r.dat = doneD d.dat op.dat := by
 have nb_d_Files := f_d.Files_n
 have nl_d_Files := f_d.Files.sl.len
 have nb_d_Kept := f_d.Kept_n
 have nl_d_Kept := f_d.Kept.len
 have nb_d_Turns := f_d.Turns_n
 have nl_d_Turns := f_d.Turns.len
 have nz_op_Name := f_op.Name_z
 have nz_op_To := f_op.To_z
 have nb_op_Data := f_op.Data_n
 have nl_op_Data := f_op.Data.len
 have hsm : smDisk 1048576 d.dat := totDisk_sm hb
 have hsmB : smDisk 549755813888 d.dat := totDisk_sm (by omega)
 refine enter 31 Tryz.func43 rfl Tryz.ntmps43 rfl rfl ?_
 have hs1 := St.init w
 refine WC.sr (WL.bx hs1 rfl (fun b2 _ hs3 => WL.bx hs3 rfl (fun b4 _ hs5 => WL.al hs5 Tryz.zeroValue34 rfl rfl (fun b6 _ hs7 => WL.r 1 hs7 [] rfl (WL.nil (WC.seq (fun K8 hK8 => WC.sr ?_)))))))
 refine WL.r 1 hs7 [2] rfl (WL.cl Tryz.call56 rfl (k53_ d _ (okDiskR.st0 f_d hs7) ?_) ?_)
 · first | assumption | rfl | omega | exact hrf | exact hop
 rintro _ whs9 ⟨rfl, hs9⟩
 replace hs9 := hs7.call0 hs9
 refine ⟨_, rfl, WL.r 2 hs9 [] rfl ?_⟩
 apply WL.gO 3 Acts.nil hs9 rfl
 ·intro g10 J11
  have qg10 := g10
  try simp only [bf, within_iff, within_not] at qg10
  refine WL.runA tbk 1 (Acts.nil.cons (j := 3) rfl g10) hs9 [1] rfl ⟨rfl, trivial⟩ (WL.call (wantF rfl g10) rfl rfl (Run.call Tryz.call88 rfl rfl rfl) (k59_ op _ (okDiskOpR.st0 f_op hs9)) ?_)
  rintro _ whs12 ⟨rfl, hs12⟩
  replace hs12 := hs9.call0 hs12
  refine ⟨_, rfl, WL.runA tbk 1 (Acts.nil.cons (j := 3) rfl g10) hs12 [] rfl trivial (WL.eO 3 Acts.nil J11 hs12 g10 rfl rfl)⟩
 intro _ hs13
 refine WL.nil (WC.cq rfl (fun h14 qh14 => ?_) (fun h14 qh14 => ?_))
 ·have hbad : (diskOk d.dat && dopOk op.dat) = false := by have h9 := h14; revert h9; cases diskOk d.dat <;> cases dopOk op.dat <;> simp
  obtain ⟨hdn, hc⟩ := done_bad hbad
  refine WC.sr ?_
  refine WL.val rfl rfl rfl (Run.build rfl rfl rfl rfl (built_34)) (WL.st tbk hs13 0 rfl rfl (fun _ hs15 => WL.r 1 hs15 [] rfl (WL.nil (WC.ret (tkR ?_)))))
  clear hK8
  refine retV2 rfl (resV.cellA tbk hs15 0 rfl rfl rfl rfl) (resV.tmp rfl) ?_
  obtain ⟨L20, hs19, ho21⟩ := ownDiskR.fl hs15 (OwnN.nil _ _ _) (OwnF.nil _ _) (OwnF.nil _ _)
  have hs22 := (((hs19.fb b2).fb b4).fb b6)
  refine ⟨⟨0, 0, 0, ⟨none, 0, 0, []⟩, ⟨none, 0, 0, []⟩, ⟨none, 0, 0, []⟩⟩, _, (by rw [hc]; first | done | rfl), (St.keep1 (hs22.fr L20)), ?_, ?_⟩
  · exact (by exact ho21)
  · rw [hdn]; rfl
 have hgood : (diskOk d.dat && dopOk op.dat) = true := by have h9 := h14; revert h9; cases diskOk d.dat <;> cases dopOk op.dat <;> simp
 rw [Bool.and_eq_true] at hgood
 obtain ⟨hok, hop⟩ := hgood
 refine WC.skip (hK8 _ _ (WC.sr (WL.r 1 hs13 [2] rfl ?_)))
 refine WL.cl Tryz.call75 rfl (k63_ d _ (okDiskR.st0 f_d hs13) ?_) ?_
 · first | assumption | rfl | omega | exact hrf | exact hop
 rintro _ whs23 ⟨r24, L1_25, rfl, hs23, ho26, hd27⟩
 replace hs23 := hs13.callF hs23
 refine ⟨_, rfl, ?_⟩
 replace hs23 := St.back [_, _, _] hs23
 have hrok : diskOk (DiskR.dat r24) = true := by rw [hd27]; exact hok
 have hrsm : smDisk 549755813888 (DiskR.dat r24) := by rw [hd27]; exact hsmB
 have hrc : doC (DiskR.dat r24) op.dat = doC d.dat op.dat := by rw [hd27]
 refine WL.al hs23 Tryz.zeroValue34 rfl rfl (fun b28 _ hs29 => WL.st tbk hs29 0 rfl rfl (fun _ hs30 => WL.nil (WC.seq (fun K31 hK31 => WC.sr (WL.r 2 hs30 [3, 2] rfl ?_)))))
 refine WL.cl Tryz.call89 rfl (k64_ d op _ (okDiskR.st0 f_d hs30) (okDiskOpR.st0 f_op hs30) ?_) ?_
 · first | assumption | rfl | omega | exact hrf | exact hop
 rintro _ whs32 ⟨rfl, hs32⟩
 replace hs32 := hs30.call0 hs32
 refine ⟨_, rfl, WL.r 1 hs32 [] rfl (WL.nil (WC.r1 hs32 [] rfl (WC.cq rfl (fun h33 qh33 => ?_) (fun h33 qh33 => ?_))))⟩
 ·have hr0 : ¬ refuse d.dat op.dat = 0 := by have h9 := h33; simpa using h9
  obtain ⟨hdn, hc⟩ := done_ref hok hop hr0
  refine WC.sr (WL.r 2 hs32 [0] rfl (WL.st tbk hs32 1 rfl rfl (fun _ hs34 => WL.r 1 hs34 [] rfl (WL.nil (WC.ret (tkR ?_))))))
  clear hK31
  refine retV2 rfl (resV.cellA tbk hs34 1 rfl rfl rfl rfl) (resV.tmp rfl) ?_
  refine ⟨r24, _, (by rw [hc]; first | done | rfl), (St.keep1 (hs34.fr L1_25)), ?_, ?_⟩
  · exact ho26
  · rw [hdn]; exact hd27
 have hr0 : refuse d.dat op.dat = 0 := by have h9 := h33; simpa using h9
 have hrf : refuse (DiskR.dat r24) op.dat = 0 := by rw [hd27]; exact hr0
 obtain ⟨hdn, hc⟩ := done_do hok hop hr0
 rw [← hrc] at hc
 refine WC.skip (hK31 _ _ (WC.sr (WL.r 1 hs32 [2] rfl ?_)))
 have hF35 := ((hs32.fr L1_25).fb b28)
 refine WL.cl Tryz.call90 rfl (k81_ _ r24 _ _ _ _ _ _ _ _ _ (St.headP hF35) ho26 (St.ownP hF35) (SlF.st0 f_op.Data hs32) f_op.Data_c (St.nodupP hF35) (St.sepP hF35 f_op.Data) ?_ ?_ ?_ ?_) ?_
 iterate 4 first | assumption | rfl | omega | exact hrf | exact hop
 rintro _ whs36 ⟨r37, L38, rfl, hs36, ho39, hd40⟩
 replace hs36 := St.lendP hF35 hs36
 refine ⟨_, rfl, ?_⟩
 have hs41 := ((((hs36.fb b2).fb b4).fb b6).fb b28)
 refine WL.r 1 hs41 [] rfl (WL.nil (WC.sr (WL.r 2 hs41 [0] rfl (WL.st tbk hs41 1 rfl rfl (fun _ hs42 => WL.r 1 hs42 [] rfl (WL.nil (WC.ret ?_)))))))
 refine retV2 rfl (resV.cellA tbk hs42 1 rfl rfl rfl rfl) (resV.tmp rfl) ?_
 refine ⟨r37, _, (by rw [hc]; first | done | rfl), (St.keep1 (hs42.fr L38)), ?_, ?_⟩
 · exact ho39
 · rw [hdn, ← hd27]; exact hd40
set_option maxHeartbeats 8000000 in
theorem k83_ (d : DiskR) (op : DiskOpR) (w : World) (f_d : okDiskR 549755813888 w d) (f_op : okDiskOpR 549755813888 w op) (hb : totDisk d.dat ≤ 1048576) :
    Calls Tryz.prog 86 #[.agg #[i64 d.Room, i64 d.Fuse, i64 d.Next, .slice d.Files.A d.Files.n d.Files.c, .slice d.Kept.A d.Kept.n d.Kept.c, .slice d.Turns.A d.Turns.n d.Turns.c], .agg #[i64 op.Kind, .string op.Name, .string op.To, .slice op.Data.A op.Data.n op.Data.c]] w fun e w' => ∃ r L1, e = .returned (.tuple #[.agg #[i64 r.Room, i64 r.Fuse, i64 r.Next, .slice r.Files.A r.Files.n r.Files.c, .slice r.Kept.A r.Kept.n r.Kept.c, .slice r.Turns.A r.Turns.n r.Turns.c], .int .i64 (doneC d.dat op.dat)]) ∧ St w [] L1 w' ∧ ownDiskR r L1 ∧ r.dat = doneD d.dat op.dat := by
 have nb_d_Files := f_d.Files_n
 have nl_d_Files := f_d.Files.sl.len
 have nb_d_Kept := f_d.Kept_n
 have nl_d_Kept := f_d.Kept.len
 have nb_d_Turns := f_d.Turns_n
 have nl_d_Turns := f_d.Turns.len
 have nz_op_Name := f_op.Name_z
 have nz_op_To := f_op.To_z
 have nb_op_Data := f_op.Data_n
 have nl_op_Data := f_op.Data.len
 have hsm : smDisk 1048576 d.dat := totDisk_sm hb
 have hsmB : smDisk 549755813888 d.dat := totDisk_sm (by omega)
 have hl1 := f_d.Files.sl.len
 have hl2 := f_d.Kept.len
 have hl3 := f_d.Turns.len
 have hnc := f_op.Data_c
 have hsmK : ∀ x, x ∈ dirD d.dat → smLink 549755813888 x := sm_turns f_d.Kept_s f_d.Turns_s
 refine enter 148 Tryz.func86 rfl Tryz.ntmps86 rfl rfl ?_
 have hs1 := St.init w
 refine WC.sr (WL.bx hs1 rfl (fun b2 _ hs3 => WL.bx hs3 rfl (fun b4 _ hs5 => WL.al hs5 Tryz.zeroValue34 rfl rfl (fun b6 _ hs7 => WL.r 1 hs7 [] rfl (WL.nil (WC.seq (fun K8 hK8 => WC.sr ?_)))))))
 refine WL.r 1 hs7 [2] rfl (WL.cl Tryz.call52 rfl (k34_ d _ (okDiskR.st0 f_d hs7) ?_) ?_)
 · first | assumption | rfl | omega
 rintro _ whs9 ⟨rfl, hs9⟩
 replace hs9 := hs7.call0 hs9
 refine ⟨_, rfl, WL.r 2 hs9 [] rfl ?_⟩
 apply WL.gO 3 Acts.nil hs9 rfl
 ·intro g10 J11
  have qg10 := g10
  try simp only [bf, within_iff, within_not] at qg10
  refine WL.runA tbk 1 (Acts.nil.cons (j := 3) rfl g10) hs9 [1] rfl ⟨rfl, trivial⟩ (WL.call (wantF rfl g10) rfl rfl (Run.call Tryz.call145 rfl rfl rfl) (k69_ op _ (okDiskOpR.st0 f_op hs9)) ?_)
  rintro _ whs12 ⟨rfl, hs12⟩
  replace hs12 := hs9.call0 hs12
  refine ⟨_, rfl, WL.runA tbk 1 (Acts.nil.cons (j := 3) rfl g10) hs12 [] rfl trivial (WL.eO 3 Acts.nil J11 hs12 g10 rfl rfl)⟩
 intro _ hs13
 refine WL.nil (WC.cq rfl (fun h14 qh14 => ?_) (fun h14 qh14 => ?_))
 ·have hbad : (diskOk d.dat && dopOk op.dat) = false := by have h9 := h14; revert h9; cases diskOk d.dat <;> cases dopOk op.dat <;> simp
  obtain ⟨hdn, hc⟩ := done_bad hbad
  refine WC.sr ?_
  refine WL.val rfl rfl rfl (Run.build rfl rfl rfl rfl (built_34)) (WL.st tbk hs13 0 rfl rfl (fun _ hs15 => WL.r 1 hs15 [] rfl (WL.nil (WC.ret (tkR ?_)))))
  clear hK8
  refine retV2 rfl (resV.cellA tbk hs15 0 rfl rfl rfl rfl) (resV.tmp rfl) ?_
  obtain ⟨L20, hs19, ho21⟩ := ownDiskR.fl hs15 (OwnN.nil _ _ _) (OwnF.nil _ _) (OwnF.nil _ _)
  have hs22 := (((hs19.fb b2).fb b4).fb b6)
  refine ⟨⟨0, 0, 0, ⟨none, 0, 0, []⟩, ⟨none, 0, 0, []⟩, ⟨none, 0, 0, []⟩⟩, _, (by rw [hc]; first | done | rfl | (rw [hr0]; done) | (rw [hr0]; rfl)), (St.keep1 (hs22.fr L20)), ?_, ?_⟩
  · exact (by exact ho21)
  · rw [hdn]; rfl
 have hgood : (diskOk d.dat && dopOk op.dat) = true := by have h9 := h14; revert h9; cases diskOk d.dat <;> cases dopOk op.dat <;> simp
 rw [Bool.and_eq_true] at hgood
 obtain ⟨hok, hop⟩ := hgood
 have hD := diskOk_P hok
 obtain ⟨hs1, hs2, hs3, hs4, hs5, hs6, hs7, hs8⟩ := hD.small
 have hdl : (dirD d.dat).length ≤ 40 := Nat.le_trans turnsL_len (by show d.Kept.xs.length + d.Turns.xs.length ≤ 40; have h1 : d.Kept.xs.length ≤ 10 := hs2; have h2 : d.Turns.xs.length ≤ 30 := hs3; omega)
 have hnl := f_op.Data.len
 have hdpl : op.Data.xs.length ≤ 400000 := dop_len hop
 have hu9 : usedF d.dat.Files ≤ 1048576 := Nat.le_trans hD.room.2.1 (by decide)
 refine WC.skip (hK8 _ _ (WC.sr (WL.r 1 hs13 [2] rfl ?_)))
 refine WL.cl Tryz.call66 rfl (k67_ d _ (okDiskR.st0 f_d hs13) ?_) ?_
 · first | assumption | rfl | omega
 rintro _ whs23 ⟨r24, L1_25, rfl, hs23, ho26, hd27⟩
 replace hs23 := hs13.callF hs23
 refine ⟨_, rfl, ?_⟩
 replace hs23 := St.back [_, _, _] hs23
 have hrsm0 : smDisk 549755813888 (DiskR.dat r24) := by rw [hd27]; exact hsmB
 refine WL.al hs23 Tryz.zeroValue34 rfl rfl (fun b28 _ hs29 => WL.st tbk hs29 0 rfl rfl (fun _ hs30 => WL.nil (WC.sr (WL.r 2 hs30 [3, 2] rfl ?_))))
 refine WL.cl Tryz.call146 rfl (k70_ d op _ (okDiskR.st0 f_d hs30) (okDiskOpR.st0 f_op hs30) ?_ ?_) ?_
 iterate 2 first | assumption | rfl | omega
 rintro _ whs31 ⟨rfl, hs31⟩
 replace hs31 := hs30.call0 hs31
 refine ⟨_, rfl, WL.r 1 hs31 [] rfl (WL.nil (WC.seq (fun K32 hK32 => WC.r1 hs31 [] rfl ?_)))⟩
 refine WC.cq rfl (fun h33 qh33 => ?_) (fun h33 qh33 => ?_)
 ·have hr0 : ¬ refuse d.dat op.dat = 0 := by have h9 := h33; simpa using h9
  obtain ⟨hdn, hc⟩ := done_ref hok hop hr0
  refine WC.sr (WL.r 2 hs31 [0] rfl (WL.st tbk hs31 1 rfl rfl (fun _ hs34 => WL.r 1 hs34 [] rfl (WL.nil (WC.ret (tkR ?_))))))
  clear hK32
  refine retV2 rfl (resV.cellA tbk hs34 1 rfl rfl rfl rfl) (resV.tmp rfl) ?_
  refine ⟨r24, _, (by rw [hc]; first | done | rfl | (rw [hr0]; done) | (rw [hr0]; rfl)), (St.keep1 (hs34.fr L1_25)), ?_, ?_⟩
  · exact ho26
  · rw [hdn]; exact hd27
 have hr0 : refuse d.dat op.dat = 0 := by have h9 := h33; simpa using h9
 obtain ⟨hdn, hc0⟩ := done_do hok hop hr0
 have hfu0 : ¬ d.dat.Fuse = 0 := refuse_fuse hr0
 refine WC.skip (hK32 _ _ (WC.seq (fun K35 hK35 => WC.r1 hs31 [0] rfl ?_)))
 refine WC.jPK [0, 1, 2, 3, 4, 5, 6, 7, 12, 13, 14, 15, 19, 21, 22, 23, 24, 25, 26, 27, 30, 31, 32] rfl ((hs31.fr L1_25).fb b28) (fun o_ L_ => ∃ r : DiskR, o_ = Obj.cells (List.toArray [i64 r.Room, i64 r.Fuse, i64 r.Next, .slice r.Files.A r.Files.n r.Files.c, .slice r.Kept.A r.Kept.n r.Kept.c, .slice r.Turns.A r.Turns.n r.Turns.c]) 34 (0, 0) ∧ ownDiskR r L_ ∧ r.dat = fuse1 d.dat) ?_ ?_
 ·refine WC.cq rfl (fun h36 qh36 => ?_) (fun h36 qh36 => ?_)
  ·have hfu := h36
   have hfu3 : r24.Fuse ≤ 1000 := by show (DiskR.dat r24).Fuse ≤ 1000; rw [hd27]; exact hs7
   have hfu4 : 0 < r24.Fuse := by simpa using hfu
   refine WC.region (WL.r 4 hs31 [0] rfl (WL.st tbk hs31 0 rfl rfl (fun _ hs37 => WL.nil ?_)))
   obtain ⟨L38, L39, L40, hs44, ho41, ho42, ho43⟩ := ownDiskR.op hs37 ho26
   have hs45 := ((((hs44.fb b2).fb b4).fb b6).fb b28)
   obtain ⟨L47, hs46, ho48⟩ := ownDiskR.fl hs45 ho41 ho42 ho43
   have hs49 := ((((hs46.fb b2).fb b4).fb b6).fb b28)
   refine tkN ⟨_, _, (((((hs49.fb b2).fb b4).fb b6).fr L47).fb b28), ⟨⟨r24.Room, (r24.Fuse - (1)), r24.Next, SlD.ofN ho41, SlD.of ho42, SlD.of ho43⟩, rfl, (by exact ho48), ?_⟩, sbF rfl⟩
   · rw [← hd27]; unfold fuse1; rw [if_pos (show 0 < (DiskR.dat r24).Fuse from by show 0 < r24.Fuse; simpa using hfu)]; first | done | rfl
  have hfu := h36
  refine WC.skip (tkN ⟨_, _, (((((hs31.fb b2).fb b4).fb b6).fr L1_25).fb b28), ⟨r24, rfl, ho26, ?_⟩, sbF rfl⟩)
  · rw [← hd27]; unfold fuse1; rw [if_neg (show ¬ 0 < (DiskR.dat r24).Fuse from by show ¬ 0 < r24.Fuse; simpa using hfu)]; first | done | rfl
 rintro _ L50 _ ⟨r51, rfl, ho52, hd53⟩ hs54 f_ hf_
 refine hK35 _ _ (WC.sub _ hf_ ?_)
 clear hf_
 have hs55 := ((((hs54.fb b2).fb b4).fb b6).fb b28)
 have hsmr : smDisk 549755813888 (DiskR.dat r51) := by rw [hd53]; exact hsmB
 have hro := ownDiskR.ok (B := 549755813888) ho52 (hs55.ow L50) hsmr
 have hrF : (DiskR.dat r51).Files = d.dat.Files := (show _ = (fuse1 d.dat).Files from congrArg DiskD.Files hd53)
 have hrK : (DiskR.dat r51).Kept = d.dat.Kept := (show _ = (fuse1 d.dat).Kept from congrArg DiskD.Kept hd53)
 have hrT : (DiskR.dat r51).Turns = d.dat.Turns := (show _ = (fuse1 d.dat).Turns from congrArg DiskD.Turns hd53)
 have hrN : r51.Next = d.Next := congrArg DiskD.Next hd53
 have hrfl := hro.Files.sl.len
 have hrkl := hro.Kept.len
 have hrtl := hro.Turns.len
 have hrf10 : r51.Files.xs.length ≤ 10 := by rw [← List.length_map (f := FileR.dat)]; show (DiskR.dat r51).Files.length ≤ 10; rw [hrF]; exact hs1
 have hrt30 : r51.Turns.xs.length ≤ 30 := by show (DiskR.dat r51).Turns.length ≤ 30; rw [hrT]; exact hs3
 have hrk10 : r51.Kept.xs.length ≤ 10 := by show (DiskR.dat r51).Kept.length ≤ 10; rw [hrK]; exact hs2
 obtain ⟨hrm1, hrm2, hrm3⟩ := hD.room
 have hrm1' : d.Room - ((usedF d.dat.Files : Nat) : Int) = (roomD d.dat : Int) := hrm1
 have hrm4 : d.Room ≤ 400000 := hrm3
 have hrfn : fileN (DiskR.dat r51) op.Name = fileN d.dat op.Name := by rw [hd53]; rfl
 have hrr : roomD (DiskR.dat r51) = roomD d.dat := by rw [hd53]; rfl
 have hrd : dirD (DiskR.dat r51) = dirD d.dat := by rw [hd53]; rfl
 have hn5 : d.Next ≤ 1000000 := hs4
 have hn6 : 1 ≤ d.Next := hs5
 refine WC.seq (fun K56 hK56 => WC.rH hs55 hs55 (fun _ hs57 => ?_))
 refine WH.rn [0, 1, 3, 4] hs57 [3, 3, 2] rfl rfl (WH.o1 2 rfl (WL.cl Tryz.call69 rfl (k66_ d _ (okDiskR.st0 f_d hs57) ?_ ?_) ?_))
 iterate 2 first | assumption | rfl | omega | (show r51.Files.xs.length ≤ 1048576; omega) | (show (dirD d.dat).length ≤ 1048576; omega) | exact sm_kept hsmr (Nat.le_trans hdl (by decide)) hsmK
 rintro _ whs58 ⟨A59, c60, L1_61, rfl, hs58, ho62⟩
 replace hs58 := hs57.callF hs58
 refine ⟨_, rfl, ?_⟩
 replace hs58 := St.back [_, _, _, _] hs58
 refine WL.nil ⟨(hs58.rm L1_61), WH.o1 5 rfl (WL.cl Tryz.call108 rfl (k24_ _ _ _ _ _ _ (SlF.ofOwn ho62 (hs58.ow L1_61)) ?_) ?_)⟩
 · first | assumption | rfl | omega | (show r51.Files.xs.length ≤ 1048576; omega) | (show (dirD d.dat).length ≤ 1048576; omega) | exact sm_kept hsmr (Nat.le_trans hdl (by decide)) hsmK
 rintro _ whs63 ⟨rfl, hs63⟩
 replace hs63 := hs58.call0 hs63
 refine ⟨_, rfl, WL.nil ⟨(hs63.rm L1_61), WH.o1 6 rfl (WL.cl Tryz.call109 rfl (k68_ d _ _ (okDiskR.st0 f_d hs63)) ?_)⟩⟩
 rintro _ whs64 ⟨rfl, hs64⟩
 replace hs64 := hs63.call0 hs64
 refine ⟨_, rfl, WL.nil ⟨(hs64.rm L1_61), WH.rn [7] (hs64.rm L1_61) [] rfl rfl (WH.dn (hK56 _ _ (WC.seq (fun K65 hK65 => WC.r1 hs64 [2] rfl (WC.block ?_)))))⟩⟩
 refine WC.r1 hs64 [] rfl (WC.cq rfl (fun h66 qh66 => ?_) (fun h66 qh66 => ?_))
 ·have k1 : op.Kind = 1 := by have h9 := h66; simpa using h9
  have hc : doneC d.dat op.dat = 0 := hc0.trans (doC_0 (show ¬ op.Kind = 2 by omega))
  refine WC.sr (WL.r 4 hs64 [0, 3] rfl ?_)
  refine WL.val rfl rfl rfl (Run.build rfl rfl rfl rfl (built_123_0 _)) (WL.buildSlice hs64 Tryz.runUnderlying30 Tryz.sizeOf123 Tryz.zeroValue123 rfl rfl rfl rfl rfl rfl rfl rfl rfl rfl (fun b67 whs68 hs68 => ?_))
  obtain ⟨L69, L70, L71, hs75, ho72, ho73, ho74⟩ := ownDiskR.op hs68 ho52
  have hs76 := (((((hs75.fb b2).fb b4).fb b6).fb b28).fb b67)
  obtain ⟨L78, L79, hs82, ho80, ho81⟩ := OwnN.open_ (hs76.fr L69) ho72
  have hs83 := (((((hs82.fb b2).fb b4).fb b6).fb b28).fb b67)
  refine WL.appendG (hs83.fr L78) ho80 (srcF (F := encFileR) (ys := [(⟨d.Next, ⟨none, 0, 0, []⟩, 0⟩ : FileR)]) Tryz.underlying30 rfl rfl (hs83.own _ (nthL_mem (i := 0) rfl)).1) Tryz.underlying30 inf123 rfl rfl rfl rfl rfl rfl rfl rfl rfl rfl ?_ (fun A87 c88 L84 whs85 hs85 ho86 => ?_)
  · (try simp only [List.length_append, List.length_singleton, List.length_take]); omega
  replace hs85 := St.back [_, _, _, _, _] hs85
  obtain ⟨L89, hs90, hb91⟩ := Bag.put (x := (⟨d.Next, ⟨none, 0, 0, []⟩, 0⟩ : FileR)) ((hs85.fr ([] : Hp)).fr L79) ho81 (OwnF.nil _ _)
  have hs92 := (((((hs90.fb b2).fb b4).fb b6).fb b28).fb b67)
  obtain ⟨L94, hs93, ho95⟩ := OwnN.fold ((hs92.fr L89).fr L84) ho86 hb91
  have hs96 := (((((hs93.fb b2).fb b4).fb b6).fb b28).fb b67)
  refine WL.r 1 hs96 [] rfl (WL.st tbk hs96 1 rfl rfl (fun _ hs97 => WL.nil (WC.sr (WL.r 8 hs97 [1, 3, 3, 4] rfl ?_))))
  refine WL.val rfl rfl rfl (Run.build rfl rfl rfl rfl (built_137_0_1_3 _ _ _)) (WL.buildSlice hs97 Tryz.runUnderlying32 Tryz.sizeOf137 Tryz.zeroValue137 rfl rfl rfl rfl rfl rfl rfl rfl rfl rfl (fun b98 whs99 hs99 => ?_))
  refine WL.appendG (hs99.fr L71) ho74 (srcF (F := encTurn) (ys := [⟨op.Kind, op.Name, noName, d.Next⟩]) Tryz.underlying32 rfl rfl (hs99.own _ (nthL_mem (i := 0) rfl)).1) Tryz.underlying32 inf137 rfl rfl rfl rfl rfl rfl rfl rfl rfl rfl ?_ (fun A103 c104 L100 whs101 hs101 ho102 => ?_)
  · (try simp only [List.length_append, List.length_singleton, List.length_take]); omega
  replace hs101 := St.back [_, _, _, _, _, _] hs101
  refine WL.r 1 hs101 [] rfl (WL.st tbk hs101 2 rfl rfl (fun _ hs105 => WL.nil (WC.region (WL.r 4 hs105 [2] rfl (WL.st tbk hs105 2 rfl rfl (fun _ hs106 => WL.nil (hK65 _ _ ?_)))))))
  refine WC.sr (WL.r 2 hs106 [2] rfl (WL.st tbk hs106 3 rfl rfl (fun _ hs107 => WL.r 1 hs107 [] rfl (WL.nil (WC.ret (retV2 rfl (resV.cellA tbk hs107 3 rfl rfl rfl rfl) (resV.tmp rfl) ?_))))))
  obtain ⟨L109, hs108, ho110⟩ := ownDiskR.fl hs107 ho95 ho73 ho102
  have hs111 := ((((((hs108.fb b2).fb b4).fb b6).fb b28).fb b67).fb b98)
  refine ⟨⟨r51.Room, r51.Fuse, (r51.Next + (1)), SlD.ofN ho95, SlD.of ho73, SlD.of ho102⟩, _, (by rw [hc]; first | done | rfl | (rw [hr0]; done) | (rw [hr0]; rfl)), (St.keep1 (hs111.fr L109)), ?_, ?_⟩
  · exact (by exact ho110)
  · rw [hdn]; unfold doD; rw [if_pos (show op.dat.Kind = 1 from k1), ← hd53]; exact DiskD.ext' rfl rfl (by show _ + 1 = _ + 1; rw [show r51.Next = (DiskR.dat r51).Next from rfl]) (by show List.map FileR.dat (_ ++ _) = _; rw [List.map_append]; show _ ++ [(⟨d.Next, [], 0⟩ : FileD)] = _ ++ [(⟨r51.Next, [], 0⟩ : FileD)]; rw [hrN]; rfl) rfl (by show _ ++ [(⟨_, _, _, d.Next⟩ : TurnD)] = _ ++ [(⟨_, _, _, r51.Next⟩ : TurnD)]; rw [hrN]; (try rw [k1]); rfl)
 have k1 : ¬ op.Kind = 1 := by have h9 := h66; simpa using h9
 refine WC.r1 hs64 [] rfl (WC.cq rfl (fun h112 qh112 => ?_) (fun h112 qh112 => ?_))
 ·have k2 : op.Kind = 2 := by have h9 := h112; simpa using h9
  have hh : hasN (dirD d.dat) op.Name = true := (refuse_has hr0 (show op.Kind ≠ 6 by omega)).trans (by rw [show decide (op.dat.Kind = 1) = false from decide_eq_false (show ¬ op.Kind = 1 by omega)]; rfl)
  have hfn := (hD.at hh).1
  have hat : atI d.dat.Files (findL (dirD d.dat) op.Name) = ((fileN (DiskR.dat r51) op.Name) : Int) := by rw [hrfn]; exact (hD.at hh).2
  have hfn2 : (fileN (DiskR.dat r51) op.Name) < r51.Files.xs.length := by rw [hrfn, ← List.length_map (f := FileR.dat)]; show _ < (DiskR.dat r51).Files.length; rw [hrF]; exact hfn
  have hyb := (hro.Files.all _ (gat_mem (F := encFileR) (xs := r51.Files.xs) (k := (fileN (DiskR.dat r51) op.Name)) hfn2)).Body.len
  have hyu : (gat encFileR r51.Files.xs (fileN (DiskR.dat r51) op.Name)).Body.xs.length ≤ usedF d.dat.Files := by rw [← hrF]; exact usedF_gat hfn2
  refine WC.r1 hs64 [2] rfl (WC.seq (fun K113 hK113 => WC.sq1 hs64 (WQ.r 4 [3, 3] rfl ?_)))
  refine WQ.call rfl rfl rfl (fun w_ hs_ => (Run.call Tryz.call101 rfl rfl rfl)) (fun w_ hs_ => (k32_ d _ (okDiskR.st0 f_d (hs_ : St _ _ _ _)) ?_).mono fun e_ w_ h_ => ⟨h_.1, (hs_ : St _ _ _ _).call0 h_.2⟩) ?_
  · first | assumption | rfl | omega
  refine WQ.r 2 [] rfl (WQ.nil (fun _ (hs114 : St _ _ _ _) => ?_))
  refine WC.cq rfl (fun h115 qh115 => ?_) (fun h115 qh115 => ?_)
  ·have h83 : roomD d.dat < op.Data.n := by have h9 := h115; rw [hrm1'] at h9; simp at h9; omega
   have hc : doneC d.dat op.dat = 5 := hc0.trans (if_pos ⟨k2, by show _ < op.Data.xs.length; omega⟩)
   refine WC.sq1 hs114 (WQ.r 3 [3, 3] rfl ?_)
   refine WQ.call rfl rfl rfl (fun w_ hs_ => (Run.call Tryz.call101 rfl rfl rfl)) (fun w_ hs_ => (k32_ d _ (okDiskR.st0 f_d (hs_ : St _ _ _ _)) ?_).mono fun e_ w_ h_ => ⟨h_.1, (hs_ : St _ _ _ _).call0 h_.2⟩) ?_
   · first | assumption | rfl | omega
   refine WQ.r 2 [] rfl (WQ.nil (fun _ (hs116 : St _ _ _ _) => WC.region (WL.r 1 hs116 [] rfl (WL.nil (hK113 _ _ (WC.sr (WL.r 3 hs116 [0] rfl ?_)))))))
   refine WL.val rfl rfl rfl (Run.idxK ((fileN (DiskR.dat r51) op.Name)) Tryz.runUnderlying30 Tryz.sizeOf123 rfl rfl rfl ?_ ?_ ?_) ?_
   · exact SlF.some_ (ownDiskR.ok (B := 549755813888) ho52 (hs116.ow L50) hsmr).Files.sl
   · omega
   · omega
   refine WL.val rfl rfl rfl (Run.loadA Tryz.isAgg123 Tryz.sizeOf123 rfl rfl (SlF.whole (ownDiskR.ok (B := 549755813888) ho52 (hs116.ow L50) hsmr).Files.sl ?_)) ?_
   · omega
   refine WL.al hs116 Tryz.zeroValue123 rfl rfl (fun b117 _ hs118 => WL.st tbk hs118 0 rfl rfl (fun _ hs119 => WL.nil (WC.seq (fun K120 hK120 => WC.rG 6 ((hs119.d1.rm L1_61).rm L50) hs119 hs119 (fun _ hs121 => ?_)))))
   refine WG.rn [0, 1, 2, 3, 4] hs121 [0, 3] rfl rfl ?_
   refine WG.tk 5 rfl (by kernel_rfl) rfl rfl rfl hs121 (fun w_ hs_ => (Run.sliceH ((roomD d.dat)) Tryz.runUnderlying43 Tryz.sizeOf5 rfl rfl rfl ?_ ?_)) ?_
   · first | rfl | (omega)
   · refine ⟨?_, ?_, ?_⟩ <;> (omega)
   refine WG.oK rfl ?_
   obtain ⟨L122, L123, L124, hs128, ho125, ho126, ho127⟩ := ownDiskR.op hs121 ho52
   have hs129 := (((((hs128.fb b2).fb b4).fb b6).fb b28).fb b117)
   obtain ⟨L130, L131, hs134, ho132, ho133⟩ := OwnN.open_ (hs129.fr L122) ho125
   have hs135 := (((((hs134.fb b2).fb b4).fb b6).fb b28).fb b117)
   obtain ⟨L136, L137, L138, hs139, ho140, hp141⟩ := Bag.out (F := encFileR) (i := (fileN (DiskR.dat r51) op.Name)) (hs135.fr L131) ho133 (by omega)
   have hs142 := (((((hs139.fb b2).fb b4).fb b6).fb b28).fb b117)
   refine WL.appendG (hs142.fr L137) ho140 (SlF.src (SlF.cutH ((roomD d.dat)) (SlF.st0 f_op.Data hs142) (by refine ⟨?_, ?_, ?_⟩ <;> (omega))) Tryz.underlying43) Tryz.underlying43 inf5 rfl rfl rfl rfl rfl rfl rfl rfl rfl rfl ?_ (fun A146 c147 L143 whs144 hs144 ho145 => ?_)
   · (try simp only [List.length_append, List.length_singleton, List.length_take]); omega
   replace hs144 := St.back [_, _, _, _, _] hs144
   refine WL.nil ⟨((((((hs144.d1.rm L143).rm (L136 ++ L138)).rm L130).rm L123).rm L124).rm L1_61), WH.rn [7] ((((((hs144.d1.rm L143).rm (L136 ++ L138)).rm L130).rm L123).rm L124).rm L1_61) [] rfl rfl (WH.o1 8 rfl (WL.st tbk hs144 0 rfl rfl (fun _ hs148 => WL.nil ⟨((((((hs148.d1.rm L143).rm (L136 ++ L138)).rm L130).rm L123).rm L124).rm L1_61), WH.dn (hK120 _ _ (WC.region ?_))⟩)))⟩
   refine WL.r 4 hs148 [1, 0] rfl (WL.val rfl rfl rfl (Run.idxK ((fileN (DiskR.dat r51) op.Name)) Tryz.runUnderlying30 Tryz.sizeOf123 rfl rfl rfl ?_ ?_ ?_) ?_)
   · exact SlF.some_ (SlF.ofOwn ho132 (hs148.ow L130))
   · omega
   · omega
   refine WL.storeF1 (x' := ⟨(gat encFileR r51.Files.xs (fileN (DiskR.dat r51) op.Name)).Id, SlD.of ho145, (gat encFileR r51.Files.xs (fileN (DiskR.dat r51) op.Name)).Safe⟩) (hs148.fr L130) ho132 Tryz.sizeOf123 rfl rfl rfl rfl rfl rfl rfl rfl rfl ?_ rfl (fun L149 whs150 hs150 ho151 _ => ?_)
   · omega
   replace hs150 := St.back [_, _, _, _, _] hs150
   obtain ⟨L152, hs153, hb154⟩ := hp141 (⟨(gat encFileR r51.Files.xs (fileN (DiskR.dat r51) op.Name)).Id, SlD.of ho145, (gat encFileR r51.Files.xs (fileN (DiskR.dat r51) op.Name)).Safe⟩ : FileR) _ ((hs150.fr (L136 ++ L138)).fr L143) (by have h_ := ho145; exact h_)
   have hs156 := (((((hs153.fb b2).fb b4).fb b6).fb b28).fb b117)
   have ho155 := ho151
   obtain ⟨L158, hs157, ho159⟩ := OwnN.fold ((hs156.fr L152).fr L149) ho155 hb154
   have hs160 := (((((hs157.fb b2).fb b4).fb b6).fb b28).fb b117)
   refine WL.nil (hK65 _ _ (WC.sr (WL.r 2 hs160 [1] rfl (WL.st tbk hs160 2 rfl rfl (fun _ hs161 => WL.r 1 hs161 [] rfl (WL.nil (WC.ret ?_)))))))
   refine retV2 rfl (resV.cellA tbk hs161 2 rfl rfl rfl rfl) (resV.tmp rfl) ?_
   obtain ⟨L163, hs162, ho164⟩ := ownDiskR.fl hs161 ho159 ho126 ho127
   have hs165 := (((((hs162.fb b2).fb b4).fb b6).fb b28).fb b117)
   refine ⟨⟨r51.Room, r51.Fuse, r51.Next, SlD.ofN ho159, SlD.of ho126, SlD.of ho127⟩, _, (by rw [hc]; first | done | rfl | (rw [hr0]; done) | (rw [hr0]; rfl)), (St.keep1 (hs165.fr L163)), ?_, ?_⟩
   · exact (by exact ho164)
   · rw [hdn]; unfold doD; rw [if_neg (show ¬ op.dat.Kind = 1 from (by first | assumption | (show ¬ op.Kind = 1; omega))), if_pos (show op.dat.Kind = 2 from k2), ← hd53]; exact DiskD.ext' rfl rfl rfl (files_set (by rw [show fAt (DiskR.dat r51).Files (fileN (DiskR.dat r51) op.dat.Name) = FileR.dat (gat encFileR r51.Files.xs (fileN (DiskR.dat r51) op.Name)) from fAt_dat hfn2]; exact FileD.ext' rfl (by show _ ++ _ = _ ++ List.take (roomD (DiskR.dat r51)) op.Data.xs; rw [hrr]; rfl) rfl)) rfl rfl
  have h83 : op.Data.n ≤ roomD d.dat := by have h9 := h115; rw [hrm1'] at h9; simp at h9; omega
  have hc : doneC d.dat op.dat = 0 := hc0.trans (if_neg fun h_ => by have h8 := h_.2; replace h8 : _ < op.Data.xs.length := h8; omega)
  refine WC.skip (hK113 _ _ (WC.sr (WL.r 3 hs114 [0] rfl ?_)))
  refine WL.val rfl rfl rfl (Run.idxK ((fileN (DiskR.dat r51) op.Name)) Tryz.runUnderlying30 Tryz.sizeOf123 rfl rfl rfl ?_ ?_ ?_) ?_
  · exact SlF.some_ (ownDiskR.ok (B := 549755813888) ho52 (hs114.ow L50) hsmr).Files.sl
  · omega
  · omega
  refine WL.val rfl rfl rfl (Run.loadA Tryz.isAgg123 Tryz.sizeOf123 rfl rfl (SlF.whole (ownDiskR.ok (B := 549755813888) ho52 (hs114.ow L50) hsmr).Files.sl ?_)) ?_
  · omega
  refine WL.al hs114 Tryz.zeroValue123 rfl rfl (fun b166 _ hs167 => WL.st tbk hs167 0 rfl rfl (fun _ hs168 => WL.nil (WC.seq (fun K169 hK169 => WC.rG 6 ((hs168.d1.rm L1_61).rm L50) hs168 hs168 (fun _ hs170 => ?_)))))
  refine WG.rn [0, 1, 2, 3, 4] hs170 [0, 3] rfl rfl ?_
  refine WG.tk 5 rfl (by kernel_rfl) rfl rfl rfl hs170 (fun w_ hs_ => (Run.sliceH (op.Data.n) Tryz.runUnderlying43 Tryz.sizeOf5 rfl rfl rfl ?_ ?_)) ?_
  · first | rfl | (omega)
  · refine ⟨?_, ?_, ?_⟩ <;> (omega)
  refine WG.oK rfl ?_
  obtain ⟨L171, L172, L173, hs177, ho174, ho175, ho176⟩ := ownDiskR.op hs170 ho52
  have hs178 := (((((hs177.fb b2).fb b4).fb b6).fb b28).fb b166)
  obtain ⟨L179, L180, hs183, ho181, ho182⟩ := OwnN.open_ (hs178.fr L171) ho174
  have hs184 := (((((hs183.fb b2).fb b4).fb b6).fb b28).fb b166)
  obtain ⟨L185, L186, L187, hs188, ho189, hp190⟩ := Bag.out (F := encFileR) (i := (fileN (DiskR.dat r51) op.Name)) (hs184.fr L180) ho182 (by omega)
  have hs191 := (((((hs188.fb b2).fb b4).fb b6).fb b28).fb b166)
  refine WL.appendG (hs191.fr L186) ho189 (SlF.src (SlF.cutH (op.Data.n) (SlF.st0 f_op.Data hs191) (by refine ⟨?_, ?_, ?_⟩ <;> (omega))) Tryz.underlying43) Tryz.underlying43 inf5 rfl rfl rfl rfl rfl rfl rfl rfl rfl rfl ?_ (fun A195 c196 L192 whs193 hs193 ho194 => ?_)
  · (try simp only [List.length_append, List.length_singleton, List.length_take]); omega
  replace hs193 := St.back [_, _, _, _, _] hs193
  refine WL.nil ⟨((((((hs193.d1.rm L192).rm (L185 ++ L187)).rm L179).rm L172).rm L173).rm L1_61), WH.rn [7] ((((((hs193.d1.rm L192).rm (L185 ++ L187)).rm L179).rm L172).rm L173).rm L1_61) [] rfl rfl (WH.o1 8 rfl (WL.st tbk hs193 0 rfl rfl (fun _ hs197 => WL.nil ⟨((((((hs197.d1.rm L192).rm (L185 ++ L187)).rm L179).rm L172).rm L173).rm L1_61), WH.dn (hK169 _ _ (WC.region ?_))⟩)))⟩
  refine WL.r 4 hs197 [1, 0] rfl (WL.val rfl rfl rfl (Run.idxK ((fileN (DiskR.dat r51) op.Name)) Tryz.runUnderlying30 Tryz.sizeOf123 rfl rfl rfl ?_ ?_ ?_) ?_)
  · exact SlF.some_ (SlF.ofOwn ho181 (hs197.ow L179))
  · omega
  · omega
  refine WL.storeF1 (x' := ⟨(gat encFileR r51.Files.xs (fileN (DiskR.dat r51) op.Name)).Id, SlD.of ho194, (gat encFileR r51.Files.xs (fileN (DiskR.dat r51) op.Name)).Safe⟩) (hs197.fr L179) ho181 Tryz.sizeOf123 rfl rfl rfl rfl rfl rfl rfl rfl rfl ?_ rfl (fun L198 whs199 hs199 ho200 _ => ?_)
  · omega
  replace hs199 := St.back [_, _, _, _, _] hs199
  obtain ⟨L201, hs202, hb203⟩ := hp190 (⟨(gat encFileR r51.Files.xs (fileN (DiskR.dat r51) op.Name)).Id, SlD.of ho194, (gat encFileR r51.Files.xs (fileN (DiskR.dat r51) op.Name)).Safe⟩ : FileR) _ ((hs199.fr (L185 ++ L187)).fr L192) (by have h_ := ho194; exact h_)
  have hs205 := (((((hs202.fb b2).fb b4).fb b6).fb b28).fb b166)
  have ho204 := ho200
  obtain ⟨L207, hs206, ho208⟩ := OwnN.fold ((hs205.fr L201).fr L198) ho204 hb203
  have hs209 := (((((hs206.fb b2).fb b4).fb b6).fb b28).fb b166)
  refine WL.nil (hK65 _ _ (WC.sr (WL.r 2 hs209 [1] rfl (WL.st tbk hs209 2 rfl rfl (fun _ hs210 => WL.r 1 hs210 [] rfl (WL.nil (WC.ret ?_)))))))
  refine retV2 rfl (resV.cellA tbk hs210 2 rfl rfl rfl rfl) (resV.tmp rfl) ?_
  obtain ⟨L212, hs211, ho213⟩ := ownDiskR.fl hs210 ho208 ho175 ho176
  have hs214 := (((((hs211.fb b2).fb b4).fb b6).fb b28).fb b166)
  refine ⟨⟨r51.Room, r51.Fuse, r51.Next, SlD.ofN ho208, SlD.of ho175, SlD.of ho176⟩, _, (by rw [hc]; first | done | rfl | (rw [hr0]; done) | (rw [hr0]; rfl)), (St.keep1 (hs214.fr L212)), ?_, ?_⟩
  · exact (by exact ho213)
  · rw [hdn]; unfold doD; rw [if_neg (show ¬ op.dat.Kind = 1 from (by first | assumption | (show ¬ op.Kind = 1; omega))), if_pos (show op.dat.Kind = 2 from k2), ← hd53]; exact DiskD.ext' rfl rfl rfl (files_set (by rw [show fAt (DiskR.dat r51).Files (fileN (DiskR.dat r51) op.dat.Name) = FileR.dat (gat encFileR r51.Files.xs (fileN (DiskR.dat r51) op.Name)) from fAt_dat hfn2]; exact FileD.ext' rfl (by show _ ++ _ = _ ++ List.take (roomD (DiskR.dat r51)) op.Data.xs; rw [hrr, List.take_of_length_le (by omega), List.take_of_length_le (by omega)]; rfl) rfl)) rfl rfl
 have k2 : ¬ op.Kind = 2 := by have h9 := h112; simpa using h9
 have hc : doneC d.dat op.dat = 0 := hc0.trans (doC_0 (show ¬ op.Kind = 2 by omega))
 refine WC.r1 hs64 [] rfl (WC.cq rfl (fun h215 qh215 => ?_) (fun h215 qh215 => ?_))
 ·have k3 : op.Kind = 3 := by have h9 := h215; simpa using h9
  have hh : hasN (dirD d.dat) op.Name = true := (refuse_has hr0 (show op.Kind ≠ 6 by omega)).trans (by rw [show decide (op.dat.Kind = 1) = false from decide_eq_false (show ¬ op.Kind = 1 by omega)]; rfl)
  have hfn := (hD.at hh).1
  have hat : atI d.dat.Files (findL (dirD d.dat) op.Name) = ((fileN (DiskR.dat r51) op.Name) : Int) := by rw [hrfn]; exact (hD.at hh).2
  have hfn2 : (fileN (DiskR.dat r51) op.Name) < r51.Files.xs.length := by rw [hrfn, ← List.length_map (f := FileR.dat)]; show _ < (DiskR.dat r51).Files.length; rw [hrF]; exact hfn
  have hyb := (hro.Files.all _ (gat_mem (F := encFileR) (xs := r51.Files.xs) (k := (fileN (DiskR.dat r51) op.Name)) hfn2)).Body.len
  have hyu : (gat encFileR r51.Files.xs (fileN (DiskR.dat r51) op.Name)).Body.xs.length ≤ usedF d.dat.Files := by rw [← hrF]; exact usedF_gat hfn2
  refine WC.sr (WL.r 3 hs64 [0] rfl (WL.val rfl rfl rfl (Run.idxK ((fileN (DiskR.dat r51) op.Name)) Tryz.runUnderlying30 Tryz.sizeOf123 rfl rfl rfl ?_ ?_ ?_) ?_))
  · exact SlF.some_ (ownDiskR.ok (B := 549755813888) ho52 (hs64.ow L50) hsmr).Files.sl
  · omega
  · omega
  refine WL.val rfl rfl rfl (Run.loadA Tryz.isAgg123 Tryz.sizeOf123 rfl rfl (SlF.whole (ownDiskR.ok (B := 549755813888) ho52 (hs64.ow L50) hsmr).Files.sl ?_)) ?_
  · omega
  refine WL.al hs64 Tryz.zeroValue123 rfl rfl (fun b216 _ hs217 => WL.st tbk hs217 0 rfl rfl (fun _ hs218 => WL.nil (WC.sr (WL.r 3 hs218 [0] rfl ?_))))
  skip
  refine WL.r 1 hs218 [] rfl (WL.st tbk hs218 0 rfl rfl (fun _ hs219 => WL.nil (WC.region (WL.r 4 hs219 [1, 0] rfl ?_))))
  refine WL.val rfl rfl rfl (Run.idxK ((fileN (DiskR.dat r51) op.Name)) Tryz.runUnderlying30 Tryz.sizeOf123 rfl rfl rfl ?_ ?_ ?_) ?_
  · exact SlF.some_ (ownDiskR.ok (B := 549755813888) ho52 (hs219.ow L50) hsmr).Files.sl
  · omega
  · omega
  obtain ⟨L220, L221, L222, hs226, ho223, ho224, ho225⟩ := ownDiskR.op hs219 ho52
  have hs227 := (((((hs226.fb b2).fb b4).fb b6).fb b28).fb b216)
  obtain ⟨L228, L229, hs232, ho230, ho231⟩ := OwnN.open_ (hs227.fr L220) ho223
  have hs233 := (((((hs232.fb b2).fb b4).fb b6).fb b28).fb b216)
  obtain ⟨L234, L235, L236, hs237, ho238, hp239⟩ := Bag.out (F := encFileR) (i := (fileN (DiskR.dat r51) op.Name)) (hs233.fr L229) ho231 (by omega)
  have hs240 := (((((hs237.fb b2).fb b4).fb b6).fb b28).fb b216)
  refine WL.storeF1 (x' := ⟨(gat encFileR r51.Files.xs (fileN (DiskR.dat r51) op.Name)).Id, SlD.of ho238, ((gat encFileR r51.Files.xs (fileN (DiskR.dat r51) op.Name)).Body.n : Int)⟩) (hs240.fr L228) ho230 Tryz.sizeOf123 rfl rfl rfl rfl rfl rfl rfl rfl rfl ?_ rfl (fun L241 whs242 hs242 ho243 _ => ?_)
  · omega
  replace hs242 := St.back [_, _, _, _, _] hs242
  obtain ⟨L244, hs245, hb246⟩ := hp239 (⟨(gat encFileR r51.Files.xs (fileN (DiskR.dat r51) op.Name)).Id, SlD.of ho238, ((gat encFileR r51.Files.xs (fileN (DiskR.dat r51) op.Name)).Body.n : Int)⟩ : FileR) _ ((hs242.fr (L234 ++ L236)).fr L235) (by have h_ := ho238; exact h_)
  have hs248 := (((((hs245.fb b2).fb b4).fb b6).fb b28).fb b216)
  have ho247 := ho243
  obtain ⟨L250, hs249, ho251⟩ := OwnN.fold ((hs248.fr L244).fr L241) ho247 hb246
  have hs252 := (((((hs249.fb b2).fb b4).fb b6).fb b28).fb b216)
  refine WL.nil (hK65 _ _ (WC.sr (WL.r 2 hs252 [1] rfl (WL.st tbk hs252 2 rfl rfl (fun _ hs253 => WL.r 1 hs253 [] rfl (WL.nil (WC.ret ?_)))))))
  refine retV2 rfl (resV.cellA tbk hs253 2 rfl rfl rfl rfl) (resV.tmp rfl) ?_
  obtain ⟨L255, hs254, ho256⟩ := ownDiskR.fl hs253 ho251 ho224 ho225
  have hs257 := (((((hs254.fb b2).fb b4).fb b6).fb b28).fb b216)
  refine ⟨⟨r51.Room, r51.Fuse, r51.Next, SlD.ofN ho251, SlD.of ho224, SlD.of ho225⟩, _, (by rw [hc]; first | done | rfl | (rw [hr0]; done) | (rw [hr0]; rfl)), (St.keep1 (hs257.fr L255)), ?_, ?_⟩
  · exact (by exact ho256)
  · rw [hdn]; unfold doD; rw [if_neg (show ¬ op.dat.Kind = 1 from (by first | assumption | (show ¬ op.Kind = 1; omega))), if_neg (show ¬ op.dat.Kind = 2 from (by first | assumption | (show ¬ op.Kind = 2; omega))), if_pos (show op.dat.Kind = 3 from k3), ← hd53]; exact DiskD.ext' rfl rfl rfl (files_set (by rw [show fAt (DiskR.dat r51).Files (fileN (DiskR.dat r51) op.dat.Name) = FileR.dat (gat encFileR r51.Files.xs (fileN (DiskR.dat r51) op.Name)) from fAt_dat hfn2]; exact FileD.ext' rfl rfl (by show ((_ : Nat) : Int) = ((_ : Nat) : Int); rw [← hyb]; rfl))) rfl rfl
 have k3 : ¬ op.Kind = 3 := by have h9 := h215; simpa using h9
 refine WC.seq (fun K258 hK258 => WC.r1 hs64 [] rfl ?_)
 refine WC.cq rfl (fun h259 qh259 => ?_) (fun h259 qh259 => ?_)
 ·have k45 : op.Kind = 4 ∨ op.Kind = 5 := by have h9 := h259; simp at h9; omega
  refine WC.skip (hK258 _ _ (WC.condT rfl h259 (WC.region (WL.r 8 hs64 [0, 2, 2, 2] rfl ?_))))
  refine WL.val rfl rfl rfl (Run.build rfl rfl rfl rfl (built_137_0_1_2 _ _ _)) (WL.buildSlice hs64 Tryz.runUnderlying32 Tryz.sizeOf137 Tryz.zeroValue137 rfl rfl rfl rfl rfl rfl rfl rfl rfl rfl (fun b261 whs262 hs262 => ?_))
  obtain ⟨L263, L264, L265, hs269, ho266, ho267, ho268⟩ := ownDiskR.op hs262 ho52
  have hs270 := (((((hs269.fb b2).fb b4).fb b6).fb b28).fb b261)
  refine WL.appendG (hs270.fr L265) ho268 (srcF (F := encTurn) (ys := [⟨op.Kind, op.Name, op.To, 0⟩]) Tryz.underlying32 rfl rfl (hs270.own _ (nthL_mem (i := 0) rfl)).1) Tryz.underlying32 inf137 rfl rfl rfl rfl rfl rfl rfl rfl rfl rfl ?_ (fun A274 c275 L271 whs272 hs272 ho273 => ?_)
  · (try simp only [List.length_append, List.length_singleton, List.length_take]); omega
  replace hs272 := St.back [_, _, _, _, _] hs272
  refine WL.r 1 hs272 [] rfl (WL.st tbk hs272 1 rfl rfl (fun _ hs276 => WL.nil (hK65 _ _ (WC.sr (WL.r 2 hs276 [1] rfl (WL.st tbk hs276 2 rfl rfl (fun _ hs277 => WL.r 1 hs277 [] rfl ?_)))))))
  refine WL.nil (WC.ret (retV2 rfl (resV.cellA tbk hs277 2 rfl rfl rfl rfl) (resV.tmp rfl) ?_))
  obtain ⟨L279, hs278, ho280⟩ := ownDiskR.fl hs277 ho266 ho267 ho273
  have hs281 := (((((hs278.fb b2).fb b4).fb b6).fb b28).fb b261)
  refine ⟨⟨r51.Room, r51.Fuse, r51.Next, SlD.ofN ho266, SlD.of ho267, SlD.of ho273⟩, _, (by rw [hc]; first | done | rfl | (rw [hr0]; done) | (rw [hr0]; rfl)), (St.keep1 (hs281.fr L279)), ?_, ?_⟩
  · exact (by exact ho280)
  · rw [hdn]; unfold doD; rw [if_neg (show ¬ op.dat.Kind = 1 from (by first | assumption | (show ¬ op.Kind = 1; omega))), if_neg (show ¬ op.dat.Kind = 2 from (by first | assumption | (show ¬ op.Kind = 2; omega))), if_neg (show ¬ op.dat.Kind = 3 from (by first | assumption | (show ¬ op.Kind = 3; omega))), if_neg (show ¬ op.dat.Kind = 6 from (by first | assumption | (show ¬ op.Kind = 6; omega))), ← hd53]; rfl
 have k45n : ¬ op.Kind = 4 := by first | assumption | (have h9 := h259; simp at h9; omega)
 refine WC.region (WL.r 2 hs64 [] rfl (WL.nil (hK258 _ _ ?_)))
 refine WC.cq rfl (fun h282 qh282 => ?_) (fun h282 qh282 => ?_)
 ·have k45 : op.Kind = 4 ∨ op.Kind = 5 := by have h9 := h282; simp at h9; omega
  refine WC.region (WL.r 8 hs64 [0, 2, 2, 2] rfl ?_)
  refine WL.val rfl rfl rfl (Run.build rfl rfl rfl rfl (built_137_0_1_2 _ _ _)) (WL.buildSlice hs64 Tryz.runUnderlying32 Tryz.sizeOf137 Tryz.zeroValue137 rfl rfl rfl rfl rfl rfl rfl rfl rfl rfl (fun b283 whs284 hs284 => ?_))
  obtain ⟨L285, L286, L287, hs291, ho288, ho289, ho290⟩ := ownDiskR.op hs284 ho52
  have hs292 := (((((hs291.fb b2).fb b4).fb b6).fb b28).fb b283)
  refine WL.appendG (hs292.fr L287) ho290 (srcF (F := encTurn) (ys := [⟨op.Kind, op.Name, op.To, 0⟩]) Tryz.underlying32 rfl rfl (hs292.own _ (nthL_mem (i := 0) rfl)).1) Tryz.underlying32 inf137 rfl rfl rfl rfl rfl rfl rfl rfl rfl rfl ?_ (fun A296 c297 L293 whs294 hs294 ho295 => ?_)
  · (try simp only [List.length_append, List.length_singleton, List.length_take]); omega
  replace hs294 := St.back [_, _, _, _, _] hs294
  refine WL.r 1 hs294 [] rfl (WL.st tbk hs294 1 rfl rfl (fun _ hs298 => WL.nil (hK65 _ _ (WC.sr (WL.r 2 hs298 [1] rfl (WL.st tbk hs298 2 rfl rfl (fun _ hs299 => WL.r 1 hs299 [] rfl ?_)))))))
  refine WL.nil (WC.ret (retV2 rfl (resV.cellA tbk hs299 2 rfl rfl rfl rfl) (resV.tmp rfl) ?_))
  obtain ⟨L301, hs300, ho302⟩ := ownDiskR.fl hs299 ho288 ho289 ho295
  have hs303 := (((((hs300.fb b2).fb b4).fb b6).fb b28).fb b283)
  refine ⟨⟨r51.Room, r51.Fuse, r51.Next, SlD.ofN ho288, SlD.of ho289, SlD.of ho295⟩, _, (by rw [hc]; first | done | rfl | (rw [hr0]; done) | (rw [hr0]; rfl)), (St.keep1 (hs303.fr L301)), ?_, ?_⟩
  · exact (by exact ho302)
  · rw [hdn]; unfold doD; rw [if_neg (show ¬ op.dat.Kind = 1 from (by first | assumption | (show ¬ op.Kind = 1; omega))), if_neg (show ¬ op.dat.Kind = 2 from (by first | assumption | (show ¬ op.Kind = 2; omega))), if_neg (show ¬ op.dat.Kind = 3 from (by first | assumption | (show ¬ op.Kind = 3; omega))), if_neg (show ¬ op.dat.Kind = 6 from (by first | assumption | (show ¬ op.Kind = 6; omega))), ← hd53]; rfl
 have k45n : ¬ op.Kind = 4 := by first | assumption | (have h9 := h282; simp at h9; omega)
 refine WC.r1 hs64 [] rfl (WC.cq rfl (fun h304 qh304 => ?_) (fun h304 qh304 => ?_))
 ·have k6 : op.Kind = 6 := by have h9 := h304; simpa using h9
  refine WC.sr (WL.r 1 hs64 [3] rfl (WL.cl Tryz.call69 rfl (k66_ d _ (okDiskR.st0 f_d hs64) ?_ ?_) ?_))
  iterate 2 first | assumption | rfl | omega | (show r51.Files.xs.length ≤ 1048576; omega) | (show (dirD d.dat).length ≤ 1048576; omega) | exact sm_kept hsmr (Nat.le_trans hdl (by decide)) hsmK
  rintro _ whs305 ⟨A306, c307, L1_308, rfl, hs305, ho309⟩
  replace hs305 := hs64.callF hs305
  refine ⟨_, rfl, ?_⟩
  replace hs305 := St.back [_, _, _, _] hs305
  refine WL.r 1 hs305 [] rfl (WL.st tbk hs305 0 rfl rfl (fun _ hs310 => WL.nil (WC.sr (WL.r 1 hs310 [] rfl (WL.st tbk hs310 0 rfl rfl (fun _ hs311 => WL.nil (WC.region ?_)))))))
  refine WL.r 1 hs311 [0] rfl ?_
  obtain ⟨L312, L313, L314, hs318, ho315, ho316, ho317⟩ := ownDiskR.op hs311 ho52
  have hs319 := ((((hs318.fb b2).fb b4).fb b6).fb b28)
  obtain ⟨L322, hs321, ho323⟩ := ownDiskR.fl hs319 ho315 ho309 (OwnF.nil _ _)
  have hs324 := ((((hs321.fb b2).fb b4).fb b6).fb b28)
  refine WL.cl Tryz.call147 rfl (k79_ ⟨r51.Room, r51.Fuse, r51.Next, SlD.ofN ho315, SlD.of ho309, ⟨none, 0, 0, []⟩⟩ _ _ (by exact ho323) (hs324.ow L322) (St.nodupL (hs324.fr L322)) ?_ ?_ ?_ ?_) ?_
  iterate 4 first | assumption | rfl | omega | (show r51.Files.xs.length ≤ 1048576; omega) | (show (dirD d.dat).length ≤ 1048576; omega) | exact sm_kept hsmr (Nat.le_trans hdl (by decide)) hsmK
  rintro _ whs325 ⟨r326, L1_327, rfl, hs325, ho328, hd329⟩
  replace hs325 := St.lend (hs324.fr L322) hs325
  refine ⟨_, rfl, ?_⟩
  replace hs325 := St.back [_, _, _, _] hs325
  refine WL.st tbk hs325 0 rfl rfl (fun _ hs330 => WL.nil (hK65 _ _ (WC.sr (WL.r 2 hs330 [0] rfl (WL.st tbk hs330 1 rfl rfl (fun _ hs331 => WL.r 1 hs331 [] rfl (WL.nil ?_)))))))
  refine WC.ret (retV2 rfl (resV.cellA tbk hs331 1 rfl rfl rfl rfl) (resV.tmp rfl) ?_)
  refine ⟨r326, _, (by rw [hc]; first | done | rfl | (rw [hr0]; done) | (rw [hr0]; rfl)), (St.keep1 (hs331.fr L1_327)), ?_, ?_⟩
  · exact ho328
  · rw [hdn]; unfold doD; rw [if_neg (show ¬ op.dat.Kind = 1 from (by first | assumption | (show ¬ op.Kind = 1; omega))), if_neg (show ¬ op.dat.Kind = 2 from (by first | assumption | (show ¬ op.Kind = 2; omega))), if_neg (show ¬ op.dat.Kind = 3 from (by first | assumption | (show ¬ op.Kind = 3; omega))), if_pos (show op.dat.Kind = 6 from k6), ← hd53]; refine (hd329).trans (DiskD.ext' rfl rfl rfl ?_ ?_ rfl) <;> (simp only [DiskR.dat] at hrd ⊢; rw [hrd])
 have k6 : ¬ op.Kind = 6 := by have h9 := h304; simpa using h9
 refine WC.skip (hK65 _ _ (WC.sr (WL.r 2 hs64 [0] rfl (WL.st tbk hs64 1 rfl rfl (fun _ hs332 => WL.r 1 hs332 [] rfl (WL.nil (WC.ret ?_)))))))
 refine retV2 rfl (resV.cellA tbk hs332 1 rfl rfl rfl rfl) (resV.tmp rfl) ?_
 refine ⟨r51, _, (by rw [hc]; first | done | rfl | (rw [hr0]; done) | (rw [hr0]; rfl)), (St.keep1 (hs332.fr L50)), ?_, ?_⟩
 · exact ho52
 · exfalso; have h9 := dop_kind hop; have h8 : 1 ≤ op.Kind ∧ op.Kind ≤ 6 := h9; omega
theorem k84_ (p : DepotR) (w : World) (f_p : okDepotR 549755813888 w p) (hb : totDisk p.dat.Disk ≤ 1048576) :
    Calls Tryz.prog 38 #[.agg #[i64 p.Disk.Room, i64 p.Disk.Fuse, i64 p.Disk.Next, .slice p.Disk.Files.A p.Disk.Files.n p.Disk.Files.c, .slice p.Disk.Kept.A p.Disk.Kept.n p.Disk.Kept.c, .slice p.Disk.Turns.A p.Disk.Turns.n p.Disk.Turns.c, i64 p.Gen, i64 p.Seq, i64 p.Size, .bool p.Stuck]] w fun e w' => e = .returned (.bool (depotOk p.dat)) ∧ St w [] [] w' := by
 have nb_p_Disk_Files := f_p.Disk.Files_n
 have nl_p_Disk_Files := f_p.Disk.Files.sl.len
 have nb_p_Disk_Kept := f_p.Disk.Kept_n
 have nl_p_Disk_Kept := f_p.Disk.Kept.len
 have nb_p_Disk_Turns := f_p.Disk.Turns_n
 have nl_p_Disk_Turns := f_p.Disk.Turns.len
 refine enter 59 Tryz.func38 rfl Tryz.ntmps38 rfl rfl ?_
 have hs1 := St.init w
 refine WC.sr (WL.bx hs1 rfl (fun b2 _ hs3 => WL.r 1 hs3 [] rfl (WL.nil (WC.seq (fun K4 hK4 => WC.sr (WL.r 2 hs3 [0] rfl ?_))))))
 refine WL.cl Tryz.call52 rfl (k34_ p.Disk _ (okDiskR.st0 f_p.Disk hs3) ?_) ?_
 · first | assumption | rfl | omega | exact hb
 rintro _ whs5 ⟨rfl, hs5⟩
 replace hs5 := hs3.call0 hs5
 refine ⟨_, rfl, WL.r 2 hs5 [] rfl (WL.pO tbk 3 Acts.nil hs5 [0] rfl rfl rfl rfl (fun g_ => ⟨rfl, trivial⟩) (WL.r 1 hs5 [] rfl (WL.pO tbk 3 Acts.nil hs5 [0] rfl rfl rfl rfl (fun g_ => ⟨rfl, trivial⟩) (WL.r 1 hs5 [] rfl (WL.pO tbk 3 Acts.nil hs5 [0] rfl rfl rfl rfl (fun g_ => ⟨rfl, trivial⟩) (WL.r 1 hs5 [] rfl ?_))))))⟩
 refine WL.pO tbk 3 Acts.nil hs5 [0] rfl rfl rfl rfl (fun g_ => ⟨rfl, trivial⟩) (WL.r 1 hs5 [] rfl (WL.pO tbk 3 Acts.nil hs5 [0] rfl rfl rfl rfl (fun g_ => ⟨rfl, trivial⟩) (WL.nil (WC.cq rfl (fun h6 qh6 => ?_) (fun h6 qh6 => ?_)))))
 ·have hA : depA p.dat = false := by rw [depA_s, h6]; rfl
  refine WC.r1 hs5 [] rfl (WC.ret (tkR ?_))
  clear hK4
  refine rtv rfl rfl hs5 ?_
  rw [depotOk_n hA]
 have hA : depA p.dat = true := by rw [depA_s, h6]; rfl
 refine WC.skip (hK4 _ _ (WC.seq (fun K7 hK7 => WC.sr (WL.r 5 hs5 [0] rfl (WL.pO tbk 2 Acts.nil hs5 [0] rfl rfl rfl rfl (fun g_ => ⟨rfl, trivial⟩) (WL.nil ?_))))))
 refine WC.cq rfl (fun h8 qh8 => ?_) (fun h8 qh8 => ?_)
 ·have hB : depB p.dat = true := h8
  refine WC.r1 hs5 [] rfl (WC.ret (tkR ?_))
  clear hK7
  refine rtv rfl rfl hs5 ?_
  rw [depotOk_b hA hB]
 have hB : depB p.dat = false := h8
 refine WC.skip (hK7 _ _ (WC.seq (fun K9 hK9 => WC.rH hs5 hs5 (fun _ hs10 => ?_))))
 refine WH.rn [0, 1, 2, 3] hs10 [0, 0] rfl rfl (WH.o1 4 rfl (WL.cl Tryz.call41 rfl (k17_ _ _) ?_))
 rintro _ whs11 ⟨rfl, hs11⟩
 replace hs11 := hs10.call0 hs11
 refine ⟨_, rfl, WL.nil ⟨hs11, WH.o1 5 rfl (WL.cl Tryz.call54 rfl (k72_ p.Disk _ _ (okDiskR.st0 f_p.Disk hs11) ?_) ?_)⟩⟩
 · first | assumption | rfl | omega | exact hb
 rintro _ whs12 ⟨A13, c14, L1_15, rfl, hs12, ho16⟩
 replace hs12 := hs11.callF hs12
 refine ⟨_, rfl, ?_⟩
 replace hs12 := St.back [_] hs12
 refine WL.nil ⟨(hs12.rm L1_15), WH.rn [6, 7, 8, 9, 10] (hs12.rm L1_15) [] rfl rfl (WH.dn (hK9 _ _ (WC.sr (WL.r 2 hs12 [] rfl (WL.pA tbk 5 Acts.nil hs12 [0] rfl rfl rfl rfl (fun g_ => ⟨rfl, trivial⟩) (WL.r 1 hs12 [] rfl ?_))))))⟩
 refine WL.nil (WC.ret (rtv rfl rfl hs12 ?_))
 rw [depotOk_c hA hB]; rfl
theorem k85_ (p : DepotR) (w : World) (f_p : okDepotR 549755813888 w p) (hb : totDisk p.dat.Disk ≤ 1048576) :
    Calls Tryz.prog 39 #[.agg #[i64 p.Disk.Room, i64 p.Disk.Fuse, i64 p.Disk.Next, .slice p.Disk.Files.A p.Disk.Files.n p.Disk.Files.c, .slice p.Disk.Kept.A p.Disk.Kept.n p.Disk.Kept.c, .slice p.Disk.Turns.A p.Disk.Turns.n p.Disk.Turns.c, i64 p.Gen, i64 p.Seq, i64 p.Size, .bool p.Stuck]] w fun e w' => ∃ r L1, e = .returned (.agg #[i64 r.Disk.Room, i64 r.Disk.Fuse, i64 r.Disk.Next, .slice r.Disk.Files.A r.Disk.Files.n r.Disk.Files.c, .slice r.Disk.Kept.A r.Disk.Kept.n r.Disk.Kept.c, .slice r.Disk.Turns.A r.Disk.Turns.n r.Disk.Turns.c, i64 r.Gen, i64 r.Seq, i64 r.Size, .bool r.Stuck]) ∧ St w [] L1 w' ∧ ownDepotR r L1 ∧ r.dat = p.dat := by
 have nb_p_Disk_Files := f_p.Disk.Files_n
 have nl_p_Disk_Files := f_p.Disk.Files.sl.len
 have nb_p_Disk_Kept := f_p.Disk.Kept_n
 have nl_p_Disk_Kept := f_p.Disk.Kept.len
 have nb_p_Disk_Turns := f_p.Disk.Turns_n
 have nl_p_Disk_Turns := f_p.Disk.Turns.len
 have hsm : smDisk 1048576 p.dat.Disk := totDisk_sm hb
 refine enter 8 Tryz.func39 rfl Tryz.ntmps39 rfl rfl ?_
 have hs1 := St.init w
 refine WC.sr (WL.bx hs1 rfl (fun b2 _ hs3 => WL.al hs3 Tryz.zeroValue36 rfl rfl (fun b4 _ hs5 => WL.nil (WC.sr (WL.r 2 hs5 [1] rfl ?_)))))
 refine WL.cl Tryz.call66 rfl (k67_ p.Disk _ (okDiskR.st0 f_p.Disk hs5) ?_) ?_
 · first | assumption | rfl | omega | exact hsm
 rintro _ whs6 ⟨r7, L1_8, rfl, hs6, ho9, hd10⟩
 replace hs6 := hs5.callF hs6
 refine ⟨_, rfl, ?_⟩
 replace hs6 := St.back [_, _] hs6
 have hcp := hd10
 refine WL.r 1 hs6 [] rfl (WL.st tbk hs6 1 rfl rfl (fun _ hs11 => WL.nil (WC.sr (WL.r 1 hs11 [1] rfl (WL.st tbk hs11 0 rfl rfl (fun _ hs12 => WL.nil (WC.ret ?_)))))))
 refine retV1 rfl (resV.cellA tbk hs12 0 rfl rfl rfl rfl) ?_
 obtain ⟨L13, L14, L15, hs19, ho16, ho17, ho18⟩ := ownDiskR.op hs12 ho9
 have hs20 := ((hs19.fb b2).fb b4)
 obtain ⟨L22, hs21, ho23⟩ := ownDepotR.fl hs20 ho16 ho17 ho18
 have hs24 := ((hs21.fb b2).fb b4)
 refine ownDepotR.ret rfl (St.keep1 (hs24.fr L22)) ho23 ?_
 · exact DepotD.ext' hcp rfl rfl rfl rfl
theorem k86_ (b_p : Nat) (p : DepotR) (L_p : Hp) (code : Int) (op_Kind : Int) (op_Name : ByteArray) (op_To : ByteArray) (A_op_Data : Option Addr) (n_op_Data c_op_Data : Nat) (op_Data : List UInt8) (w : World) (hb_p : w.heap[b_p]? = some (Obj.cells (List.toArray [i64 p.Disk.Room, i64 p.Disk.Fuse, i64 p.Disk.Next, .slice p.Disk.Files.A p.Disk.Files.n p.Disk.Files.c, .slice p.Disk.Kept.A p.Disk.Kept.n p.Disk.Kept.c, .slice p.Disk.Turns.A p.Disk.Turns.n p.Disk.Turns.c, i64 p.Gen, i64 p.Seq, i64 p.Size, .bool p.Stuck]) 36 (0, 0))) (o_p : ownDepotR p L_p) (h_p : Hh w L_p) (f_op_Data : SlF encB w A_op_Data n_op_Data op_Data) (hcd : n_op_Data ≤ c_op_Data) (hd_ : (b_p :: L_p.map (·.1)).Nodup) (s_op_Data : 0 < n_op_Data → (adr A_op_Data).block ∉ (b_p :: L_p.map (·.1))) (hb : totDisk p.dat.Disk ≤ 1048576) (hsm : smDepot 549755813888 p.dat) (hz1 : op_Name.size ≤ 549755813888) (hz2 : op_To.size ≤ 549755813888) (hz3 : n_op_Data ≤ 549755813888) :
    Calls Tryz.prog 40 #[.pointer (some ⟨b_p, 0, none⟩), i64 code, .agg #[i64 op_Kind, .string op_Name, .string op_To, .slice A_op_Data n_op_Data c_op_Data]] w fun e w' => ∃ r L1, e = .returned (.int .i64 (stepC p.dat.Disk code (⟨op_Kind, op_Name, op_To, op_Data⟩ : DiskOpD))) ∧ St w (b_p :: L_p.map (·.1)) ([(b_p, Obj.cells (List.toArray [i64 r.Disk.Room, i64 r.Disk.Fuse, i64 r.Disk.Next, .slice r.Disk.Files.A r.Disk.Files.n r.Disk.Files.c, .slice r.Disk.Kept.A r.Disk.Kept.n r.Disk.Kept.c, .slice r.Disk.Turns.A r.Disk.Turns.n r.Disk.Turns.c, i64 r.Gen, i64 r.Seq, i64 r.Size, .bool r.Stuck]) 36 (0, 0))] ++ L1) w' ∧ ownDepotR r L1 ∧ r.dat = ({ p.dat with Disk := stepD p.dat.Disk code (⟨op_Kind, op_Name, op_To, op_Data⟩ : DiskOpD) } : DepotD) := by
 have nl9 := f_op_Data.len
 refine enter 26 Tryz.func40 rfl Tryz.ntmps40 rfl rfl ?_
 have hs1 := St.takeP w b_p _ L_p hb_p h_p hd_
 refine WC.sr (WL.bx hs1 rfl (fun b2 _ hs3 => WL.r 1 hs3 [] rfl (WL.nil (WC.seq (fun K4 hK4 => WC.r1 hs3 [] rfl ?_)))))
 refine WC.cq rfl (fun h5 qh5 => ?_) (fun h5 qh5 => ?_)
 ·have hc : ¬ code = 0 := by have h9 := h5; simpa using h9
  refine WC.r1 hs3 [] rfl (WC.ret (tkR ?_))
  clear hK4
  refine retV1 rfl (resV.tmp rfl) ?_
  refine ⟨p, _, (by unfold stepC; rw [if_neg hc]), St.keepP (L1 := L_p) ((hs3.fr L_p).fb b_p), o_p, ?_⟩
  · exact DepotD.ext' (by unfold stepD; rw [if_neg hc]) rfl rfl rfl rfl
 have hc : code = 0 := by have h9 := h5; simpa using h9
 refine WC.skip (hK4 _ _ (WC.seq (fun K6 hK6 => ?_)))
 refine WC.jR2 7 8 (Value.int .i64 (doneC p.dat.Disk (⟨op_Kind, op_Name, op_To, op_Data⟩ : DiskOpD))) [0, 1, 2, 6, 9, 10] rfl hs3 (fun o_ L_ => ∃ r : DiskR, o_ = Obj.cells (List.toArray [i64 r.Room, i64 r.Fuse, i64 r.Next, .slice r.Files.A r.Files.n r.Files.c, .slice r.Kept.A r.Kept.n r.Kept.c, .slice r.Turns.A r.Turns.n r.Turns.c]) 34 (0, 0) ∧ ownDiskR r L_ ∧ r.dat = doneD p.dat.Disk (⟨op_Kind, op_Name, op_To, op_Data⟩ : DiskOpD)) ?_ ?_
 ·refine WC.rG 10 hs3 hs3 hs3 (fun _ hs7 => ?_)
  refine WG.rn [0, 1, 2, 3, 4] hs7 [1, 0] rfl rfl (WG.all [5, 9] (by kernel_rfl) rfl (WGs.cons (i := 5) rfl rfl ?_ (WGs.cons (i := 9) rfl rfl ?_ WGs.nil)))
  ·refine WL.cl Tryz.call86 rfl (k83_ p.Disk ⟨_, _, _, ⟨_, _, _, _⟩⟩ _ (ownDepotR.ok (B := 549755813888) o_p (hs7.ow L_p) (by assumption)).Disk ⟨(by first | assumption | omega), (by first | assumption | omega), (SlF.st f_op_Data hs7 s_op_Data), (by first | assumption | omega | simp), (by first | assumption | omega | (simp; omega) | simp)⟩ ?_) ?_
   · first | assumption | rfl | omega | exact hb
   rintro _ whs8 ⟨r9, L1_10, rfl, hs8, ho11, hd12⟩
   replace hs8 := hs7.callF hs8
   refine ⟨_, rfl, ?_⟩
   replace hs8 := St.back [_, _] hs8
   refine WL.nil ⟨(hs8.rm L1_10), WG.rn [6, 7, 8] (hs8.rm L1_10) [] rfl rfl (WG.o1 9 rfl rfl (WL.al hs8 Tryz.zeroValue34 rfl rfl (fun b13 _ hs14 => WL.nil ⟨(hs14.d1.rm L1_10), WG.oK rfl (WL.st tbk hs14 0 rfl rfl (fun _ hs15 => WL.nil ⟨(hs15.d1.rm L1_10), ?_⟩))⟩)))⟩
   refine WH.rn [11] (hs15.d1.rm L1_10) [] rfl rfl (WH.dn (⟨rfl, b13, _, _, (((((hs15.fr L_p).fb b_p).fb b2).fr L1_10).fb b13), ⟨r9, rfl, ho11, by exact hd12⟩, ⟨rfl, by rfl, sbF rfl⟩⟩))
  refine WL.al hs7 Tryz.zeroValue34 rfl rfl (fun b16 _ hs17 => WL.nil ⟨hs17.d1, WG.o1 5 rfl rfl ?_⟩)
  refine WL.cl Tryz.call86 rfl (k83_ p.Disk ⟨_, _, _, ⟨_, _, _, _⟩⟩ _ (ownDepotR.ok (B := 549755813888) o_p (hs17.ow L_p) (by assumption)).Disk ⟨(by first | assumption | omega), (by first | assumption | omega), (SlF.st f_op_Data hs17 s_op_Data), (by first | assumption | omega | simp), (by first | assumption | omega | (simp; omega) | simp)⟩ ?_) ?_
  · first | assumption | rfl | omega | exact hb
  rintro _ whs18 ⟨r19, L1_20, rfl, hs18, ho21, hd22⟩
  replace hs18 := hs17.callF hs18
  refine ⟨_, rfl, ?_⟩
  replace hs18 := St.back [_, _, _] hs18
  refine WL.nil ⟨(hs18.d1.rm L1_20), WG.rn [6, 7, 8] (hs18.d1.rm L1_20) [] rfl rfl (WG.oK rfl (WL.st tbk hs18 0 rfl rfl (fun _ hs23 => WL.nil ⟨(hs23.d1.rm L1_20), WH.rn [11] (hs23.d1.rm L1_20) [] rfl rfl (WH.dn (⟨rfl, b16, _, _, (((((hs23.fr L_p).fb b_p).fb b2).fr L1_20).fb b16), ⟨r19, rfl, ho21, by exact hd22⟩, ⟨rfl, by rfl, sbF rfl⟩⟩))⟩)))⟩
 rintro b24 _ L25 _ ⟨r26, rfl, ho27, hd28⟩ hs29 _ hf30
 have hs31 := (((hs29.fb b_p).fb b2).fb b24)
 have hdo := hd28
 refine hK6 _ _ (WC.sub _ hf30 (WC.sr (WL.r 4 hs31 [0] rfl (WL.st tbk hs31 2 rfl rfl (fun _ hs32 => WL.nil (WC.r1 hs32 [] rfl (WC.ret ?_)))))))
 refine retV1 rfl (resV.tmp rfl) ?_
 obtain ⟨L33, L34, L35, hs39, ho36, ho37, ho38⟩ := ownDiskR.op hs32 ho27
 have hs40 := (((hs39.fb b_p).fb b2).fb b24)
 obtain ⟨L42, hs41, ho43⟩ := ownDepotR.fl hs40 ho36 ho37 ho38
 have hs44 := (((hs41.fb b_p).fb b2).fb b24)
 refine ownDepotR.retp (by unfold stepC; rw [if_pos hc]; first | done | rfl) ((hs44.fr L42).fb b_p) ho43 ?_
 · exact DepotD.ext' (by unfold stepD; rw [if_pos hc]; exact hdo) rfl rfl rfl rfl
theorem var_back (n : Nat) (X : List UInt8) : contLen (varL n ++ X) + 1 = (varL n).length ∧ valL (varL n) = n := by
 induction n using Nat.strongRecOn with
 | _ n ih =>
  by_cases h : n < 128
  ·rw [varL_small h]
   have e : (UInt8.ofNat n).toNat = n := by rw [UInt8.toNat_ofNat', Nat.mod_eq_of_lt (by omega)]
   refine ⟨?_, ?_⟩
   ·show (if 128 ≤ (UInt8.ofNat n).toNat then _ else 0) + 1 = 1
    rw [e, if_neg (by omega)]
   ·show (UInt8.ofNat n).toNat % 128 + 128 * 0 = n
    rw [e]; omega
  ·rw [varL_big h]
   have e : (UInt8.ofNat (n % 128 + 128)).toNat = n % 128 + 128 := by rw [UInt8.toNat_ofNat', Nat.mod_eq_of_lt (by omega)]
   obtain ⟨h1, h2⟩ := ih (n / 128) (by omega)
   refine ⟨?_, ?_⟩
   ·show (if 128 ≤ (UInt8.ofNat (n % 128 + 128)).toNat then contLen (varL (n / 128) ++ X) + 1 else 0) + 1 = (varL (n / 128)).length + 1
    rw [e, if_pos (by omega), h1]
   ·show (UInt8.ofNat (n % 128 + 128)).toNat % 128 + 128 * valL (varL (n / 128)) = n
    rw [e, h2]; omega
theorem getL_var {n : Nat} {X : List UInt8} (h : n ≤ 4294967295) : getL (varL n ++ X) = some (n, (varL n).length) := by
 obtain ⟨h1, h2⟩ := var_back n X
 have h3 := varL_len n (by omega)
 have ht : (varL n ++ X).take (contLen (varL n ++ X) + 1) = varL n := by rw [h1, List.take_left']; rfl
 unfold getL
 rw [ht, h2, h1, if_pos ⟨by omega, by rw [List.length_append]; omega, h, rfl⟩]
theorem getAt_var {b X : List UInt8} {p n : Nat} (h : b.drop p = varL n ++ X) (hp : p ≤ b.length) (hn : n ≤ 4294967295) : getAt b (p : Int) = some (n, (varL n).length) := by
 rw [getAt_in (by omega), Int.toNat_natCast, h, getL_var hn]
theorem drop_next {b A X : List UInt8} {p : Nat} (h : b.drop p = A ++ X) (hp : p ≤ b.length) : b.drop (p + A.length) = X ∧ p + A.length ≤ b.length := by
 have hl := congrArg List.length h
 rw [List.length_drop, List.length_append] at hl
 refine ⟨?_, by omega⟩
 rw [← List.drop_drop, h, List.drop_left']
 rfl
theorem ok_mk {d : DiskD} (hb : diskBnd d = true) (hl : diskLen d = true) (hf : filesOk d.Next d.Files = true) (hk : keptOk d.Kept = true) (hi : idsOk (idsD d) (fileIds d) = true) (hr : runI d.Kept d.Turns = true) : diskOk d = true := by
 rw [← disk_same]
 unfold diskOkI
 have e := ids_same (ids := idsD d) (fs := fileIds d) (files_asc hf).1
 rw [hb, hl, hf, hk, e, hi, hr]; rfl
theorem filesOk_iff {nx : Int} {l : List FileD} : filesOk nx l = true ↔ (l.map (·.Id)).Pairwise (· < ·) ∧ ∀ f, f ∈ l → (1 ≤ f.Id ∧ f.Id < nx) ∧ 0 ≤ f.Safe ∧ f.Safe ≤ (f.Body.length : Int) := by
 have hg : ∀ j (hj : j < l.length), fAt l j = l[j] := fun j hj => by unfold fAt; rw [List.getD_eq_getElem?_getD, List.getElem?_eq_getElem hj]; rfl
 constructor
 ·intro h
  refine ⟨(files_asc h).1, fun f hf => ?_⟩
  obtain ⟨i, hi, rfl⟩ := List.mem_iff_getElem.1 hf
  have h1 := range_get h hi
  unfold fileOkAt at h1
  rw [hg i hi] at h1
  simp only [Bool.and_eq_true, decide_eq_true_eq] at h1
  exact ⟨h1.1.1, h1.2⟩
 ·rintro ⟨h1, h2⟩
  refine range_all fun i hi => ?_
  have h3 := h2 _ (List.getElem_mem hi)
  unfold fileOkAt
  rw [hg i hi]
  simp only [Bool.and_eq_true, Bool.or_eq_true, decide_eq_true_eq]
  refine ⟨⟨h3.1, ?_⟩, h3.2⟩
  rcases Nat.eq_zero_or_pos i with h | h
  ·exact .inl h
  ·refine .inr ?_
   rw [hg (i - 1) (by omega)]
   have h4 := List.pairwise_iff_getElem.1 h1 (i - 1) i (by rw [List.length_map]; omega) (by rw [List.length_map]; exact hi) (by omega)
   simpa using h4
theorem keptOk_mk {l : List LinkD} (h : sortedL l) (hn : ∀ x, x ∈ l → nameOk x.Name = true) : keptOk l = true := by
 refine range_all fun i hi => ?_
 unfold keptOkAt
 rw [link_gat hi, hn _ (List.getElem_mem hi), Bool.true_and]
 rcases Nat.eq_zero_or_pos i with h0 | h0
 ·rw [decide_eq_true h0]; rfl
 ·rw [link_gat (show i - 1 < l.length by omega), decide_eq_true (List.pairwise_iff_getElem.1 h (i - 1) i (by omega) hi (by omega)), Bool.or_true]
theorem kept_names {l : List LinkD} (h : keptOk l = true) {x : LinkD} (hx : x ∈ l) : nameOk x.Name = true := by
 obtain ⟨i, hi, rfl⟩ := List.mem_iff_getElem.1 hx
 have h1 := range_get h hi
 unfold keptOkAt at h1
 rw [link_gat hi, Bool.and_eq_true] at h1
 exact h1.1
theorem isTurn_names {t : TurnD} (h : isTurn t = true) : nameOk t.Name = true ∧ (t.Kind = 4 → nameOk t.To = true) ∧ (¬ t.Kind = 4 → t.To = noName) := by
 unfold isTurn at h
 split at h
 ·rename_i k; rw [Bool.and_eq_true, decide_eq_true_eq] at h; exact ⟨h.1, fun k4 => by omega, fun _ => h.2⟩
 ·split at h
  ·rename_i k4; simp only [Bool.and_eq_true] at h; exact ⟨h.1.1, fun _ => h.1.2, fun k => absurd k4 k⟩
  ·split at h
   ·rename_i k4 _; simp only [Bool.and_eq_true, decide_eq_true_eq] at h; exact ⟨h.1.1, fun k => absurd k k4, fun _ => h.1.2⟩
   ·cases h
theorem turn_names {dir : List LinkD} {t : TurnD} (h : ∀ x, x ∈ dir → nameOk x.Name = true) (ht : isTurn t = true) : ∀ x, x ∈ turnL dir t → nameOk x.Name = true := by
 obtain ⟨h1, h2, _⟩ := isTurn_names ht
 intro x hx
 unfold turnL at hx
 split at hx
 ·rcases withL_mem hx with rfl | hx
  ·exact h1
  ·exact h x hx
 ·split at hx
  ·rename_i k4
   rcases withL_mem hx with rfl | hx
   ·exact h2 k4
   ·exact h x (lessL_all (lessL_all hx).1).1
  ·exact h x (lessL_all hx).1
theorem turns_names : ∀ {l : List TurnD} {dir : List LinkD}, (∀ x, x ∈ dir → nameOk x.Name = true) → runI dir l = true → ∀ x, x ∈ turnsL dir l → nameOk x.Name = true
 | [], _, h, _ => h
 | t :: r, dir, h, hr => by
  unfold runI at hr
  simp only [Bool.and_eq_true] at hr
  exact turns_names (l := r) (dir := turnL dir t) (turn_names h hr.1.1) hr.2
theorem run_turns : ∀ {l : List TurnD} {dir : List LinkD}, runI dir l = true → ∀ t, t ∈ l → isTurn t = true
 | [], _, _, _, ht => absurd ht List.not_mem_nil
 | t :: r, dir, h, q, hq => by
  unfold runI at h
  simp only [Bool.and_eq_true] at h
  rcases List.mem_cons.1 hq with rfl | hq
  ·exact h.1.1
  ·exact run_turns h.2 q hq
theorem DOk.names {d : DiskD} (h : DOk d) : ∀ x, x ∈ dirD d → nameOk x.Name = true := turns_names (fun _ hx => kept_names h.kept hx) h.runi
theorem nameOk_size {n : ByteArray} (h : nameOk n = true) : n.size ≤ 16 := by
 unfold nameOk isPlain at h
 rw [Bool.and_eq_true, within_iff] at h
 omega
theorem withL_perm {n : ByteArray} {id : Int} : ∀ {dir : List LinkD}, (withL dir n id).Perm (⟨n, id⟩ :: dir)
 | [] => List.Perm.refl _
 | x :: r => by
  unfold withL
  split
  ·exact List.Perm.refl _
  ·exact ((withL_perm (dir := r)).cons x).trans (List.Perm.swap _ _ _)
theorem sub_len {l m : List Int} (h : l.Nodup) (hs : ∀ n, n ∈ l → n ∈ m) : l.length ≤ m.length := by
 rcases Nat.lt_or_ge m.length l.length with h1 | h1
 ·have := (perm_sub h hs (by omega)).length_eq
  omega
 ·exact h1
theorem turn_nodup {dir : List LinkD} {t : TurnD} (h : (dir.map (·.Id) ++ made [t]).Nodup) (ha : appOk dir t = true) : ((turnL dir t).map (·.Id)).Nodup := by
 obtain ⟨h1, _, h3⟩ := List.nodup_append.1 h
 unfold turnL
 split
 ·rename_i k
  have hm : t.Id ∈ made [t] := mem_made List.mem_cons_self k
  refine ((withL_perm (n := t.Name) (id := t.Id) (dir := dir)).map (·.Id)).nodup_iff.2 ?_
  rw [List.map_cons, List.nodup_cons]
  exact ⟨fun hx => h3 _ hx _ hm rfl, h1⟩
 ·rename_i k
  unfold appOk at ha
  rw [if_neg k, Bool.and_eq_true] at ha
  split
  ·refine ((withL_perm (n := t.To) (id := findL dir t.Name) (dir := lessL (lessL dir t.Name) t.To)).map (·.Id)).nodup_iff.2 ?_
   rw [List.map_cons, List.nodup_cons]
   refine ⟨fun hx => ?_, ?_⟩
   ·obtain ⟨y, hy, e⟩ := List.mem_map.1 hx
    obtain ⟨z, hz, hn, ez⟩ := findL_mem ha.1
    obtain ⟨hy1, hy2⟩ := lessL_all (lessL_all hy).1
    obtain ⟨i, hi, rfl⟩ := List.mem_iff_getElem.1 hy1
    obtain ⟨j, hj, rfl⟩ := List.mem_iff_getElem.1 hz
    have e2 : dir[i].Id = dir[j].Id := e.trans ez
    have hij : i ≠ j := fun hh => by subst hh; exact hy2 hn
    have hp := List.pairwise_iff_getElem.1 h1
    rcases Nat.lt_or_ge i j with h9 | h9
    ·have := hp i j (by rw [List.length_map]; exact hi) (by rw [List.length_map]; exact hj) h9
     rw [List.getElem_map, List.getElem_map] at this
     exact this e2
    ·have := hp j i (by rw [List.length_map]; exact hj) (by rw [List.length_map]; exact hi) (by omega)
     rw [List.getElem_map, List.getElem_map] at this
     exact this e2.symm
   ·exact h1.sublist ((List.filter_sublist.trans List.filter_sublist).map _)
  ·exact h1.sublist (List.filter_sublist.map _)
theorem turns_nodup : ∀ {l : List TurnD} {dir : List LinkD}, runI dir l = true → (dir.map (·.Id) ++ made l).Nodup → ((turnsL dir l).map (·.Id)).Nodup
 | [], dir, _, h => by
  have h1 : made [] = [] := rfl
  rw [h1, List.append_nil] at h; exact h
 | t :: r, dir, hr, h => by
  unfold runI at hr
  simp only [Bool.and_eq_true] at hr
  rw [made_cons, ← List.append_assoc] at h
  obtain ⟨h1, h2, h3⟩ := List.nodup_append.1 h
  refine turns_nodup (l := r) (dir := turnL dir t) hr.2 ?_
  refine List.nodup_append.2 ⟨turn_nodup h1 hr.1.2, h2, fun a ha b hb => ?_⟩
  obtain ⟨x, hx, rfl⟩ := List.mem_map.1 ha
  exact h3 _ (turn_ids hr.1.2 hx) b hb
theorem DOk.nodup {d : DiskD} (h : DOk d) : ((dirD d).map (·.Id)).Nodup := turns_nodup h.runi (idsOk_iff.1 h.ids).2.1
theorem DOk.dirLen {d : DiskD} (h : DOk d) : (dirD d).length ≤ d.Files.length := by
 have h1 := sub_len (m := fileIds d) h.nodup fun n hn => by
  obtain ⟨x, hx, rfl⟩ := List.mem_map.1 hn
  exact h.mem hx
 unfold fileIds at h1
 rw [List.length_map, List.length_map] at h1
 exact h1
theorem usedF_append (l m : List FileD) : usedF (l ++ m) = usedF l + usedF m := by unfold usedF; rw [List.map_append, List.sum_append]
theorem usedF_set : ∀ {l : List FileD} {k : Nat} {f : FileD}, k < l.length → usedF (l.set k f) + (fAt l k).Body.length = usedF l + f.Body.length
 | [], _, _, h => absurd h (Nat.not_lt_zero _)
 | x :: r, 0, f, _ => by
  show (f.Body.length + usedF r) + x.Body.length = (x.Body.length + usedF r) + f.Body.length
  omega
 | x :: r, k + 1, f, h => by
  have := usedF_set (l := r) (k := k) (f := f) (by simpa using h)
  show (x.Body.length + usedF (r.set k f)) + (fAt r k).Body.length = (x.Body.length + usedF r) + f.Body.length
  omega
theorem usedF_filter (p : FileD → Bool) : ∀ {l : List FileD}, usedF (l.filter p) ≤ usedF l
 | [] => Nat.le_refl _
 | x :: r => by
  have := usedF_filter p (l := r)
  rw [List.filter_cons]
  split
  ·show x.Body.length + usedF (r.filter p) ≤ x.Body.length + usedF r
   omega
  ·show usedF (r.filter p) ≤ x.Body.length + usedF r
   omega
theorem ids_set {l : List FileD} {k : Nat} {f : FileD} (h : f.Id = (fAt l k).Id) (hk : k < l.length) : (l.set k f).map (·.Id) = l.map (·.Id) := by
 rw [List.map_set]
 have e : (l.map (·.Id))[k]? = some f.Id := by
  rw [List.getElem?_map, List.getElem?_eq_getElem hk, h]
  unfold fAt
  rw [List.getD_eq_getElem?_getD, List.getElem?_eq_getElem hk]; rfl
 refine List.ext_getElem? fun i => ?_
 rw [List.getElem?_set]
 split
 ·rename_i hi
  subst hi
  rw [e]; simp [hk]
 ·rfl
theorem fAt_mem {l : List FileD} {k : Nat} (h : k < l.length) : fAt l k ∈ l := by
 unfold fAt
 rw [List.getD_eq_getElem?_getD, List.getElem?_eq_getElem h]
 exact List.getElem_mem h
theorem ok_set {d : DiskD} (h : diskOk d = true) {k : Nat} (hk : k < d.Files.length) {f : FileD} (h1 : f.Id = (fAt d.Files k).Id) (h2 : 0 ≤ f.Safe ∧ f.Safe ≤ (f.Body.length : Int)) (h3 : (f.Body.length : Int) ≤ (fAt d.Files k).Body.length + (d.Room - usedF d.Files)) : diskOk { d with Files := d.Files.set k f } = true := by
 have hD := diskOk_P h
 have hS := hD.small
 have hR := hD.room
 have hu := usedF_set (f := f) hk
 refine ok_mk hD.bnd ?_ ?_ hD.kept ?_ hD.runi
 ·unfold diskLen
  simp only [Bool.and_eq_true, decide_eq_true_eq, List.length_set]
  exact ⟨⟨⟨hS.1, hS.2.1⟩, hS.2.2.1⟩, by omega⟩
 ·obtain ⟨g1, g2⟩ := filesOk_iff.1 hD.files
  refine filesOk_iff.2 ⟨by rw [ids_set h1 hk]; exact g1, fun x hx => ?_⟩
  rcases List.mem_or_eq_of_mem_set hx with hx | rfl
  ·exact g2 x hx
  ·have := (g2 _ (fAt_mem hk)).1
   rw [← h1] at this
   exact ⟨this, h2⟩
 ·have e : fileIds { d with Files := d.Files.set k f } = fileIds d := ids_set h1 hk
  rw [e]; exact hD.ids
theorem ok_turn {d : DiskD} (h : diskOk d = true) {t : TurnD} (h1 : isTurn t = true) (h2 : appOk (dirD d) t = true) (h3 : d.Turns.length < 30) (h4 : ¬ t.Kind = 1) : diskOk { d with Turns := d.Turns ++ [t] } = true := by
 have hD := diskOk_P h
 have hS := hD.small
 have hm : made (d.Turns ++ [t]) = made d.Turns := by
  unfold made
  rw [List.filter_append, List.filter_cons_of_neg (by simpa using h4), List.filter_nil, List.append_nil]
 refine ok_mk hD.bnd ?_ hD.files hD.kept ?_ ?_
 ·have hl := hD.len
  unfold diskLen at hl ⊢
  simp only [Bool.and_eq_true, decide_eq_true_eq, List.length_append, List.length_cons, List.length_nil] at hl ⊢
  exact ⟨⟨hl.1.1, by omega⟩, hl.2⟩
 ·have e : idsD { d with Turns := d.Turns ++ [t] } = idsD d := congrArg (fun l => d.Kept.map (·.Id) ++ l) hm
  rw [e]; exact hD.ids
 ·rw [runI_app, hD.runi, Bool.true_and]
  unfold runI
  rw [h1, show appOk (turnsL d.Kept d.Turns) t = true from h2]; rfl
theorem ok_make {d : DiskD} (h : diskOk d = true) {n : ByteArray} (h1 : nameOk n = true) (h2 : hasN (dirD d) n = false) (h3 : d.Turns.length < 30) (h4 : d.Files.length < 10) (h5 : d.Next < 1000000) :
  diskOk { d with Next := d.Next + 1, Files := d.Files ++ [⟨d.Next, [], 0⟩], Turns := d.Turns ++ [⟨1, n, noName, d.Next⟩] } = true := by
 have hD := diskOk_P h
 have hS := hD.small
 obtain ⟨g1, g2⟩ := filesOk_iff.1 hD.files
 have hlt : ∀ a, a ∈ fileIds d → a < d.Next := fun a ha => by
  obtain ⟨f, hf, rfl⟩ := List.mem_map.1 ha
  exact (g2 f hf).1.2
 refine ok_mk ?_ ?_ ?_ hD.kept ?_ ?_
 ·have hb := hD.bnd
  unfold diskBnd at hb ⊢
  simp only [Bool.and_eq_true, within_iff] at hb ⊢
  exact ⟨hb.1, by omega⟩
 ·have hl := hD.len
  unfold diskLen at hl ⊢
  simp only [Bool.and_eq_true, decide_eq_true_eq, List.length_append, List.length_cons, List.length_nil] at hl ⊢
  refine ⟨⟨⟨by omega, hl.1.1.2⟩, by omega⟩, ?_⟩
  rw [usedF_append, show usedF [(⟨d.Next, [], 0⟩ : FileD)] = 0 from rfl]
  exact hl.2
 ·refine filesOk_iff.2 ⟨?_, fun x hx => ?_⟩
  ·rw [List.map_append, List.pairwise_append]
   refine ⟨g1, List.pairwise_singleton _ _, fun a ha b hb => ?_⟩
   rw [List.mem_singleton.1 hb]
   exact hlt a ha
  ·rcases List.mem_append.1 hx with hx | hx
   ·have := g2 x hx
    exact ⟨⟨this.1.1, by show x.Id < d.Next + 1; omega⟩, this.2⟩
   ·rw [List.mem_singleton.1 hx]
    exact ⟨⟨hS.2.2.2.2.1, by show d.Next < d.Next + 1; omega⟩, Int.le_refl _, Int.le_refl _⟩
 ·obtain ⟨i1, i2, i3⟩ := idsOk_iff.1 hD.ids
  have e1 : idsD { d with Next := d.Next + 1, Files := d.Files ++ [⟨d.Next, [], 0⟩], Turns := d.Turns ++ [⟨1, n, noName, d.Next⟩] } = idsD d ++ [d.Next] := by
   show d.Kept.map (·.Id) ++ made (d.Turns ++ [_]) = _
   unfold made
   rw [List.filter_append, List.map_append, ← List.append_assoc]
   first | done | rfl
  have e2 : fileIds { d with Next := d.Next + 1, Files := d.Files ++ [⟨d.Next, [], 0⟩], Turns := d.Turns ++ [⟨1, n, noName, d.Next⟩] } = fileIds d ++ [d.Next] := by
   unfold fileIds; rw [List.map_append]; rfl
  rw [e1, e2]
  refine idsOk_iff.2 ⟨(by rw [List.length_append, List.length_append]; exact congrArg (· + 1) i1), List.nodup_append.2 ⟨i2, List.pairwise_singleton _ _, fun a ha b hb => ?_⟩, fun a ha => ?_⟩
  ·rw [List.mem_singleton.1 hb]
   exact Int.ne_of_lt (hlt a (i3 a ha))
  ·rcases List.mem_append.1 ha with ha | ha
   ·exact List.mem_append_left _ (i3 a ha)
   ·exact List.mem_append_right _ ha
 ·rw [runI_app, hD.runi, Bool.true_and]
  unfold runI
  have e1 : isTurn (⟨1, n, noName, d.Next⟩ : TurnD) = true := by
   show (nameOk n && decide (noName = noName)) = true
   rw [h1]; simp
  have e2 : appOk (turnsL d.Kept d.Turns) (⟨1, n, noName, d.Next⟩ : TurnD) = true := by
   show (!hasN (dirD d) n) = true
   rw [h2]; rfl
  rw [e1, e2]; rfl
theorem ok_sync {d : DiskD} (h : diskOk d = true) : diskOk { d with Files := onlyL (dirD d) d.Files, Kept := dirD d, Turns := [] } = true := by
 have hD := diskOk_P h
 have hS := hD.small
 obtain ⟨g1, g2⟩ := filesOk_iff.1 hD.files
 have hn := hD.nodup
 have hl := hD.dirLen
 have hsub : (onlyL (dirD d) d.Files).Sublist d.Files := List.filter_sublist
 have hids : ∀ a, a ∈ (dirD d).map (·.Id) → a ∈ (onlyL (dirD d) d.Files).map (·.Id) := fun a ha => by
  obtain ⟨x, hx, rfl⟩ := List.mem_map.1 ha
  obtain ⟨f, hf, e⟩ := List.mem_map.1 (hD.mem hx)
  exact List.mem_map.2 ⟨f, List.mem_filter.2 ⟨hf, List.any_eq_true.2 ⟨x, hx, decide_eq_true e.symm⟩⟩, e⟩
 have hids2 : ∀ a, a ∈ (onlyL (dirD d) d.Files).map (·.Id) → a ∈ (dirD d).map (·.Id) := fun a ha => by
  obtain ⟨f, hf, rfl⟩ := List.mem_map.1 ha
  obtain ⟨x, hx, e⟩ := List.any_eq_true.1 (List.mem_filter.1 hf).2
  exact List.mem_map.2 ⟨x, hx, of_decide_eq_true e⟩
 have hasc : ((onlyL (dirD d) d.Files).map (·.Id)).Pairwise (· < ·) := g1.sublist (hsub.map _)
 refine ok_mk hD.bnd ?_ ?_ ?_ ?_ rfl
 ·have hb := hD.len
  have hu := usedF_filter (fun f => (dirD d).any fun l => decide (l.Id = f.Id)) (l := d.Files)
  have hfl := hsub.length_le
  unfold diskLen at hb ⊢
  simp only [Bool.and_eq_true, decide_eq_true_eq] at hb ⊢
  refine ⟨⟨⟨?_, ?_⟩, ?_⟩, ?_⟩
  ·show (onlyL (dirD d) d.Files).length ≤ 10; omega
  ·show (dirD d).length ≤ 10; omega
  ·exact Nat.zero_le _
  ·show (usedF (onlyL (dirD d) d.Files) : Int) ≤ d.Room
   unfold onlyL; omega
 ·exact filesOk_iff.2 ⟨hasc, fun f hf => g2 f (hsub.subset hf)⟩
 ·exact keptOk_mk (sorted_turns hD.sorted hD.runi) hD.names
 ·have e1 : idsD { d with Files := onlyL (dirD d) d.Files, Kept := dirD d, Turns := [] } = (dirD d).map (·.Id) := by
   show (dirD d).map (·.Id) ++ made [] = _
   rw [show made [] = [] from rfl, List.append_nil]
  rw [e1]
  refine idsOk_iff.2 ⟨?_, hn, hids⟩
  exact Nat.le_antisymm (sub_len hn hids) (sub_len (asc_nodup hasc) hids2)
theorem dop_names {op : DiskOpD} (h : dopOk op = true) : (op.Kind ≠ 6 → nameOk op.Name = true) ∧ (op.Kind = 4 → nameOk op.To = true) ∧ (op.Kind ≠ 4 → op.To = noName) := by
 unfold dopOk at h
 simp only [Bool.and_eq_true] at h
 obtain ⟨_, ⟨⟨h1, h2⟩, _⟩, _⟩ := h
 unfold opName at h1
 unfold opTo at h2
 refine ⟨fun k => by rw [if_neg k] at h1; exact h1, fun k => by rw [if_pos k] at h2; exact h2, fun k => by rw [if_neg k] at h2; exact of_decide_eq_true h2⟩
theorem refuse_not {d : DiskD} {op : DiskOpD} (h : refuse d op = 0) : ¬ fourD d op := by
 intro h4
 unfold refuse at h
 split at h
 ·cases h
 ·split at h
  ·cases h
  ·split at h
   ·cases h
   ·rename_i h5; exact h5 h4
theorem doD_ok {d : DiskD} {op : DiskOpD} (h : diskOk d = true) (ho : dopOk op = true) (hh : op.Kind ≠ 6 → hasN (dirD d) op.Name = !decide (op.Kind = 1)) (h4 : ¬ fourD d op) : diskOk (doD d op) = true := by
 have hD := diskOk_P h
 have hS := hD.small
 have hK := dop_kind ho
 obtain ⟨n1, n2, n3⟩ := dop_names ho
 unfold fourD at h4
 rw [not_or, not_or] at h4
 obtain ⟨f1, f2, f3⟩ := h4
 unfold doD
 split
 ·rename_i k
  have hh1 := hh (by omega)
  rw [decide_eq_true k] at hh1
  refine ok_make h (n1 (by omega)) hh1 ?_ ?_ ?_
  ·have : ¬ d.Turns.length = 30 := fun e => f2 ⟨by unfold turnK; rw [k]; rfl, e⟩
   omega
  ·have : ¬ d.Files.length = 10 := fun e => f1 ⟨k, .inl e⟩
   omega
  ·have : ¬ d.Next = 1000000 := fun e => f1 ⟨k, .inr e⟩
   omega
 ·rename_i k1
  split
  ·rename_i k
   have hh1 := hh (by omega)
   rw [decide_eq_false k1] at hh1
   have hat := (hD.at hh1).1
   have hr := hD.room.1
   have hf := (filesOk_iff.1 hD.files).2 _ (fAt_mem hat)
   refine ok_set h hat rfl ?_ ?_
   ·show 0 ≤ (fAt d.Files (fileN d op.Name)).Safe ∧ (fAt d.Files (fileN d op.Name)).Safe ≤ ((_ ++ _ : List UInt8).length : Int)
    rw [List.length_append]; omega
   ·show ((_ ++ List.take _ _ : List UInt8).length : Int) ≤ _
    rw [List.length_append, List.length_take]
    omega
  ·split
   ·rename_i k
    have hh1 := hh (by omega)
    rw [decide_eq_false k1] at hh1
    have hat := (hD.at hh1).1
    have hr := hD.room.1
    refine ok_set h hat rfl ?_ ?_
    ·exact ⟨Int.natCast_nonneg _, Int.le_refl _⟩
    ·show ((fAt d.Files (fileN d op.Name)).Body.length : Int) ≤ _
     omega
   ·split
    ·exact ok_sync h
    ·rename_i k2 k3 k6
     have hh1 := hh k6
     rw [decide_eq_false k1] at hh1
     have hk : op.Kind = 4 ∨ op.Kind = 5 := by omega
     have ht : ¬ d.Turns.length = 30 := fun e => f2 ⟨by unfold turnK; rcases hk with k | k <;> rw [k] <;> rfl, e⟩
     refine ok_turn h ?_ ?_ (by omega) k1
     ·unfold isTurn
      show (if op.Kind = 1 then _ else if op.Kind = 4 then nameOk op.Name && nameOk op.To && decide ((0 : Int) = 0) else if op.Kind = 5 then nameOk op.Name && decide (op.To = noName) && decide ((0 : Int) = 0) else false) = true
      rw [if_neg k1]
      rcases hk with k | k
      ·rw [if_pos k, n1 (by omega), n2 k]; rfl
      ·rw [if_neg (by omega), if_pos k, n1 (by omega), n3 (by omega)]; simp
     ·unfold appOk
      show (if op.Kind = 1 then _ else hasN (dirD d) op.Name && !(decide (op.Kind = 4) && decide (op.To = op.Name))) = true
      rw [if_neg k1, hh1]
      rcases hk with k | k
      ·have : ¬ op.To = op.Name := fun e => f3 ⟨k, e⟩
       rw [decide_eq_false this, Bool.and_false]; rfl
      ·rw [decide_eq_false (show ¬ op.Kind = 4 by omega)]; rfl
theorem doneD_ok {d : DiskD} {op : DiskOpD} (h : diskOk d = true) (ho : dopOk op = true) : diskOk (doneD d op) = true := by
 unfold doneD
 rw [h, ho]
 show diskOk (if refuse d op = 0 then doD (fuse1 d) op else d) = true
 split
 ·rename_i hr
  exact doD_ok (d := fuse1 d) (fuse_ok h (refuse_fuse hr)) ho (fun k => (refuse_has (d := d) hr k : _)) (show ¬ fourD (fuse1 d) op from refuse_not (d := d) hr)
 ·exact h
theorem ok_tot {d : DiskD} (h : diskOk d = true) : totDisk d ≤ 1048576 := by
 have hD := diskOk_P h
 have hS := hD.small
 have hR := hD.room
 have h1 : tots totFile d.Files = d.Files.length + usedF d.Files := rfl
 have h2 : tots totLink d.Kept ≤ d.Kept.length * (16 + 1) := tots_bound fun x hx => nameOk_size (kept_names hD.kept hx)
 have h3 : tots totTurn d.Turns ≤ d.Turns.length * (32 + 1) := tots_bound fun t ht => by
  obtain ⟨a, b, c⟩ := isTurn_names (run_turns hD.runi t ht)
  have a2 := nameOk_size a
  unfold totTurn
  by_cases k : t.Kind = 4
  ·have := nameOk_size (b k); omega
  ·rw [c k, show noName.size = 0 from rfl]; omega
 have h4 : d.Kept.length * (16 + 1) ≤ 10 * (16 + 1) := Nat.mul_le_mul_right _ hS.2.1
 have h5 : d.Turns.length * (32 + 1) ≤ 30 * (32 + 1) := Nat.mul_le_mul_right _ hS.2.2.1
 unfold totDisk
 omega
theorem ok_sm {d : DiskD} (h : diskOk d = true) : smDisk 1048576 d := totDisk_sm (ok_tot h)
def dgB (c : UInt8) : Bool := decide (48 ≤ c.toNat) && decide (c.toNat ≤ 57)
def decL (l : List UInt8) : Nat := l.foldl (fun a c => a * 10 + (c.toNat - 48)) 0
def textOk (s : ByteArray) : Bool := (within s.size 1 10 && s.data.toList.all dgB) && decide (numBA (decL s.data.toList : Nat) = s)
def textV (s : ByteArray) : Int := if textOk s then (decL s.data.toList : Nat) else 0
theorem valL_snoc (l : List UInt8) (c : UInt8) : decL (l ++ [c]) = decL l * 10 + (c.toNat - 48) := by unfold decL; rw [List.foldl_append]; rfl
theorem dec_val (u : Nat) : decL (Go.Lib.decDigits u) = u := by
 induction u using Nat.strongRecOn with
 | _ u ih =>
  rw [Go.Lib.decDigits]
  split
  ·show 0 * 10 + ((UInt8.ofNat (48 + u)).toNat - 48) = u
   rw [UInt8.toNat_ofNat']; omega
  ·rw [valL_snoc, ih _ (by omega), UInt8.toNat_ofNat']; omega
theorem dec_len : ∀ (k u : Nat), u < 10 ^ (k + 1) → (Go.Lib.decDigits u).length ≤ k + 1
 | 0, u, h => by rw [Go.Lib.decDigits_one (by simpa using h)]; exact Nat.le_refl _
 | k + 1, u, h => by
  rw [Go.Lib.decDigits]
  split
  ·simp
  ·rw [List.length_append, List.length_singleton]
   have h2 : u / 10 < 10 ^ (k + 1) := by rw [Nat.div_lt_iff_lt_mul (by decide)]; rw [Nat.pow_succ] at h; omega
   have := dec_len k (u / 10) h2
   omega
theorem dec_ne (u : Nat) : Go.Lib.decDigits u ≠ [] := by rw [Go.Lib.decDigits]; split <;> simp
theorem isNum_iff {n : Int} : isNumB n = true ↔ 0 ≤ n ∧ n ≤ 4294967295 := by unfold isNumB; simp
theorem numT_y {n : Int} (h : isNumB n = true) : numT n = Go.Lib.decDigits n.toNat := if_pos (isNum_iff.1 h)
theorem numBA_data (n : Int) : (numBA n).data.toList = numT n := by simp [numBA]
theorem numBA_size (n : Int) : (numBA n).size = (numT n).length := by simp [numBA, ByteArray.size]
theorem numT_10 {n : Int} (h : isNumB n = true) : 1 ≤ (numT n).length ∧ (numT n).length ≤ 10 := by
 have h1 := isNum_iff.1 h
 rw [numT_y h]
 have h2 := dec_len 9 n.toNat (by omega)
 have h3 := List.length_pos_iff.2 (dec_ne n.toNat)
 omega
theorem numT_val {n : Int} (h : isNumB n = true) : ((decL (numT n) : Nat) : Int) = n := by
 have h1 := isNum_iff.1 h
 rw [numT_y h, dec_val]; omega
theorem numT_dig {n : Int} : (numT n).all dgB = true := by
 rw [List.all_eq_true]
 intro c hc
 have h := numT_chars c hc
 unfold dgB
 rw [decide_eq_true h.1, decide_eq_true h.2]; rfl
theorem text_num {n : Int} (h : isNumB n = true) : textOk (numBA n) = true ∧ textV (numBA n) = n := by
 have e : textOk (numBA n) = true := by
  have h10 := numT_10 h
  unfold textOk
  rw [numBA_data, numT_val h, numT_dig, numBA_size, within_iff.2 (show 1 ≤ ((numT n).length : Int) ∧ ((numT n).length : Int) ≤ 10 by omega)]
  simp
 refine ⟨e, ?_⟩
 unfold textV
 rw [if_pos e, numBA_data, numT_val h]
theorem text_is {s : ByteArray} (h : textOk s = true) : isNumB (textV s) = true ∧ numBA (textV s) = s := by
 have h1 := h
 unfold textOk at h1
 simp only [Bool.and_eq_true, decide_eq_true_eq, within_iff] at h1
 have e : textV s = (decL s.data.toList : Nat) := if_pos h
 rw [e]
 refine ⟨?_, h1.2⟩
 rw [isNum_iff]
 refine ⟨by omega, ?_⟩
 rcases Int.lt_or_le 4294967295 (decL s.data.toList : Nat) with h2 | h2
 ·have h3 := h1.2
  have e3 : numT (decL s.data.toList : Nat) = [] := if_neg (by omega)
  have h4 := numBA_size (decL s.data.toList : Nat)
  rw [h3, e3] at h4
  have h5 : s.size = 0 := h4
  omega
 ·exact h2
theorem decFrom_val : ∀ {l : List UInt8} {a : Nat}, l.all dgB = true → Go.Lib.decFrom a l = some (l.foldl (fun a c => a * 10 + (c.toNat - 48)) a)
 | [], a, _ => rfl
 | c :: r, a, h => by
  rw [List.all_cons, Bool.and_eq_true] at h
  have h1 := h.1
  unfold dgB at h1
  rw [Bool.and_eq_true, decide_eq_true_eq, decide_eq_true_eq] at h1
  have e : Go.Lib.digitVal c = some (c.toNat - 48) := if_pos h1
  unfold Go.Lib.decFrom
  rw [e]
  exact decFrom_val h.2
theorem atoi_num {n : Int} (h : isNumB n = true) : Go.Lib.atoiAll (numT n) = .ok n := by
 have h10 := numT_10 h
 rw [Go.Lib.atoiAll_short _ (by omega)]
 have hd := numT_dig (n := n)
 have hv := numT_val h
 have hc := numT_chars (n := n)
 revert h10 hd hv hc
 cases numT n with
 | nil => intro h10; exact absurd h10.1 (by decide)
 | cons c r =>
  intro _ hd hv hc
  have h1 := hc c List.mem_cons_self
  have n1 : (c == 45) = false := by rw [beq_eq_false_iff_ne]; intro hh; rw [hh] at h1; revert h1; decide
  have n2 : (c == 43) = false := by rw [beq_eq_false_iff_ne]; intro hh; rw [hh] at h1; revert h1; decide
  have e : Go.Lib.decNat (c :: r) = some (decL (c :: r)) := by unfold Go.Lib.decNat; exact decFrom_val hd
  show Go.Lib.NumEnd.ofOption (if (c == 45) = true then _ else if (c == 43) = true then _ else (Go.Lib.decNat (c :: r)).map fun (m : Nat) => (m : Int)) = _
  rw [n1, n2, e]
  show Go.Lib.NumEnd.ok ((decL (c :: r) : Nat) : Int) = _
  rw [hv]
theorem atoi_text {s : ByteArray} {v : Int} (h : Go.Lib.atoiAll s.data.toList = .ok v) (h2 : numBA v = s) : textOk s = true ∧ textV s = v := by
 have hn : isNumB v = true := by
  rw [isNum_iff]
  by_cases hh : 0 ≤ v ∧ v ≤ 4294967295
  ·exact hh
  ·have e : numT v = [] := if_neg hh
   rw [← h2, numBA_data, e] at h
   cases h
 rw [← h2]
 exact text_num hn
theorem atoi_text_n {s : ByteArray} (h : ∀ v, Go.Lib.atoiAll s.data.toList = .ok v → ¬ numBA v = s) : textOk s = false := by
 cases ht : textOk s with
 | false => rfl
 | true =>
  obtain ⟨h1, h2⟩ := text_is ht
  refine absurd h2 (h _ ?_)
  have e : s.data.toList = numT (textV s) := by rw [← numBA_data, h2]
  rw [e]; exact atoi_num h1
theorem textV_n {s : ByteArray} (h : textOk s = false) : textV s = 0 := if_neg (by rw [h]; decide)
def cutT (s : ByteArray) : ByteArray := ⟨(Go.Lib.cut s.data.toList [46]).2.1.toArray⟩
def genB (s t : ByteArray) : Bool := (textOk t && isGenB (textV t)) && (decide (s = snapName (textV t)) || decide (s = logName (textV t)))
def genOk (s : ByteArray) : Bool := genB s (cutT s)
def genV (s : ByteArray) : Int := if genOk s then textV (cutT s) else 0
theorem cut_at {p : List UInt8} (h : ∀ c, c ∈ p → c ≠ 46) (r : List UInt8) : (Go.Lib.cut (p ++ 46 :: r) [46]).2.1 = r := by
 have e : Go.Lib.index (p ++ 46 :: r) [46] = p.length := by
  refine Go.Lib.index_first (by simp) ?_ fun j hj => ?_
  ·unfold Go.Lib.occAt
   rw [List.drop_left]; simp
  ·unfold Go.Lib.occAt
   rw [List.drop_append_of_le_length (by omega)]
   have hd : p.drop j = p[j] :: p.drop (j + 1) := List.drop_eq_getElem_cons hj
   rw [hd, List.cons_append]
   have := h _ (List.getElem_mem hj)
   simp [List.isPrefixOf, Ne.symm this]
 unfold Go.Lib.cut
 rw [e, if_pos (by omega)]
 show (p ++ 46 :: r).drop ((p.length : Int).toNat + 1) = r
 rw [Int.toNat_natCast, List.drop_append, List.drop_of_length_le (by omega)]
 simp
theorem isGen_isNum {n : Int} (h : isGenB n = true) : isNumB n = true := isNum_iff.2 (isGen_num h)
theorem cut_log {n : Int} (h : isGenB n = true) : cutT (logName n) = numBA n := by
 have e : (logName n).data.toList = [108, 111, 103] ++ 46 :: numT n := by
  unfold logName; rw [genName_y h, ByteArray.data_append, Array.toList_append, numBA_data]; rfl
 unfold cutT
 rw [e, cut_at (by decide)]; rfl
theorem cut_snap {n : Int} (h : isGenB n = true) : cutT (snapName n) = numBA n := by
 have e : (snapName n).data.toList = [115, 110, 97, 112] ++ 46 :: numT n := by
  unfold snapName; rw [genName_y h, ByteArray.data_append, Array.toList_append, numBA_data]; rfl
 unfold cutT
 rw [e, cut_at (by decide)]; rfl
theorem genB_cut {s t : ByteArray} (h : genB s t = true) : cutT s = t ∧ genOk s = true ∧ genV s = textV t := by
 have h1 := h
 unfold genB at h1
 simp only [Bool.and_eq_true, Bool.or_eq_true, decide_eq_true_eq] at h1
 obtain ⟨⟨h2, h3⟩, h4⟩ := h1
 have e : cutT s = t := by
  rcases h4 with h4 | h4
  ·rw [h4, cut_snap h3]; exact (text_is h2).2
  ·rw [h4, cut_log h3]; exact (text_is h2).2
 have h5 : genOk s = true := by unfold genOk; rw [e]; exact h
 exact ⟨e, h5, by unfold genV; rw [if_pos h5, e]⟩
theorem genOk_log {n : Int} (h : isGenB n = true) : genOk (logName n) = true ∧ genV (logName n) = n := by
 obtain ⟨h1, h2⟩ := text_num (isGen_isNum h)
 have e : genOk (logName n) = true := by unfold genOk genB; rw [cut_log h, h1, h2, h]; simp
 exact ⟨e, by unfold genV; rw [if_pos e, cut_log h, h2]⟩
theorem genOk_snap {n : Int} (h : isGenB n = true) : genOk (snapName n) = true ∧ genV (snapName n) = n := by
 obtain ⟨h1, h2⟩ := text_num (isGen_isNum h)
 have e : genOk (snapName n) = true := by unfold genOk genB; rw [cut_snap h, h1, h2, h]; simp
 exact ⟨e, by unfold genV; rw [if_pos e, cut_snap h, h2]⟩
theorem genV_gen {s : ByteArray} (h : genOk s = true) : isGenB (genV s) = true ∧ (s = snapName (genV s) ∨ s = logName (genV s)) := by
 have e : genV s = textV (cutT s) := if_pos h
 unfold genOk genB at h
 simp only [Bool.and_eq_true, Bool.or_eq_true, decide_eq_true_eq] at h
 rw [e]; exact ⟨h.1.2, h.2⟩
theorem extract_data (s : ByteArray) (k : Nat) : (s.extract k s.size).data.toList = s.data.toList.drop k := by
 rw [Go.Lib.extract_eq]
 show (s.data.toList.drop k).take (s.size - k) = _
 exact List.take_of_length_le (by rw [List.length_drop, ← Go.Lib.size_eq]; exact Nat.le_refl _)
theorem genOk_at {s : ByteArray} (h : genOk s = true) : ∃ i, i < s.size ∧ sbyte s i = 46 ∧ s.extract (i + 1) s.size = cutT s := by
 obtain ⟨h1, h2⟩ := genV_gen h
 have key : ∀ (p : List UInt8), (∀ c, c ∈ p → c ≠ 46) → s.data.toList = p ++ 46 :: numT (genV s) → ∃ i, i < s.size ∧ sbyte s i = 46 ∧ s.extract (i + 1) s.size = cutT s := by
  intro p hp e
  refine ⟨p.length, ?_, ?_, ?_⟩
  ·rw [Go.Lib.size_eq, e, List.length_append, List.length_cons]; omega
  ·unfold sbyte; rw [e]; simp [List.getD_eq_getElem?_getD]
  ·apply ByteArray.ext
   apply Array.toList_inj.1
   rw [extract_data, e]
   show _ = (⟨(Go.Lib.cut s.data.toList [46]).2.1.toArray⟩ : ByteArray).data.toList
   rw [e, cut_at hp, List.drop_append, List.drop_of_length_le (by omega)]
   simp
 rcases h2 with h2 | h2
 ·refine key [115, 110, 97, 112] (by decide) ?_
  have : s.data.toList = (snapName (genV s)).data.toList := congrArg (fun b : ByteArray => b.data.toList) h2
  rw [this]
  unfold snapName; rw [genName_y h1, ByteArray.data_append, Array.toList_append, numBA_data]; rfl
 ·refine key [108, 111, 103] (by decide) ?_
  have : s.data.toList = (logName (genV s)).data.toList := congrArg (fun b : ByteArray => b.data.toList) h2
  rw [this]
  unfold logName; rw [genName_y h1, ByteArray.data_append, Array.toList_append, numBA_data]; rfl
theorem allB_dig {p : List UInt8} (hp : p.all (plainB ⟨#[46]⟩) = true) {n : Int} : allB (plainB ⟨#[46]⟩) (⟨p.toArray⟩ ++ numBA n) = true := by
 unfold allB
 rw [ByteArray.data_append, Array.toList_append, List.all_append, numBA_data]
 show (p.all _ && (numT n).all _) = true
 rw [hp, Bool.true_and, List.all_eq_true]
 intro c hc
 have h := numT_chars c hc
 rw [plainB_dot]
 unfold wordB
 have h1 : decide ((48 : Int) ≤ (c.toNat : Int)) = true := decide_eq_true (by omega)
 have h2 : decide ((c.toNat : Int) ≤ 57) = true := decide_eq_true (by omega)
 rw [h1, h2]; simp
theorem log_ok {n : Int} (h : isGenB n = true) : nameOk (logName n) = true := by
 have h10 := numT_10 (isGen_isNum h)
 have hs := numBA_size n
 unfold logName nameOk isPlain
 rw [genName_y h, Bool.and_eq_true, within_iff]
 refine ⟨allB_dig (p := [108, 111, 103, 46]) (by decide), ?_⟩
 rw [ByteArray.size_append, show logP.size = 4 from rfl]
 omega
theorem snap_ok {n : Int} (h : isGenB n = true) : nameOk (snapName n) = true := by
 have h10 := numT_10 (isGen_isNum h)
 have hs := numBA_size n
 unfold snapName nameOk isPlain
 rw [genName_y h, Bool.and_eq_true, within_iff]
 refine ⟨allB_dig (p := [115, 110, 97, 112, 46]) (by decide), ?_⟩
 rw [ByteArray.size_append, show snapP.size = 5 from rfl]
 omega
def tempP : ByteArray := ⟨#[116, 101, 109, 112]⟩
theorem temp_ok : nameOk tempP = true := by decide
theorem dgB_iff {c : UInt8} : dgB c = true ↔ 48 ≤ c.toNat ∧ c.toNat ≤ 57 := by unfold dgB; simp
theorem dgB_no {c : UInt8} (h : (c.toNat : Int) < 48 ∨ 57 < (c.toNat : Int)) : dgB c = false := by
 cases hd : dgB c with
 | false => rfl
 | true => have := dgB_iff.1 hd; omega
theorem dgB_yes {c : UInt8} (h : 48 ≤ (c.toNat : Int) ∧ (c.toNat : Int) ≤ 57) : dgB c = true := dgB_iff.2 (by omega)
theorem take_byte {s : ByteArray} {i : Nat} (h : i < s.size) : s.data.toList.take (i + 1) = s.data.toList.take i ++ [sbyte s i] := by
 rw [List.take_add_one, sbyte_get h]; rfl
theorem decL_take {s : ByteArray} {i : Nat} (h : i < s.size) : decL (s.data.toList.take (i + 1)) = decL (s.data.toList.take i) * 10 + ((sbyte s i).toNat - 48) := by rw [take_byte h, valL_snoc]
theorem all_take {s : ByteArray} {i : Nat} (h : i < s.size) : (s.data.toList.take (i + 1)).all dgB = ((s.data.toList.take i).all dgB && dgB (sbyte s i)) := by
 rw [take_byte h, List.all_append]; simp
theorem all_no {s : ByteArray} {i : Nat} (h : i < s.size) (hb : dgB (sbyte s i) = false) : s.data.toList.all dgB = false := by
 rw [← Bool.not_eq_true, List.all_eq_true]
 intro hh
 have := hh _ (List.mem_of_getElem? (sbyte_get h))
 rw [hb] at this; cases this
theorem decL_lt : ∀ (l : List UInt8) (a : Nat), l.all dgB = true → l.foldl (fun a c => a * 10 + (c.toNat - 48)) a < (a + 1) * 10 ^ l.length
 | [], a, _ => by simp
 | c :: r, a, h => by
  rw [List.all_cons, Bool.and_eq_true] at h
  have h1 := dgB_iff.1 h.1
  have h2 := decL_lt r (a * 10 + (c.toNat - 48)) h.2
  have h3 : (a * 10 + (c.toNat - 48) + 1) * 10 ^ r.length ≤ ((a + 1) * 10) * 10 ^ r.length := Nat.mul_le_mul_right _ (by omega)
  rw [List.length_cons, Nat.pow_succ, Nat.mul_comm (10 ^ r.length) 10, ← Nat.mul_assoc]
  exact Nat.lt_of_lt_of_le h2 h3
theorem decL_small {l : List UInt8} (h : l.all dgB = true) (hl : l.length ≤ 10) : decL l < 10000000000 := by
 have h1 := decL_lt l 0 h
 have h2 : 10 ^ l.length ≤ 10 ^ 10 := Nat.pow_le_pow_right (by decide) hl
 unfold decL
 omega
theorem step_no {s : ByteArray} {i : Nat} (h : ∀ j, j < i → sbyte s j = 46 → genB s (s.extract (j + 1) s.size) = false) (h2 : sbyte s i = 46 → genB s (s.extract (i + 1) s.size) = false) : ∀ j, j < i + 1 → sbyte s j = 46 → genB s (s.extract (j + 1) s.size) = false := by
 intro j hj
 rcases Nat.lt_or_ge j i with h9 | h9
 ·exact h j h9
 ·obtain rfl : j = i := by omega
  exact h2
theorem gen_none {s : ByteArray} (h : ∀ j, j < s.size → sbyte s j = 46 → genB s (s.extract (j + 1) s.size) = false) : genOk s = false := by
 cases hg : genOk s with
 | false => rfl
 | true =>
  obtain ⟨i, hi, h1, h2⟩ := genOk_at hg
  have := h i hi h1
  rw [h2] at this
  unfold genOk at hg
  rw [this] at hg; cases hg
theorem gen_pos {t : ByteArray} (h : 0 < textV t) : textOk t = true := by
 cases ht : textOk t with
 | true => rfl
 | false => rw [textV_n ht] at h; exact absurd h (by decide)
theorem name_gen {p s : ByteArray} {n : Int} (h : genName p n = s) (hs : 1 ≤ s.size) : isGenB n = true := by
 cases hg : isGenB n with
 | true => rfl
 | false => rw [genName_n hg] at h; rw [← h] at hs; exact absurd hs (by decide)
theorem gen_cond_yes {s t : ByteArray} (hs : 1 ≤ s.size) (h : 0 < textV t ∧ (snapName (textV t) = s ∨ logName (textV t) = s)) : genB s t = true := by
 have hg : isGenB (textV t) = true := by
  rcases h.2 with h2 | h2
  ·exact name_gen h2 hs
  ·exact name_gen h2 hs
 unfold genB
 rw [gen_pos h.1, hg]
 rcases h.2 with h2 | h2
 ·rw [decide_eq_true h2.symm]; rfl
 ·rw [decide_eq_true h2.symm, Bool.or_true]; rfl
theorem gen_cond_no {s t : ByteArray} (h : 0 < textV t → ¬ snapName (textV t) = s ∧ ¬ logName (textV t) = s) : genB s t = false := by
 cases hg : genB s t with
 | false => rfl
 | true =>
  unfold genB at hg
  simp only [Bool.and_eq_true, Bool.or_eq_true, decide_eq_true_eq] at hg
  have h1 : 0 < textV t := by have := hg.1.2; unfold isGenB at this; rw [within_iff] at this; omega
  obtain ⟨a, b⟩ := h h1
  rcases hg.2 with h2 | h2
  ·exact absurd h2.symm a
  ·exact absurd h2.symm b
end Go.Proofs.YtcpnlodkmkfplaaGreatDoor
