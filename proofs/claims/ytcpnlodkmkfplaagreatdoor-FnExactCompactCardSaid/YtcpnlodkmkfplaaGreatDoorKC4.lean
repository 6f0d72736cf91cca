/-
  What the proof stands on, part 4.
-/
import Derived.Test.YtcpnlodkmkfplaaGreatDoorKC3
namespace Go.Proofs.YtcpnlodkmkfplaaGreatDoor
open Go Go.RowKit
set_option linter.unusedVariables false
set_option linter.unusedSimpArgs false
theorem k75_ (A_dir : Option Addr) (n_dir c_dir : Nat) (dir : List LinkD) (A_turns : Option Addr) (n_turns c_turns : Nat) (turns : List TurnD) (w : World) (f_dir : SlF encLink w A_dir n_dir dir) (f_turns : SlF encTurn w A_turns n_turns turns) (hp : sortedL dir) (hr : runI dir turns = true) (hn1 : n_dir ≤ 1000) (hn2 : n_turns ≤ 1000) (hz : ∀ x, x ∈ dir → smLink 549755813888 x) (hzt : ∀ t, t ∈ turns → smTurn 549755813888 t) :
    Calls Tryz.prog 84 #[.slice A_dir n_dir c_dir, .slice A_turns n_turns c_turns] w fun e w' => ∃ A c L1, e = .returned (.slice A (turnsL dir turns).length c) ∧ St w [] L1 w' ∧ OwnF encLink 101 (.slice A (turnsL dir turns).length c) (turnsL dir turns) L1 := by
 have hl := f_dir.len
 have hlt := f_turns.len
 refine enter 24 Tryz.func84 rfl Tryz.ntmps84 rfl rfl ?_
 have hs1 := St.init w
 refine WC.r1 hs1 [] rfl (WC.sr (WL.r 1 hs1 [] rfl (WL.cl Tryz.call128 rfl (k41_ _ _ _ _ _ (SlF.st0 f_dir hs1) ?_) ?_)))
 · first | assumption | rfl | omega
 rintro _ whs2 ⟨A3, c4, L1_5, rfl, hs2, ho6⟩
 replace hs2 := hs1.callF hs2
 refine ⟨_, rfl, WL.r 1 hs2 [] rfl (WL.nil (WC.seq (fun K7 hK7 => WC.r1 hs2 [] rfl (WC.block ?_))))⟩
 refine WC.lO [4, 10, 11] rfl hs2 (fun k_ f L_ => ∃ (zs : List LinkD) (i : Nat) (A8 : Option Addr) (c9 : Nat), k_ = n_turns - i ∧ (i ≤ n_turns) ∧ (zs = turnsL dir (turns.take i)) ∧ OwnF encLink 101 (.slice A8 (zs.length) c9) (zs) L_ ∧ Sub [(5, .slice A8 (zs.length) c9), (12, .int .i64 i)] f) (((fun (zs : List LinkD) (i : Nat) => n_turns - i) (dir) (0))) ?_ ?_
 ·refine ⟨dir, 0, _, _, rfl, ?_, ?_, ho6, ⟨rfl, rfl, trivial⟩⟩
  · exact Nat.zero_le _
  · rfl
 clear hs2
 rintro _ f w L10 ⟨zs, i, A8, c9, rfl, p0, p1, ho11, hG⟩ hF hs12
 refine WC.sub _ (hG.app hF) ?_
 clear hG hF
 have hzn : zs.length ≤ 2000 := by rw [p1]; have h9 := turnsL_len (dir := dir) (l := (turns.take i)); rw [List.length_take] at h9; omega
 have hsz : sortedL zs := by rw [p1]; exact sorted_turns hp (runI_pre hr)
 have hzz : ∀ x, x ∈ zs → smLink 549755813888 x := by rw [p1]; exact sm_turns hz (sm_pre hzt i)
 refine WC.r1 hs12 [] rfl (WC.seq (fun K13 hK13 => ?_))
 refine WC.cq rfl (fun h14 qh14 => ?_) (fun h14 qh14 => ?_)
 ·obtain ⟨htz1, htz2⟩ := hzt _ (gat_mem (F := encTurn) (xs := turns) (k := i) (by omega))
  refine WC.skip (hK13 _ _ (WC.seq (fun K15 hK15 => WC.block (WC.sr ?_))))
  refine WL.val rfl rfl rfl (Run.idxN Tryz.runUnderlying32 Tryz.sizeOf137 rfl rfl rfl ?_ ?_ ?_) ?_
  · exact SlF.some_ (SlF.st0 f_turns hs12)
  · omega
  · omega
  refine WL.val rfl rfl rfl (Run.loadA Tryz.isAgg137 Tryz.sizeOf137 rfl rfl (SlF.whole (SlF.st0 f_turns hs12) ?_)) ?_
  · omega
  refine WL.al hs12 Tryz.zeroValue137 rfl rfl (fun b16 _ hs17 => WL.st tbk hs17 0 rfl rfl (fun _ hs18 => WL.nil (WC.region (WL.r 2 hs18 [0] rfl ?_))))
  refine WL.cl Tryz.call140 rfl (k54_ _ _ _ _ _ _ _ _ _ (SlF.ofOwn ho11 (hs18.ow L10)) ?_ ?_ ?_ ?_) ?_
  iterate 4 first | assumption | rfl | omega
  rintro _ whs19 ⟨A20, c21, xs22, L1_23, rfl, hs19, ho24, hx25⟩
  replace hs19 := hs18.callF hs19
  refine ⟨_, rfl, ?_⟩
  replace hs19 := St.back [_] hs19
  refine WL.r 1 hs19 [] rfl ?_
  have hxx9 := hx25
  refine WL.r 3 hs19 [] rfl (WL.nil (hK15 _ _ (WC.region (WL.r 2 hs19 [] rfl (WL.nil (tkN ?_))))))
  replace hs19 := (hs19.d1.rm L10)
  refine ⟨sbF rfl, _, hs19, _, ?_, _, i + 1, _, _, rfl, ?_, ?_, ho24, ⟨rfl, rfl, trivial⟩⟩
  · omega
  · omega
  · rw [turnsL_take (by omega), ← p1]; exact hxx9 (by rw [p1]; exact runI_at hr (by omega))
 refine WC.exit (hK7 _ _ (WC.r1 hs12 [] rfl (WC.ret (retV1 rfl (resV.tmp rfl) ?_))))
 have hx_ := OwnF.eqOf (xs := turnsL dir turns) ho11 (by rw [p1, List.take_of_length_le (by omega)])
 rw [← hx_]
 first | exact ⟨_, _, _, rfl, (St.keep1 hs12), ho11⟩ | exact ⟨A8, c9, _, by rw [OwnF.len_ ho11], (St.keep1 hs12), by rw [OwnF.len_ ho11]; exact ho11⟩
theorem k76_ (d : DiskR) (w : World) (f_d : okDiskR 549755813888 w d) (hok : diskOk d.dat = true) :
    Calls Tryz.prog 134 #[.agg #[i64 d.Room, i64 d.Fuse, i64 d.Next, .slice d.Files.A d.Files.n d.Files.c, .slice d.Kept.A d.Kept.n d.Kept.c, .slice d.Turns.A d.Turns.n d.Turns.c]] w fun e w' => ∃ A c L1, e = .returned (.slice A (dirD d.dat).length c) ∧ St w [] L1 w' ∧ OwnF encLink 101 (.slice A (dirD d.dat).length c) (dirD d.dat) L1 := by
 have nb_d_Files := f_d.Files_n
 have nl_d_Files := f_d.Files.sl.len
 have nb_d_Kept := f_d.Kept_n
 have nl_d_Kept := f_d.Kept.len
 have nb_d_Turns := f_d.Turns_n
 have nl_d_Turns := f_d.Turns.len
 have hD := diskOk_P hok
 obtain ⟨hs1, hs2, hs3, hs4, hs5, hs6, hs7, hs8⟩ := hD.small
 have hl1 := f_d.Files.sl.len
 have hl2 := f_d.Kept.len
 have hl3 := f_d.Turns.len
 have hm1 : d.Files.n ≤ 10 := by rw [← hl1, ← List.length_map (f := FileR.dat)]; exact hs1
 have hm2 : d.Kept.n ≤ 10 := by rw [← hl2]; exact hs2
 have hm3 : d.Turns.n ≤ 30 := by rw [← hl3]; exact hs3
 have hdl : (dirD d.dat).length ≤ 40 := Nat.le_trans turnsL_len (by show d.Kept.xs.length + d.Turns.xs.length ≤ 40; omega)
 refine enter 8 Tryz.func134 rfl Tryz.ntmps134 rfl rfl ?_
 have hs1 := St.init w
 refine WC.sr (WL.bx hs1 rfl (fun b2 _ hs3 => WL.r 1 hs3 [] rfl (WL.nil (WC.sr (WL.r 4 hs3 [0, 0] rfl ?_)))))
 refine WL.cl Tryz.call84 rfl (k75_ _ _ _ _ _ _ _ _ _ (SlF.st0 f_d.Kept hs3) (SlF.st0 f_d.Turns hs3) ?_ ?_ ?_ ?_ ?_ ?_) ?_
 iterate 6 first | assumption | rfl | omega | exact hD.sorted | exact hD.runi | exact f_d.Kept_s | exact f_d.Turns_s
 rintro _ whs4 ⟨A5, c6, L1_7, rfl, hs4, ho8⟩
 replace hs4 := hs3.callF hs4
 refine ⟨_, rfl, ?_⟩
 replace hs4 := St.back [_] hs4
 refine WL.r 1 hs4 [] rfl (WL.nil (WC.ret (retV1 rfl (resV.tmp rfl) ?_)))
 have hx_ := OwnF.eqOf (xs := dirD d.dat) ho8 (by rfl)
 rw [← hx_]
 first | exact ⟨_, _, _, rfl, (St.keep1 (hs4.fr L1_7)), ho8⟩ | exact ⟨A5, c6, _, by rw [OwnF.len_ ho8], (St.keep1 (hs4.fr L1_7)), by rw [OwnF.len_ ho8]; exact ho8⟩
theorem k77_ (f : FileR) (b_x : Nat) (x : SlD LinkD) (b_k : Nat) (q : Int) (k : Nat) (w : World) (f_x : SlF encVL w (some ⟨b_x, 0, none⟩) 1 [x]) (g_x : SlF encLink w x.A x.n x.xs) (f_k : SlF encI w (some ⟨b_k, 0, none⟩) 1 [q]) (hq : q = (k : Int)) (hk : k < x.n) :
    Calls Tryz.prog 171 #[.agg #[i64 f.Id, .slice f.Body.A f.Body.n f.Body.c, i64 f.Safe], .pointer (some ⟨b_x, 0, none⟩), .pointer (some ⟨b_k, 0, none⟩)] w fun e w' => e = .returned (.bool (decide (f.Id = (gat encLink x.xs k).Id))) ∧ St w [] [] w' := by
 refine enter 13 Tryz.func171 rfl Tryz.ntmps171 rfl rfl ?_
 have hs1 := St.init w
 refine WC.sr (WL.bx hs1 rfl (fun b2 _ hs3 => WL.r 1 hs3 [] rfl (WL.nil (WC.sq1 hs3 (WQ.r 2 [0] rfl ?_)))))
 refine WQ.val rfl rfl rfl (fun w_ hs_ => (Run.load Tryz.isAgg31 rfl rfl (SlF.var (SlF.st0 f_x (hs_ : St _ _ _ _)) rfl))) ?_
 refine WQ.val rfl rfl rfl (fun w_ hs_ => (Run.load Tryz.isAgg3 rfl rfl (SlF.var (SlF.st0 f_k (hs_ : St _ _ _ _)) rfl))) ?_
 refine WQ.val rfl rfl rfl (fun w_ hs_ => (Run.idxK (k) Tryz.runUnderlying31 Tryz.sizeOf101 rfl rfl rfl ?_ ?_ ?_)) ?_
 · exact SlF.some_ (SlF.st0 g_x (hs_ : St _ _ _ _))
 · omega
 · omega
 refine WQ.val rfl rfl rfl (fun w_ hs_ => (Run.fieldO Tryz.runUnderlying101 rfl rfl rfl Tryz.sizeOf3 rfl)) ?_
 refine WQ.val rfl rfl rfl (fun w_ hs_ => (Run.load Tryz.isAgg3 rfl rfl (SlF.fld (SlF.st0 g_x (hs_ : St _ _ _ _)) ?_ rfl))) ?_
 · omega
 refine WQ.r 2 [] rfl (WQ.nil (fun _ (hs4 : St _ _ _ _) => WC.ret (rtv rfl rfl hs4 ?_)))
 rfl
theorem k78_ (A_s : Option Addr) (n_s c_s : Nat) (s : List FileR) (b_x : Nat) (x : SlD LinkD) (b_k : Nat) (q : Int) (k : Nat) (w : World) (f_s : SlN encFileR (okFileR 549755813888) w A_s n_s s) (f_x : SlF encVL w (some ⟨b_x, 0, none⟩) 1 [x]) (g_x : SlF encLink w x.A x.n x.xs) (f_k : SlF encI w (some ⟨b_k, 0, none⟩) 1 [q]) (hn : n_s ≤ 1048576) (hq : q = (k : Int)) (hk : k < x.n) :
    Calls Tryz.prog 170 #[.slice A_s n_s c_s, .func (.func 171) #[] #[.pointer (some ⟨b_x, 0, none⟩), .pointer (some ⟨b_k, 0, none⟩)]] w fun e w' => e = .returned (.int .i64 (findI (fun f : FileR => decide (f.Id = (gat encLink x.xs k).Id)) s)) ∧ St w [] [] w' := by
 have hsl := f_s.sl.len
 refine enter 19 Tryz.func170 rfl Tryz.ntmps170 rfl rfl ?_
 have hs1 := St.init w
 refine WC.r1 hs1 [] rfl (WC.seq (fun K2 hK2 => WC.r1 hs1 [] rfl (WC.block ?_)))
 refine WC.lS [0, 1, 7] rfl hs1 (fun k_ f w' => ∃ (i : Nat), k_ = n_s - i ∧ (i ≤ n_s) ∧ (∀ j, j < i → (fun f : FileR => decide (f.Id = (gat encLink x.xs k).Id)) (gat encFileR s j) = false) ∧ Sub [(8, .int .i64 i)] f) ((fun (i : Nat) => n_s - i) (0)) ?_ ?_
 ·refine ⟨0, rfl, ?_, ?_, ⟨rfl, trivial⟩⟩
  · exact Nat.zero_le _
  · exact fun j hj => absurd hj (by omega)
 clear hs1
 rintro _ f w ⟨i, rfl, p0, p1, hG⟩ hF hs3
 refine WC.sub _ (hG.app hF) ?_
 clear hG hF
 refine WC.r1 hs3 [] rfl (WC.seq (fun K4 hK4 => ?_))
 refine WC.cq rfl (fun h5 qh5 => ?_) (fun h5 qh5 => ?_)
 ·refine WC.skip (hK4 _ _ (WC.seq (fun K6 hK6 => WC.block (WC.r1 hs3 [] rfl (WC.sr (WL.r 3 hs3 [] rfl ?_))))))
  refine WL.val rfl rfl rfl (Run.idxN Tryz.runUnderlying30 Tryz.sizeOf123 rfl rfl rfl ?_ ?_ ?_) ?_
  · exact SlF.some_ (SlF.st0 f_s.sl hs3)
  · omega
  · omega
  refine WL.val rfl rfl rfl (Run.loadA Tryz.isAgg123 Tryz.sizeOf123 rfl rfl (SlF.whole (SlF.st0 f_s.sl hs3) ?_)) ?_
  · omega
  refine WL.call rfl rfl rfl (Run.callC Tryz.call171 rfl rfl rfl) (k77_ _ _ x _ _ k _ (SlF.st0 f_x hs3) (SlF.st0 g_x hs3) (SlF.st0 f_k hs3) ?_ ?_) ?_
  iterate 2 first | assumption | rfl | omega
  rintro _ whs7 ⟨rfl, hs7⟩
  replace hs7 := hs3.call0 hs7
  refine ⟨_, rfl, WL.nil (WC.cq rfl (fun h8 qh8 => ?_) (fun h8 qh8 => ?_))⟩
  ·refine WC.r1 hs7 [] rfl (WC.ret (ibR (tkR (tkR (ibR (tkR ?_))))))
   clear hK6 hK2
   refine rtv rfl rfl hs7 ?_
   rw [findI_some (F := encFileR) (i := i) (by omega) p1 h8]
  refine WC.skip (hK6 _ _ (WC.region (WL.r 2 hs7 [] rfl (WL.nil (tkN ?_)))))
  refine ⟨sbF rfl, hs7, _, ?_, i + 1, rfl, ?_, ?_, ⟨rfl, trivial⟩⟩
  · omega
  · omega
  · intro j hj; rcases Nat.lt_or_ge j i with h_ | h_
    · exact p1 j h_
    · obtain rfl : j = i := by omega
      exact h8
 refine WC.exit (hK2 _ _ (WC.r1 hs3 [] rfl (WC.ret (rtv rfl rfl hs3 ?_))))
 rw [findI_none (F := encFileR) (fun j hj => p1 j (by omega))]
theorem k79_ (d : DiskR) (name : ByteArray) (w : World) (f_d : okDiskR 549755813888 w d) (hok : diskOk d.dat = true) :
    Calls Tryz.prog 117 #[.agg #[i64 d.Room, i64 d.Fuse, i64 d.Next, .slice d.Files.A d.Files.n d.Files.c, .slice d.Kept.A d.Kept.n d.Kept.c, .slice d.Turns.A d.Turns.n d.Turns.c], .string name] w fun e w' => e = .returned (.int .i64 (fileI d.dat name)) ∧ St w [] [] w' := by
 have nb_d_Files := f_d.Files_n
 have nl_d_Files := f_d.Files.sl.len
 have nb_d_Kept := f_d.Kept_n
 have nl_d_Kept := f_d.Kept.len
 have nb_d_Turns := f_d.Turns_n
 have nl_d_Turns := f_d.Turns.len
 have hD := diskOk_P hok
 obtain ⟨hs1, hs2, hs3, hs4, hs5, hs6, hs7, hs8⟩ := hD.small
 have hl1 := f_d.Files.sl.len
 have hl2 := f_d.Kept.len
 have hl3 := f_d.Turns.len
 have hm1 : d.Files.n ≤ 10 := by rw [← hl1, ← List.length_map (f := FileR.dat)]; exact hs1
 have hm2 : d.Kept.n ≤ 10 := by rw [← hl2]; exact hs2
 have hm3 : d.Turns.n ≤ 30 := by rw [← hl3]; exact hs3
 have hdl : (dirD d.dat).length ≤ 40 := Nat.le_trans turnsL_len (by show d.Kept.xs.length + d.Turns.xs.length ≤ 40; omega)
 refine enter 18 Tryz.func117 rfl Tryz.ntmps117 rfl rfl ?_
 have hs1 := St.init w
 refine WC.sr (WL.bx hs1 rfl (fun b2 _ hs3 => WL.r 1 hs3 [] rfl (WL.nil (WC.sr (WL.r 1 hs3 [0] rfl ?_)))))
 refine WL.cl Tryz.call134 rfl (k76_ d _ (okDiskR.st0 f_d hs3) ?_) ?_
 · first | assumption | rfl | omega
 rintro _ whs4 ⟨A5, c6, L1_7, rfl, hs4, ho8⟩
 replace hs4 := hs3.callF hs4
 refine ⟨_, rfl, ?_⟩
 replace hs4 := St.back [_] hs4
 refine WL.al hs4 Tryz.zeroValue31 rfl rfl (fun b9 _ hs10 => WL.st tbk hs10 0 rfl rfl (fun _ hs11 => WL.nil (WC.sr (WL.r 2 hs11 [0] rfl ?_))))
 refine WL.cl Tryz.call150 rfl (k40_ _ _ _ _ _ _ (SlF.ofOwn ho8 (hs11.ow L1_7)) ?_) ?_
 · first | assumption | rfl | omega
 rintro _ whs12 ⟨rfl, hs12⟩
 replace hs12 := hs11.call0 hs12
 refine ⟨_, rfl, WL.al hs12 Tryz.zeroValue3 rfl rfl (fun b13 _ hs14 => WL.st tbk hs14 0 rfl rfl (fun _ hs15 => WL.nil (WC.seq (fun K16 hK16 => WC.r1 hs15 [0] rfl ?_))))⟩
 refine WC.cq rfl (fun h17 qh17 => ?_) (fun h17 qh17 => ?_)
 ·have hh := has_no (dir := dirD d.dat) (n := name) (by have h8 := h17; simpa using h8)
  refine WC.r1 hs15 [] rfl (WC.ret (tkR ?_))
  clear hK16
  refine rtv rfl rfl hs15 ?_
  rw [fileI_n hh]
 obtain ⟨k9, hk9, hf9, hg9⟩ := idx_get (dir := dirD d.dat) (n := name) (by have h8 := h17; simp at h8; omega)
 have hh : hasN (dirD d.dat) name = true := has_idx (by omega)
 refine WC.skip (hK16 _ _ (WC.sr (WL.r 2 hs15 [2] rfl (WL.val rfl rfl rfl (Run.makeFunc rfl rfl) ?_))))
 refine WL.cl Tryz.call170 rfl (k78_ _ _ _ _ _ (⟨A5, (dirD d.dat).length, c6, dirD d.dat⟩ : SlD LinkD) _ _ k9 _ (SlN.st0 okFileR.st0 f_d.Files hs15) (SlF.own1 (hs15.own _ (nthL_mem (i := 1) rfl)).1) (SlF.ofOwn ho8 (hs15.ow L1_7)) (SlF.own1 (hs15.own _ (nthL_mem (i := 0) rfl)).1) ?_ ?_ ?_) ?_
 iterate 3 first | assumption | rfl | omega
 rintro _ whs18 ⟨rfl, hs18⟩
 replace hs18 := hs15.call0 hs18
 refine ⟨_, rfl, WL.r 1 hs18 [] rfl (WL.nil (WC.ret (rtv rfl rfl hs18 ?_)))⟩
 rw [file_idx hD hh hg9, fileI_y hh]
theorem k80_ (op : DiskOpR) (w : World) (f_op : okDiskOpR 549755813888 w op) :
    Calls Tryz.prog 88 #[.agg #[i64 op.Kind, .string op.Name, .string op.To, .slice op.Data.A op.Data.n op.Data.c]] w fun e w' => e = .returned (.bool (dopOk op.dat)) ∧ St w [] [] w' := by
 have nz_op_Name := f_op.Name_z
 have nz_op_To := f_op.To_z
 have nb_op_Data := f_op.Data_n
 have nl_op_Data := f_op.Data.len
 have hdl : op.dat.Data.length = op.Data.n := f_op.Data.len
 have hz1 := f_op.Name_z
 have hz2 := f_op.To_z
 refine enter 48 Tryz.func88 rfl Tryz.ntmps88 rfl rfl ?_
 have hs1 := St.init w
 refine WC.sr (WL.bx hs1 rfl (fun b2 _ hs3 => WL.r 1 hs3 [] rfl (WL.nil (WC.seq (fun K4 hK4 => WC.sr (WL.r 2 hs3 [0] rfl (WL.cl Tryz.call61 rfl (k3_ _ _ _ _) ?_)))))))
 rintro _ whs5 ⟨rfl, hs5⟩
 replace hs5 := hs3.call0 hs5
 refine ⟨_, rfl, WL.r 1 hs5 [] rfl (WL.nil (WC.cq rfl (fun h6 qh6 => ?_) (fun h6 qh6 => ?_)))⟩
 ·have hw : within op.dat.Kind 1 6 = false := by have h9 := h6; show within op.Kind 1 6 = false; simpa using h9
  refine WC.r1 hs5 [] rfl (WC.ret (tkR ?_))
  clear hK4
  refine rtv rfl rfl hs5 ?_
  unfold dopOk; rw [hw]; rfl
 have hw : within op.dat.Kind 1 6 = true := by have h9 := h6; show within op.Kind 1 6 = true; simpa using h9
 refine WC.skip (hK4 _ _ (WC.sr (WL.r 2 hs5 [0] rfl ?_)))
 refine WL.cl Tryz.call149 rfl (k64_ _ _ ?_) ?_
 · first | assumption | rfl | omega
 rintro _ whs7 ⟨rfl, hs7⟩
 replace hs7 := hs5.call0 hs7
 refine ⟨_, rfl, WL.r 1 hs7 [] rfl (WL.nil (WC.seq (fun K8 hK8 => WC.r1 hs7 [0] rfl ?_)))⟩
 refine WC.cq rfl (fun h9 qh9 => ?_) (fun h9 qh9 => ?_)
 ·have k6 : op.Kind = 6 := by have h9 := h9; simpa using h9
  refine WC.region (WL.r 4 hs7 [0] rfl (WL.nil (hK8 _ _ (WC.r1 hs7 [0] rfl (WC.seq (fun K10 hK10 => WC.r1 hs7 [0] rfl ?_))))))
  refine WC.condF rfl (by rw [decide_eq_false_iff_not]; omega) (WC.skip (hK10 _ _ (WC.sr (WL.r 2 hs7 [] rfl (WL.pA tbk 1 Acts.nil hs7 [] rfl rfl rfl rfl (fun g_ => trivial) (WL.r 1 hs7 [] rfl (WL.pA tbk 4 Acts.nil hs7 [0] rfl rfl rfl rfl (fun g_ => ⟨rfl, trivial⟩) ?_)))))))
  refine WL.r 1 hs7 [] rfl ?_
  apply WL.gA 9 Acts.nil hs7 rfl
  ·intro g12 J13
   have qg12 := g12
   try simp only [bf, within_iff, within_not] at qg12
   refine WL.runA tbk 4 (Acts.nil.cons (j := 10) rfl g12) hs7 [0] rfl ⟨rfl, trivial⟩ (WL.pO tbk 4 (Acts.nil.cons (j := 10) rfl g12) hs7 [0] rfl rfl rfl rfl (fun g_ => ⟨rfl, trivial⟩) (WL.eA 5 Acts.nil J13 hs7 g12 rfl rfl))
  intro _ hs14
  refine WL.r 1 hs14 [] rfl (WL.nil (WC.ret (rtv rfl rfl hs14 ?_)))
  unfold dopOk; rw [hw, Bool.true_and, hdl, opName_y k6, opTo_n (by rw [k6]; decide)]; rfl
 have k6 : ¬ op.Kind = 6 := by have h9 := h9; simpa using h9
 refine WC.skip (hK8 _ _ (WC.r1 hs7 [0] rfl (WC.seq (fun K15 hK15 => WC.r1 hs7 [0] rfl ?_))))
 refine WC.cq rfl (fun h16 qh16 => ?_) (fun h16 qh16 => ?_)
 ·have k4 : op.Kind = 4 := by have h9 := h16; simpa using h9
  refine WC.region (WL.r 2 hs7 [0] rfl (WL.cl Tryz.call149 rfl (k64_ _ _ ?_) ?_))
  · first | assumption | rfl | omega
  rintro _ whs17 ⟨rfl, hs17⟩
  replace hs17 := hs7.call0 hs17
  refine ⟨_, rfl, WL.r 1 hs17 [] rfl (WL.nil (hK15 _ _ (WC.sr (WL.r 2 hs17 [] rfl (WL.pA tbk 1 Acts.nil hs17 [] rfl rfl rfl rfl (fun g_ => trivial) (WL.r 1 hs17 [] rfl ?_))))))⟩
  refine WL.pA tbk 4 Acts.nil hs17 [0] rfl rfl rfl rfl (fun g_ => ⟨rfl, trivial⟩) (WL.r 1 hs17 [] rfl ?_)
  apply WL.gA 9 Acts.nil hs17 rfl
  ·intro g18 J19
   have qg18 := g18
   try simp only [bf, within_iff, within_not] at qg18
   refine WL.runA tbk 4 (Acts.nil.cons (j := 10) rfl g18) hs17 [0] rfl ⟨rfl, trivial⟩ (WL.pO tbk 4 (Acts.nil.cons (j := 10) rfl g18) hs17 [0] rfl rfl rfl rfl (fun g_ => ⟨rfl, trivial⟩) (WL.eA 5 Acts.nil J19 hs17 g18 rfl rfl))
  intro _ hs20
  refine WL.r 1 hs20 [] rfl (WL.nil (WC.ret (rtv rfl rfl hs20 ?_)))
  unfold dopOk; rw [hw, Bool.true_and, hdl, opName_n k6, opTo_y k4]; rfl
 have k4 : ¬ op.Kind = 4 := by have h9 := h16; simpa using h9
 refine WC.skip (hK15 _ _ (WC.sr (WL.r 2 hs7 [] rfl (WL.pA tbk 1 Acts.nil hs7 [] rfl rfl rfl rfl (fun g_ => trivial) (WL.r 1 hs7 [] rfl (WL.pA tbk 4 Acts.nil hs7 [0] rfl rfl rfl rfl (fun g_ => ⟨rfl, trivial⟩) (WL.r 1 hs7 [] rfl ?_)))))))
 apply WL.gA 9 Acts.nil hs7 rfl
 ·intro g21 J22
  have qg21 := g21
  try simp only [bf, within_iff, within_not] at qg21
  refine WL.runA tbk 4 (Acts.nil.cons (j := 10) rfl g21) hs7 [0] rfl ⟨rfl, trivial⟩ (WL.pO tbk 4 (Acts.nil.cons (j := 10) rfl g21) hs7 [0] rfl rfl rfl rfl (fun g_ => ⟨rfl, trivial⟩) (WL.eA 5 Acts.nil J22 hs7 g21 rfl rfl))
 intro _ hs23
 refine WL.r 1 hs23 [] rfl (WL.nil (WC.ret (rtv rfl rfl hs23 ?_)))
 unfold dopOk; rw [hw, Bool.true_and, hdl, opName_n k6, opTo_n k4]; rfl
theorem k81_ (k : Int) (w : World) :
    Calls Tryz.prog 151 #[i64 k] w fun e w' => e = .returned (.bool (turnK k)) ∧ St w [] [] w' := by
 refine enter 13 Tryz.func151 rfl Tryz.ntmps151 rfl rfl ?_
 have hs1 := St.init w
 refine WC.r1 hs1 [] rfl (WC.sr (WL.r 3 hs1 [] rfl (WL.pO tbk 2 Acts.nil hs1 [] rfl rfl rfl rfl (fun g_ => trivial) (WL.r 1 hs1 [] rfl (WL.pO tbk 2 Acts.nil hs1 [] rfl rfl rfl rfl (fun g_ => trivial) (WL.r 1 hs1 [] rfl (WL.nil ?_)))))))
 refine WC.ret (rtv rfl rfl hs1 ?_)
 rfl
theorem k82_ (A_s : Option Addr) (n_s c_s : Nat) (s : List UInt8) (w : World) (f_s : SlF encB w A_s n_s s) (hn : n_s ≤ 268435456) :
    Calls Tryz.prog 118 #[.slice A_s n_s c_s] w fun e w' => ∃ A c L1, e = .returned (.slice A (s).length c) ∧ St w [] L1 w' ∧ OwnF encB 5 (.slice A (s).length c) (s) L1 := by
 have hl := f_s.len
 refine enter 8 Tryz.func118 rfl Tryz.ntmps118 rfl rfl ?_
 have hs1 := St.init w
 refine WC.r1 hs1 [] rfl (WC.seq (fun K2 hK2 => WC.sr (WL.r 1 hs1 [] rfl (WL.val rfl rfl rfl (Run.eqlNil Tryz.underlying43 rfl rfl rfl) (WL.nil ?_)))))
 refine WC.cq rfl (fun h3 qh3 => ?_) (fun h3 qh3 => ?_)
 ·obtain rfl : A_s = none := by simpa using qh3
  have h0 : n_s = 0 := SlF.none_ f_s
  have hs : s = [] := List.eq_nil_of_length_eq_zero (by omega)
  refine WC.r1 hs1 [] rfl (WC.ret (tkR ?_))
  clear hK2
  refine retV1 rfl (resV.tmp rfl) ?_
  have hx_ := OwnF.eqOf (xs := s) (OwnF.nil encB 5) (by rw [hs])
  rw [← hx_]
  exact ⟨_, _, _, rfl, hs1.nil, (OwnF.nil encB 5)⟩
 refine WC.skip (hK2 _ _ (WC.sr (WL.buildF (F := encB) hs1 ([]) Tryz.runUnderlying43 Tryz.sizeOf5 Tryz.zeroValue5 rfl rfl rfl rfl rfl rfl rfl rfl rfl rfl rfl rfl (fun A7 c8 L4 whs5 hs5 ho6 => WL.r 1 hs5 [] rfl ?_))))
 refine WL.appendG hs5 ho6 (SlF.src (SlF.st0 f_s hs5) Tryz.underlying43) Tryz.underlying43 inf5 rfl rfl rfl rfl rfl rfl rfl rfl rfl rfl ?_ (fun A12 c13 L9 whs10 hs10 ho11 => ?_)
 · simp; omega
 refine WL.r 1 hs10 [] rfl (WL.nil (WC.ret (retV1 rfl (resV.tmp rfl) ?_)))
 have hx_ := OwnF.eqOf (xs := s) ho11 (by simp)
 rw [← hx_]
 first | exact ⟨_, _, _, rfl, (St.keep1 hs10), ho11⟩ | exact ⟨A12, c13, _, by rw [OwnF.len_ ho11], (St.keep1 hs10), by rw [OwnF.len_ ho11]; exact ho11⟩
theorem k83_ (A_s : Option Addr) (n_s c_s : Nat) (s : List TurnD) (w : World) (f_s : SlF encTurn w A_s n_s s) (hn : n_s ≤ 268435456) :
    Calls Tryz.prog 129 #[.slice A_s n_s c_s] w fun e w' => ∃ A c L1, e = .returned (.slice A (s).length c) ∧ St w [] L1 w' ∧ OwnF encTurn 137 (.slice A (s).length c) (s) L1 := by
 have hl := f_s.len
 refine enter 8 Tryz.func129 rfl Tryz.ntmps129 rfl rfl ?_
 have hs1 := St.init w
 refine WC.r1 hs1 [] rfl (WC.seq (fun K2 hK2 => WC.sr (WL.r 1 hs1 [] rfl (WL.val rfl rfl rfl (Run.eqlNil Tryz.underlying32 rfl rfl rfl) (WL.nil ?_)))))
 refine WC.cq rfl (fun h3 qh3 => ?_) (fun h3 qh3 => ?_)
 ·obtain rfl : A_s = none := by simpa using qh3
  have h0 : n_s = 0 := SlF.none_ f_s
  have hs : s = [] := List.eq_nil_of_length_eq_zero (by omega)
  refine WC.r1 hs1 [] rfl (WC.ret (tkR ?_))
  clear hK2
  refine retV1 rfl (resV.tmp rfl) ?_
  have hx_ := OwnF.eqOf (xs := s) (OwnF.nil encTurn 137) (by rw [hs])
  rw [← hx_]
  exact ⟨_, _, _, rfl, hs1.nil, (OwnF.nil encTurn 137)⟩
 refine WC.skip (hK2 _ _ (WC.sr (WL.buildF (F := encTurn) hs1 ([]) Tryz.runUnderlying32 Tryz.sizeOf137 Tryz.zeroValue137 rfl rfl rfl rfl rfl rfl rfl rfl rfl rfl rfl rfl (fun A7 c8 L4 whs5 hs5 ho6 => WL.r 1 hs5 [] rfl ?_))))
 refine WL.appendG hs5 ho6 (SlF.src (SlF.st0 f_s hs5) Tryz.underlying32) Tryz.underlying32 inf137 rfl rfl rfl rfl rfl rfl rfl rfl rfl rfl ?_ (fun A12 c13 L9 whs10 hs10 ho11 => ?_)
 · simp; omega
 refine WL.r 1 hs10 [] rfl (WL.nil (WC.ret (retV1 rfl (resV.tmp rfl) ?_)))
 have hx_ := OwnF.eqOf (xs := s) ho11 (by simp)
 rw [← hx_]
 first | exact ⟨_, _, _, rfl, (St.keep1 hs10), ho11⟩ | exact ⟨A12, c13, _, by rw [OwnF.len_ ho11], (St.keep1 hs10), by rw [OwnF.len_ ho11]; exact ho11⟩
theorem k84_ (d : DiskR) (name : ByteArray) (w : World) (f_d : okDiskR 549755813888 w d) (hb : totDisk d.dat ≤ 1048576) :
    Calls Tryz.prog 58 #[.agg #[i64 d.Room, i64 d.Fuse, i64 d.Next, .slice d.Files.A d.Files.n d.Files.c, .slice d.Kept.A d.Kept.n d.Kept.c, .slice d.Turns.A d.Turns.n d.Turns.c], .string name] w fun e w' => ∃ A c L1, e = .returned (.tuple #[.slice A (readB d.dat name).length c, .bool (readOk d.dat name)]) ∧ St w [] L1 w' ∧ OwnF encB 5 (.slice A (readB d.dat name).length c) (readB d.dat name) L1 := by
 have nb_d_Files := f_d.Files_n
 have nl_d_Files := f_d.Files.sl.len
 have nb_d_Kept := f_d.Kept_n
 have nl_d_Kept := f_d.Kept.len
 have nb_d_Turns := f_d.Turns_n
 have nl_d_Turns := f_d.Turns.len
 refine enter 22 Tryz.func58 rfl Tryz.ntmps58 rfl rfl ?_
 have hs1 := St.init w
 refine WC.sr (WL.bx hs1 rfl (fun b2 _ hs3 => WL.r 2 hs3 [] rfl (WL.nil (WC.seq (fun K4 hK4 => WC.sr (WL.r 1 hs3 [0] rfl ?_))))))
 refine WL.cl Tryz.call56 rfl (k74_ d _ (okDiskR.st0 f_d hs3) ?_) ?_
 · first | assumption | rfl | omega
 rintro _ whs5 ⟨rfl, hs5⟩
 replace hs5 := hs3.call0 hs5
 refine ⟨_, rfl, WL.r 1 hs5 [] rfl (WL.nil (WC.cq rfl (fun h6 qh6 => ?_) (fun h6 qh6 => ?_)))⟩
 ·have hok : diskOk d.dat = false := by have h9 := h6; simpa using h9
  have hf : readOk d.dat name = false := by unfold readOk; rw [hok]; simp
  have hB : readB d.dat name = [] := if_neg (by rw [hf]; decide)
  refine WC.r1 hs5 [] rfl (WC.ret (tkR ?_))
  clear hK4
  refine retV2 rfl (resV.tmp rfl) (resV.tmp rfl) ?_
  rw [hf]
  have hx_ := OwnF.eqOf (xs := readB d.dat name) (OwnF.nil encB 5) (by rw [hB])
  rw [← hx_]
  exact ⟨_, _, _, rfl, hs5.nil, (OwnF.nil encB 5)⟩
 have hok : diskOk d.dat = true := by have h9 := h6; simpa using h9
 have hD := diskOk_P hok
 refine WC.skip (hK4 _ _ (WC.sr (WL.r 2 hs5 [0] rfl ?_)))
 refine WL.cl Tryz.call117 rfl (k79_ d _ _ (okDiskR.st0 f_d hs5) ?_) ?_
 · first | assumption | rfl | omega
 rintro _ whs7 ⟨rfl, hs7⟩
 replace hs7 := hs5.call0 hs7
 refine ⟨_, rfl, WL.r 1 hs7 [] rfl (WL.nil (WC.seq (fun K8 hK8 => WC.r1 hs7 [] rfl ?_)))⟩
 refine WC.cq rfl (fun h9 qh9 => ?_) (fun h9 qh9 => ?_)
 ·have hh : hasN (dirD d.dat) name = false := by
    cases hh : hasN (dirD d.dat) name with
    | false => rfl
    | true => have h9 := h9; rw [fileI_y hh] at h9; simp at h9; omega
  have hf : readOk d.dat name = false := by unfold readOk; rw [hh]; simp
  have hB : readB d.dat name = [] := if_neg (by rw [hf]; decide)
  refine WC.r1 hs7 [] rfl (WC.ret (tkR ?_))
  clear hK8
  refine retV2 rfl (resV.tmp rfl) (resV.tmp rfl) ?_
  rw [hf]
  have hx_ := OwnF.eqOf (xs := readB d.dat name) (OwnF.nil encB 5) (by rw [hB])
  rw [← hx_]
  exact ⟨_, _, _, rfl, hs7.nil, (OwnF.nil encB 5)⟩
 have hh : hasN (dirD d.dat) name = true := by
   cases hh : hasN (dirD d.dat) name with
   | true => rfl
   | false => have h9 := h9; rw [fileI_n hh] at h9; simp at h9
 have hf : readOk d.dat name = true := by unfold readOk; rw [hok, hh]; rfl
 have hfn := (hD.at hh).1
 have hfn2 : fileN d.dat name < d.Files.xs.length := by rw [← List.length_map (f := FileR.dat)]; exact hfn
 have hB : readB d.dat name = (gat encFileR d.Files.xs (fileN d.dat name)).Body.xs := by unfold readB; rw [if_pos hf, show fAt d.dat.Files (fileN d.dat name) = FileR.dat (gat encFileR d.Files.xs (fileN d.dat name)) from fAt_dat hfn2]; rfl
 have hyb := (f_d.Files.all _ (gat_mem (F := encFileR) (xs := d.Files.xs) (k := fileN d.dat name) hfn2)).Body.len
 have hyu : (gat encFileR d.Files.xs (fileN d.dat name)).Body.xs.length ≤ usedF d.dat.Files := usedF_gat hfn2
 have hul := hD.room.2.1
 have hfl9 := f_d.Files.sl.len
 have hfi := fileI_y hh
 refine WC.skip (hK8 _ _ (WC.sr (WL.r 3 hs7 [0] rfl ?_)))
 refine WL.val rfl rfl rfl (Run.idxK ((fileN d.dat name)) Tryz.runUnderlying30 Tryz.sizeOf123 rfl rfl rfl ?_ ?_ ?_) ?_
 · exact SlF.some_ (SlF.st0 f_d.Files.sl hs7)
 · omega
 · omega
 refine WL.val rfl rfl rfl (Run.fieldO Tryz.runUnderlying123 rfl rfl rfl Tryz.sizeOf43 rfl) (WL.val rfl rfl rfl (Run.load Tryz.isAgg43 rfl rfl (SlF.fld (SlF.st0 f_d.Files.sl hs7) ?_ rfl)) ?_)
 · omega
 refine WL.cl Tryz.call118 rfl (k82_ _ _ _ _ _ (SlF.st0 (SlN.nth f_d.Files (by omega)).Body hs7) ?_) ?_
 · first | assumption | rfl | omega
 rintro _ whs10 ⟨A11, c12, L1_13, rfl, hs10, ho14⟩
 replace hs10 := hs7.callF hs10
 refine ⟨_, rfl, ?_⟩
 replace hs10 := St.back [_] hs10
 refine WL.r 2 hs10 [] rfl (WL.nil (WC.ret (retV2 rfl (resV.tmp rfl) (resV.tmp rfl) ?_)))
 rw [hf]
 have hx_ := OwnF.eqOf (xs := readB d.dat name) ho14 (by rw [hB]; first | done | rfl | simp)
 rw [← hx_]
 first | exact ⟨_, _, _, rfl, (St.keep1 (hs10.fr L1_13)), ho14⟩ | exact ⟨A11, c12, _, by rw [OwnF.len_ ho14], (St.keep1 (hs10.fr L1_13)), by rw [OwnF.len_ ho14]; exact ho14⟩
theorem built_123_0_1_2 (x0 : Int) (x1 : Option Addr) (x2 : Nat) (x3 : Nat) (x4 : Int) : Tryz.prog.built 123 [(0, .int .i64 x0), (1, .slice x1 x2 x3), (2, .int .i64 x4)] = some (List.toArray [.int .i64 x0, .slice x1 x2 x3, .int .i64 x4]) := by kernel_rfl
set_option maxHeartbeats 4000000 in
theorem k85_ (d : DiskR) (w : World) (f_d : okDiskR 549755813888 w d) (hsm : smDisk 1048576 d.dat) :
    Calls Tryz.prog 75 #[.agg #[i64 d.Room, i64 d.Fuse, i64 d.Next, .slice d.Files.A d.Files.n d.Files.c, .slice d.Kept.A d.Kept.n d.Kept.c, .slice d.Turns.A d.Turns.n d.Turns.c]] w fun e w' => ∃ r L1, e = .returned (.agg #[i64 r.Room, i64 r.Fuse, i64 r.Next, .slice r.Files.A r.Files.n r.Files.c, .slice r.Kept.A r.Kept.n r.Kept.c, .slice r.Turns.A r.Turns.n r.Turns.c]) ∧ St w [] L1 w' ∧ ownDiskR r L1 ∧ r.dat = d.dat := by
 have nb_d_Files := f_d.Files_n
 have nl_d_Files := f_d.Files.sl.len
 have nb_d_Kept := f_d.Kept_n
 have nl_d_Kept := f_d.Kept.len
 have nb_d_Turns := f_d.Turns_n
 have nl_d_Turns := f_d.Turns.len
 have hF9 : d.Files.xs.length ≤ 1048576 := by have h_ := hsm.1; simpa [DiskR.dat] using h_
 have hl1 := f_d.Files.sl.len
 have hl2 := f_d.Kept.len
 have hl3 := f_d.Turns.len
 have hm2 : d.Kept.xs.length ≤ 1048576 := hsm.2.2.1
 have hm3 : d.Turns.xs.length ≤ 1048576 := hsm.2.2.2.2.1
 refine enter 37 Tryz.func75 rfl Tryz.ntmps75 rfl rfl ?_
 have hs1 := St.init w
 refine WC.sr (WL.bx hs1 rfl (fun b2 _ hs3 => WL.al hs3 Tryz.zeroValue34 rfl rfl (fun b4 _ hs5 => WL.nil (WC.sr (WL.buildF (F := encFileR) hs5 ([]) Tryz.runUnderlying30 Tryz.sizeOf123 Tryz.zeroValue123 rfl rfl rfl rfl rfl rfl rfl rfl rfl rfl rfl rfl (fun A9 c10 L6 whs7 hs7 ho8 => ?_))))))
 replace hs7 := St.back [_, _] hs7
 obtain ⟨L11, hs12, ho13⟩ := OwnN.fresh (own := ownFileR) (hs7.fr L6) ho8 Bag.nil
 have hs14 := ((hs12.fb b2).fb b4)
 refine WL.r 1 hs14 [] rfl (WL.nil (WC.seq (fun K15 hK15 => WC.r1 hs14 [1] rfl (WC.block ?_))))
 have hM20 := (St.grp1 (L1 := L11) [] (((hs14.fb b2).fb b4).fr L11))
 refine WC.lV [1, 2, 8, 9] rfl hM20 (fun k_ (a_ : Hp) f => ∃ (i : Nat) (fs : List FileR) (A16 : Option Addr) (c17 : Nat) (L18 : Hp), k_ = d.Files.n - i ∧ a_ = L18 ∧ (i ≤ d.Files.n) ∧ (fs.map FileR.dat = (d.Files.xs.take i).map FileR.dat) ∧ (fs.length = i) ∧ OwnN encFileR ownFileR 123 (.slice A16 (fs).length c17) (fs) L18 ∧ Sub [(3, .slice A16 (fs).length c17), (10, .int .i64 i)] f) (d.Files.n) ?_ ?_
 ·refine ⟨0, [], A9, c10, L11, rfl, rfl, ?_, ?_, ?_, ho13, ⟨rfl, rfl, trivial⟩⟩
  · exact Nat.zero_le _
  · rfl
  · rfl
 rintro _ L18 f w ⟨i, fs, A16, c17, _, rfl, rfl, p0, p1, p2, ho19, hG⟩ hF hs21
 refine WC.sub _ (hG.app hF) ?_
 clear hG hF
 replace hs21 := St.ungrp1 [] hs21
 have hs22 := ((hs21.fb b2).fb b4)
 refine WC.r1 hs22 [] rfl (WC.seq (fun K23 hK23 => ?_))
 refine WC.cD rfl (fun qh24 => ?_) (fun qh24 => ?_)
 ·have hbl := (SlN.nth f_d.Files (show i < d.Files.n by omega)).Body.len
  have hbn : (gat encFileR d.Files.xs i).Body.xs.length ≤ 1048576 := hsm.2.1 _ (List.mem_map_of_mem (f := FileR.dat) (gat_mem (F := encFileR) (xs := d.Files.xs) (k := i) (by omega)))
  refine WC.skip (hK23 _ _ (WC.seq (fun K25 hK25 => WC.block (WC.sr ?_))))
  refine WL.val rfl rfl rfl (Run.idxN Tryz.runUnderlying30 Tryz.sizeOf123 rfl rfl rfl ?_ ?_ ?_) ?_
  · exact SlF.some_ (SlF.st0 f_d.Files.sl hs22)
  · omega
  · omega
  refine WL.val rfl rfl rfl (Run.loadA Tryz.isAgg123 Tryz.sizeOf123 rfl rfl (SlF.whole (SlF.st0 f_d.Files.sl hs22) ?_)) ?_
  · omega
  refine WL.al hs22 Tryz.zeroValue123 rfl rfl (fun b26 _ hs27 => WL.st tbk hs27 0 rfl rfl (fun _ hs28 => WL.nil (WC.rH (hs28.rm L18) hs28 (fun _ hs29 => ?_))))
  refine WH.rn [0, 1, 2, 3, 4, 6, 7] (hs29.rm L18) [0, 0, 0] rfl rfl (WH.o1 5 rfl (WL.cl Tryz.call118 rfl (k82_ _ _ _ _ _ (SlF.st0 (SlN.nth f_d.Files (by omega)).Body hs29) ?_) ?_))
  · first | assumption | rfl | omega
  rintro _ whs30 ⟨A31, c32, L1_33, rfl, hs30, ho34⟩
  replace hs30 := hs29.callF hs30
  refine ⟨_, rfl, ?_⟩
  replace hs30 := St.back [_, _, _] hs30
  refine WL.nil ⟨((hs30.rm L1_33).rm L18), ?_⟩
  refine WH.take 8 rfl (by kernel_rfl) rfl rfl rfl ((hs30.rm L1_33).rm L18) (fun w_ hs_ => (Run.build rfl rfl rfl rfl (built_123_0_1_2 _ _ _ _ _))) ?_
  refine WH.o1 9 rfl (WL.buildSlice hs30 Tryz.runUnderlying30 Tryz.sizeOf123 Tryz.zeroValue123 rfl rfl rfl rfl rfl rfl rfl rfl rfl rfl (fun b35 whs36 hs36 => WL.nil ⟨((hs36.d1.rm L1_33).rm L18), WH.o1 10 rfl ?_⟩))
  obtain ⟨L37, L38, hs41, ho39, ho40⟩ := OwnN.open_ (hs36.fr L18) ho19
  have hs42 := ((((hs41.fb b2).fb b4).fb b26).fb b35)
  refine WL.appendG (hs42.fr L37) ho39 (srcF (F := encFileR) (ys := [(⟨(gat encFileR d.Files.xs i).Id, SlD.of ho34, (gat encFileR d.Files.xs i).Safe⟩ : FileR)]) Tryz.underlying30 rfl rfl (hs42.own _ (nthL_mem (i := 0) rfl)).1) Tryz.underlying30 inf123 rfl rfl rfl rfl rfl rfl rfl rfl rfl rfl ?_ (fun A46 c47 L43 whs44 hs44 ho45 => ?_)
  · (try simp only [List.length_append, List.length_singleton, List.nil_append, List.length_nil]); first | omega
  replace hs44 := St.back [_, _, _, _] hs44
  obtain ⟨L48, hs49, hb50⟩ := Bag.put (x := (⟨(gat encFileR d.Files.xs i).Id, SlD.of ho34, (gat encFileR d.Files.xs i).Safe⟩ : FileR)) ((hs44.fr L1_33).fr L38) ho40 ho34
  have hs51 := ((((hs49.fb b2).fb b4).fb b26).fb b35)
  obtain ⟨L53, hs52, ho54⟩ := OwnN.fold ((hs51.fr L48).fr L43) ho45 hb50
  have hs55 := ((((hs52.fb b2).fb b4).fb b26).fb b35)
  refine WL.nil ⟨(hs55.d1.rm L53), WH.rn [11] (hs55.d1.rm L53) [] rfl rfl (WH.dn (hK25 _ _ (WC.region (WL.r 2 hs55 [] rfl (WL.nil (tkN ?_))))))⟩
  replace hs55 := hs55.d1.d1
  have hF56 := (St.grp1 (L1 := L53) [] (((hs55.fb b2).fb b4).fr L53))
  refine ⟨sbF rfl, _, hF56, _, ?_, i + 1, ((fs) ++ [(⟨(gat encFileR d.Files.xs i).Id, SlD.of ho34, (gat encFileR d.Files.xs i).Safe⟩ : FileR)]), A46, c47, L53, rfl, rfl, ?_, ?_, ?_, ho54, ⟨rfl, rfl, trivial⟩⟩
  · omega
  · omega
  · rw [List.map_append, p1, map_take_succ (F := encFileR) (by omega)]; rfl
  · simp only [List.length_append, List.length_singleton]; omega
 refine WC.exit (hK15 _ _ (WC.seq (fun K57 hK57 => WC.rG 8 (hs22.fb b2).d1 hs22 hs22 (fun _ hs58 => ?_))))
 refine WG.rn [0, 1, 2, 4, 5, 7] hs58 [1, 1] rfl rfl (WG.o1 3 rfl rfl (WL.cl Tryz.call128 rfl (k41_ _ _ _ _ _ (SlF.st0 f_d.Kept hs58) ?_) ?_))
 · first | assumption | rfl | omega
 rintro _ whs59 ⟨A60, c61, L1_62, rfl, hs59, ho63⟩
 replace hs59 := hs58.callF hs59
 refine ⟨_, rfl, ?_⟩
 replace hs59 := St.back [_, _] hs59
 refine WL.nil ⟨(hs59.rm L1_62), WG.o1 6 rfl rfl (WL.cl Tryz.call129 rfl (k83_ _ _ _ _ _ (SlF.st0 f_d.Turns hs59) ?_) ?_)⟩
 · first | assumption | rfl | omega
 rintro _ whs64 ⟨A65, c66, L1_67, rfl, hs64, ho68⟩
 replace hs64 := hs59.callF hs64
 refine ⟨_, rfl, ?_⟩
 replace hs64 := St.back [_, _] hs64
 refine WL.nil ⟨((hs64.rm L1_67).rm L1_62), WG.oK rfl (WL.st tbk hs64 1 rfl rfl (fun _ hs69 => WL.nil ⟨(((hs69.fb b2).d1.rm L1_67).rm L1_62), WH.rn [9] (((hs69.fb b2).d1.rm L1_67).rm L1_62) [] rfl rfl (WH.o1 10 rfl (WL.st tbk hs69 1 rfl rfl (fun _ hs70 => WL.nil ⟨(((hs70.fb b2).d1.rm L1_67).rm L1_62), ?_⟩)))⟩))⟩
 refine WH.rn [11] (((hs70.fb b2).d1.rm L1_67).rm L1_62) [] rfl rfl (WH.o1 12 rfl (WL.st tbk hs70 1 rfl rfl (fun _ hs71 => WL.nil ⟨(((hs71.fb b2).d1.rm L1_67).rm L1_62), WH.dn (hK57 _ _ (WC.sr (WL.r 1 hs71 [1] rfl ?_)))⟩)))
 refine WL.st tbk hs71 0 rfl rfl (fun _ hs72 => WL.nil (WC.ret (retV1 rfl (resV.cellA tbk hs72 0 rfl rfl rfl rfl) ?_)))
 have hb_ : fs.map FileR.dat = d.dat.Files := by rw [p1, List.take_of_length_le (by omega)]; rfl
 obtain ⟨L74, hs73, ho75⟩ := ownDiskR.fl hs72 ho19 ho63 ho68
 have hs76 := ((hs73.fb b2).fb b4)
 refine ownDiskR.ret rfl (St.keep1 (hs76.fr L74)) ho75 ?_
 · exact DiskD.ext' rfl rfl rfl hb_ rfl rfl
theorem k86_ (d : DiskR) (op : DiskOpR) (w : World) (f_d : okDiskR 549755813888 w d) (f_op : okDiskOpR 549755813888 w op) (hok : diskOk d.dat = true) :
    Calls Tryz.prog 89 #[.agg #[i64 d.Room, i64 d.Fuse, i64 d.Next, .slice d.Files.A d.Files.n d.Files.c, .slice d.Kept.A d.Kept.n d.Kept.c, .slice d.Turns.A d.Turns.n d.Turns.c], .agg #[i64 op.Kind, .string op.Name, .string op.To, .slice op.Data.A op.Data.n op.Data.c]] w fun e w' => e = .returned (.int .i64 (refuse d.dat op.dat)) ∧ St w [] [] w' := by
 have nb_d_Files := f_d.Files_n
 have nl_d_Files := f_d.Files.sl.len
 have nb_d_Kept := f_d.Kept_n
 have nl_d_Kept := f_d.Kept.len
 have nb_d_Turns := f_d.Turns_n
 have nl_d_Turns := f_d.Turns.len
 have nz_op_Name := f_op.Name_z
 have nz_op_To := f_op.To_z
 have nb_op_Data := f_op.Data_n
 have nl_op_Data := f_op.Data.len
 have hD := diskOk_P hok
 obtain ⟨hs1, hs2, hs3, hs4, hs5, hs6, hs7, hs8⟩ := hD.small
 have hl1 := f_d.Files.sl.len
 have hl2 := f_d.Kept.len
 have hl3 := f_d.Turns.len
 have hm1 : d.Files.n ≤ 10 := by rw [← hl1, ← List.length_map (f := FileR.dat)]; exact hs1
 have hm2 : d.Kept.n ≤ 10 := by rw [← hl2]; exact hs2
 have hm3 : d.Turns.n ≤ 30 := by rw [← hl3]; exact hs3
 have hdl : (dirD d.dat).length ≤ 40 := Nat.le_trans turnsL_len (by show d.Kept.xs.length + d.Turns.xs.length ≤ 40; omega)
 have hfl : d.dat.Files.length = d.Files.n := by rw [← hl1]; exact List.length_map _
 have htl : d.dat.Turns.length = d.Turns.n := hl3
 refine enter 63 Tryz.func89 rfl Tryz.ntmps89 rfl rfl ?_
 have hs1 := St.init w
 refine WC.sr (WL.bx hs1 rfl (fun b2 _ hs3 => WL.bx hs3 rfl (fun b4 _ hs5 => WL.r 1 hs5 [] rfl (WL.nil (WC.seq (fun K6 hK6 => WC.rH hs5 hs5 (fun _ hs7 => ?_)))))))
 refine WH.rn [0, 2, 3] hs7 [1, 0] rfl rfl (WH.o1 1 rfl (WL.cl Tryz.call134 rfl (k76_ d _ (okDiskR.st0 f_d hs7) ?_) ?_))
 · first | assumption | rfl | omega
 rintro _ whs8 ⟨A9, c10, L1_11, rfl, hs8, ho12⟩
 replace hs8 := hs7.callF hs8
 refine ⟨_, rfl, ?_⟩
 replace hs8 := St.back [_, _] hs8
 refine WL.nil ⟨(hs8.rm L1_11), WH.o1 4 rfl (WL.cl Tryz.call150 rfl (k40_ _ _ _ _ _ _ (SlF.ofOwn ho12 (hs8.ow L1_11)) ?_) ?_)⟩
 · first | assumption | rfl | omega
 rintro _ whs13 ⟨rfl, hs13⟩
 replace hs13 := hs8.call0 hs13
 refine ⟨_, rfl, WL.nil ⟨(hs13.rm L1_11), WH.rn [5, 6] (hs13.rm L1_11) [] rfl rfl (WH.dn (hK6 _ _ (WC.seq (fun K14 hK14 => WC.block (WC.r1 hs13 [1] rfl ?_)))))⟩⟩
 refine WC.cq rfl (fun h15 qh15 => ?_) (fun h15 qh15 => ?_)
 ·have hf : d.dat.Fuse = 0 := by show d.Fuse = 0; have h9 := h15; simpa using h9
  refine WC.r1 hs13 [] rfl (WC.ret (ibR (tkR ?_)))
  clear hK14
  refine rtv rfl rfl hs13 ?_
  rw [refuse_2 hf]
 have hf : ¬ d.dat.Fuse = 0 := by show ¬ d.Fuse = 0; have h9 := h15; simpa using h9
 refine WC.sr (WL.r 4 hs13 [0] rfl (WL.pA tbk 5 Acts.nil hs13 [0] rfl rfl rfl rfl (fun g_ => ⟨rfl, trivial⟩) (WL.r 1 hs13 [] rfl (WL.nil (WC.cq rfl (fun h16 qh16 => ?_) (fun h16 qh16 => ?_))))))
 ·have h3 : op.dat.Kind ≠ 6 ∧ hasN (dirD d.dat) op.dat.Name = decide (op.dat.Kind = 1) := by have h9 := h16; rw [has_dec] at h9; show op.Kind ≠ 6 ∧ hasN (dirD d.dat) op.Name = decide (op.Kind = 1); simpa using h9
  refine WC.r1 hs13 [] rfl (WC.ret (ibR (tkR ?_)))
  clear hK14
  refine rtv rfl rfl hs13 ?_
  rw [refuse_3 hf h3]
 have h3 : ¬ (op.dat.Kind ≠ 6 ∧ hasN (dirD d.dat) op.dat.Name = decide (op.dat.Kind = 1)) := by have h9 := h16; rw [has_dec] at h9; show ¬ (op.Kind ≠ 6 ∧ hasN (dirD d.dat) op.Name = decide (op.Kind = 1)); simpa using h9
 refine WC.sr (WL.r 4 hs13 [0] rfl ?_)
 apply WL.gA 9 Acts.nil hs13 rfl
 ·intro g17 J18
  have qg17 := g17
  try simp only [bf, within_iff, within_not] at qg17
  refine WL.runA tbk 5 (Acts.nil.cons (j := 3) rfl g17) hs13 [1] rfl ⟨rfl, trivial⟩ (WL.pO tbk 3 (Acts.nil.cons (j := 3) rfl g17) hs13 [1] rfl rfl rfl rfl (fun g_ => ⟨rfl, trivial⟩) (WL.eA 6 Acts.nil J18 hs13 g17 rfl rfl))
 intro _ hs19
 refine WL.r 1 hs19 [] rfl (WL.nil (WC.cq rfl (fun h20 qh20 => ?_) (fun h20 qh20 => ?_)))
 ·have h4 : fourD d.dat op.dat := .inl (by show op.Kind = 1 ∧ (d.dat.Files.length = 10 ∨ d.Next = 1000000); have h9 := h20; simp only [Bool.and_eq_true, Bool.or_eq_true, decide_eq_true_eq] at h9; rw [hfl]; omega)
  refine WC.r1 hs19 [] rfl (WC.ret (ibR (tkR ?_)))
  clear hK14
  refine rtv rfl rfl hs19 ?_
  rw [refuse_4 hf h3 h4]
 have n27 : ¬ (op.Kind = 1 ∧ (d.dat.Files.length = 10 ∨ d.Next = 1000000)) := by have h9 := h20; simp only [Bool.and_eq_false_iff, Bool.or_eq_false_iff, decide_eq_false_iff_not] at h9; rw [hfl]; omega
 refine WC.sr (WL.r 2 hs19 [0] rfl (WL.cl Tryz.call151 rfl (k81_ _ _) ?_))
 rintro _ whs21 ⟨rfl, hs21⟩
 replace hs21 := hs19.call0 hs21
 refine ⟨_, rfl, WL.r 1 hs21 [] rfl (WL.pA tbk 4 Acts.nil hs21 [1] rfl rfl rfl rfl (fun g_ => ⟨rfl, trivial⟩) (WL.r 1 hs21 [] rfl (WL.nil (WC.cq rfl (fun h22 qh22 => ?_) (fun h22 qh22 => ?_)))))⟩
 ·have h4 : fourD d.dat op.dat := .inr (.inl (by show turnK op.Kind = true ∧ d.dat.Turns.length = 30; have h9 := h22; simp only [Bool.and_eq_true, Bool.or_eq_true, decide_eq_true_eq] at h9; rw [htl]; exact ⟨h9.1, by have := h9.2; omega⟩))
  refine WC.r1 hs21 [] rfl (WC.ret (ibR (tkR ?_)))
  clear hK14
  refine rtv rfl rfl hs21 ?_
  rw [refuse_4 hf h3 h4]
 have n42 : ¬ (turnK op.Kind = true ∧ d.dat.Turns.length = 30) := by
   have h9 := h22
   simp only [Bool.and_eq_false_iff, Bool.or_eq_false_iff, decide_eq_false_iff_not] at h9
   rw [htl]; rintro ⟨a, b⟩
   rcases h9 with h | h
   · rw [a] at h; cases h
   · omega
 refine WC.sr (WL.r 4 hs21 [0] rfl (WL.pA tbk 5 Acts.nil hs21 [0, 0] rfl rfl rfl rfl (fun g_ => ⟨rfl, rfl, trivial⟩) (WL.r 1 hs21 [] rfl (WL.nil (WC.cq rfl (fun h23 qh23 => ?_) (fun h23 qh23 => ?_))))))
 ·have h4 : fourD d.dat op.dat := .inr (.inr (by show op.Kind = 4 ∧ op.To = op.Name; have h9 := h23; simp only [Bool.and_eq_true, Bool.or_eq_true, decide_eq_true_eq] at h9; exact h9))
  refine WC.r1 hs21 [] rfl (WC.ret (ibR (tkR ?_)))
  clear hK14
  refine rtv rfl rfl hs21 ?_
  rw [refuse_4 hf h3 h4]
 have n52 : ¬ (op.Kind = 4 ∧ op.To = op.Name) := by
   have h9 := h23
   simp only [Bool.and_eq_false_iff, Bool.or_eq_false_iff, decide_eq_false_iff_not] at h9
   rintro ⟨a, b⟩
   rcases h9 with h | h
   · exact h a
   · exact h b
 have h4 : ¬ fourD d.dat op.dat := fun h => h.elim n27 (fun h => h.elim n42 n52)
 refine WC.skip (hK14 _ _ (WC.r1 hs21 [] rfl (WC.ret (rtv rfl rfl hs21 ?_))))
 rw [refuse_0 hf h3 h4]
theorem k87_ (p : DepotR) (w : World) (f_p : okDepotR 549755813888 w p) (hb : totDisk p.dat.Disk ≤ 1048576) (ht : TabOk w) :
    Calls Tryz.prog 25 #[.agg #[i64 p.Disk.Room, i64 p.Disk.Fuse, i64 p.Disk.Next, .slice p.Disk.Files.A p.Disk.Files.n p.Disk.Files.c, .slice p.Disk.Kept.A p.Disk.Kept.n p.Disk.Kept.c, .slice p.Disk.Turns.A p.Disk.Turns.n p.Disk.Turns.c, i64 p.Gen, i64 p.Seq, i64 p.Size, .bool p.Stuck]] w fun e w' => e = .returned (.bool (depotOk p.dat)) ∧ St w [] [] w' := by
 have nb_p_Disk_Files := f_p.Disk.Files_n
 have nl_p_Disk_Files := f_p.Disk.Files.sl.len
 have nb_p_Disk_Kept := f_p.Disk.Kept_n
 have nl_p_Disk_Kept := f_p.Disk.Kept.len
 have nb_p_Disk_Turns := f_p.Disk.Turns_n
 have nl_p_Disk_Turns := f_p.Disk.Turns.len
 refine enter 51 Tryz.func25 rfl Tryz.ntmps25 rfl rfl ?_
 have hs1 := St.init w
 refine WC.sr (WL.bx hs1 rfl (fun b2 _ hs3 => WL.r 1 hs3 [] rfl (WL.nil (WC.seq (fun K4 hK4 => WC.sr (WL.r 2 hs3 [0] rfl ?_))))))
 refine WL.cl Tryz.call56 rfl (k74_ p.Disk _ (okDiskR.st0 f_p.Disk hs3) ?_) ?_
 · first | assumption | rfl | omega | exact tab_st ht (by assumption) | exact hb
 rintro _ whs5 ⟨rfl, hs5⟩
 replace hs5 := hs3.call0 hs5
 refine ⟨_, rfl, WL.r 2 hs5 [] rfl ?_⟩
 apply WL.gO 4 Acts.nil hs5 rfl
 ·intro g6 J7
  have qg6 := g6
  try simp only [bf, within_iff, within_not] at qg6
  refine WL.runA tbk 2 (Acts.nil.cons (j := 4) rfl g6) hs5 [0] rfl ⟨rfl, trivial⟩ (WL.call (wantF rfl g6) rfl rfl (Run.call Tryz.call60 rfl rfl rfl) (k14_ _ _) ?_)
  rintro _ whs8 ⟨rfl, hs8⟩
  replace hs8 := hs5.call0 hs8
  refine ⟨_, rfl, WL.runA tbk 1 (Acts.nil.cons (j := 4) rfl g6) hs8 [] rfl trivial (WL.eO 4 Acts.nil J7 hs8 g6 rfl rfl)⟩
 intro _ hs9
 refine WL.r 1 hs9 [] rfl ?_
 apply WL.gO 4 Acts.nil hs9 rfl
 ·intro g10 J11
  have qg10 := g10
  try simp only [bf, within_iff, within_not] at qg10
  refine WL.runA tbk 2 (Acts.nil.cons (j := 10) rfl g10) hs9 [0] rfl ⟨rfl, trivial⟩ (WL.call (wantF rfl g10) rfl rfl (Run.call Tryz.call61 rfl rfl rfl) (k3_ _ _ _ _) ?_)
  rintro _ whs12 ⟨rfl, hs12⟩
  replace hs12 := hs9.call0 hs12
  refine ⟨_, rfl, WL.runA tbk 1 (Acts.nil.cons (j := 10) rfl g10) hs12 [] rfl trivial (WL.eO 4 Acts.nil J11 hs12 g10 rfl rfl)⟩
 intro _ hs13
 refine WL.r 1 hs13 [] rfl (WL.pO tbk 3 Acts.nil hs13 [0] rfl rfl rfl rfl (fun g_ => ⟨rfl, trivial⟩) (WL.nil (WC.cq rfl (fun h14 qh14 => ?_) (fun h14 qh14 => ?_))))
 ·have hA : depA p.dat = false := by rw [depA_i, h14]; rfl
  refine WC.r1 hs13 [] rfl (WC.ret (tkR ?_))
  clear hK4
  refine rtv rfl rfl hs13 ?_
  rw [depotOk_n hA]
 have hA : depA p.dat = true := by rw [depA_i, h14]; rfl
 refine WC.skip (hK4 _ _ (WC.seq (fun K15 hK15 => WC.sr (WL.r 5 hs13 [0] rfl (WL.pO tbk 2 Acts.nil hs13 [0] rfl rfl rfl rfl (fun g_ => ⟨rfl, trivial⟩) (WL.nil ?_))))))
 refine WC.cq rfl (fun h16 qh16 => ?_) (fun h16 qh16 => ?_)
 ·have hB : depB p.dat = true := h16
  refine WC.r1 hs13 [] rfl (WC.ret (tkR ?_))
  clear hK15
  refine rtv rfl rfl hs13 ?_
  rw [depotOk_b hA hB]
 have hB : depB p.dat = false := h16
 refine WC.skip (hK15 _ _ (WC.seq (fun K17 hK17 => WC.rH hs13 hs13 (fun _ hs18 => ?_))))
 refine WH.rn [0, 1, 2, 3] hs18 [0, 0] rfl rfl (WH.o1 4 rfl (WL.cl Tryz.call44 rfl (k15_ _ _ ?_) ?_))
 · first | assumption | rfl | omega | exact tab_st ht (by assumption) | exact hb
 rintro _ whs19 ⟨rfl, hs19⟩
 replace hs19 := hs18.call0 hs19
 refine ⟨_, rfl, WL.nil ⟨hs19, WH.o1 5 rfl (WL.cl Tryz.call58 rfl (k84_ p.Disk _ _ (okDiskR.st0 f_p.Disk hs19) ?_) ?_)⟩⟩
 · first | assumption | rfl | omega | exact tab_st ht (by assumption) | exact hb
 rintro _ whs20 ⟨A21, c22, L1_23, rfl, hs20, ho24⟩
 replace hs20 := hs19.callF hs20
 refine ⟨_, rfl, ?_⟩
 replace hs20 := St.back [_] hs20
 refine WL.nil ⟨(hs20.rm L1_23), WH.rn [6, 7, 8, 9, 10] (hs20.rm L1_23) [] rfl rfl (WH.dn (hK17 _ _ (WC.sr (WL.r 2 hs20 [] rfl (WL.pA tbk 5 Acts.nil hs20 [0] rfl rfl rfl rfl (fun g_ => ⟨rfl, trivial⟩) (WL.r 1 hs20 [] rfl ?_))))))⟩
 refine WL.nil (WC.ret (rtv rfl rfl hs20 ?_))
 rw [depotOk_c hA hB]; rfl
theorem k88_ (p : DepotR) (w : World) (f_p : okDepotR 549755813888 w p) (hb : totDisk p.dat.Disk ≤ 1048576) :
    Calls Tryz.prog 42 #[.agg #[i64 p.Disk.Room, i64 p.Disk.Fuse, i64 p.Disk.Next, .slice p.Disk.Files.A p.Disk.Files.n p.Disk.Files.c, .slice p.Disk.Kept.A p.Disk.Kept.n p.Disk.Kept.c, .slice p.Disk.Turns.A p.Disk.Turns.n p.Disk.Turns.c, i64 p.Gen, i64 p.Seq, i64 p.Size, .bool p.Stuck]] w fun e w' => ∃ r L1, e = .returned (.agg #[i64 r.Disk.Room, i64 r.Disk.Fuse, i64 r.Disk.Next, .slice r.Disk.Files.A r.Disk.Files.n r.Disk.Files.c, .slice r.Disk.Kept.A r.Disk.Kept.n r.Disk.Kept.c, .slice r.Disk.Turns.A r.Disk.Turns.n r.Disk.Turns.c, i64 r.Gen, i64 r.Seq, i64 r.Size, .bool r.Stuck]) ∧ St w [] L1 w' ∧ ownDepotR r L1 ∧ r.dat = p.dat := by
 have nb_p_Disk_Files := f_p.Disk.Files_n
 have nl_p_Disk_Files := f_p.Disk.Files.sl.len
 have nb_p_Disk_Kept := f_p.Disk.Kept_n
 have nl_p_Disk_Kept := f_p.Disk.Kept.len
 have nb_p_Disk_Turns := f_p.Disk.Turns_n
 have nl_p_Disk_Turns := f_p.Disk.Turns.len
 have hsm : smDisk 1048576 p.dat.Disk := totDisk_sm hb
 refine enter 8 Tryz.func42 rfl Tryz.ntmps42 rfl rfl ?_
 have hs1 := St.init w
 refine WC.sr (WL.bx hs1 rfl (fun b2 _ hs3 => WL.al hs3 Tryz.zeroValue36 rfl rfl (fun b4 _ hs5 => WL.nil (WC.sr (WL.r 2 hs5 [1] rfl ?_)))))
 refine WL.cl Tryz.call75 rfl (k85_ p.Disk _ (okDiskR.st0 f_p.Disk hs5) ?_) ?_
 · first | assumption | rfl | omega | exact hsm
 rintro _ whs6 ⟨r7, L1_8, rfl, hs6, ho9, hd10⟩
 replace hs6 := hs5.callF hs6
 refine ⟨_, rfl, ?_⟩
 replace hs6 := St.back [_, _] hs6
 have hcp := hd10
 refine WL.r 1 hs6 [] rfl (WL.st tbk hs6 1 rfl rfl (fun _ hs11 => WL.nil (WC.sr (WL.r 1 hs11 [1] rfl (WL.st tbk hs11 0 rfl rfl (fun _ hs12 => WL.nil (WC.ret ?_)))))))
 refine retV1 rfl (resV.cellA tbk hs12 0 rfl rfl rfl rfl) ?_
 obtain ⟨L13, L14, L15, hs19, ho16, ho17, ho18⟩ := ownDiskR.op hs12 ho9
 have hs20 := ((hs19.fb b2).fb b4)
 obtain ⟨L22, hs21, ho23⟩ := ownDepotR.fl hs20 ho16 ho17 ho18
 have hs24 := ((hs21.fb b2).fb b4)
 refine ownDepotR.ret rfl (St.keep1 (hs24.fr L22)) ho23 ?_
 · exact DepotD.ext' hcp rfl rfl rfl rfl
theorem SlF.varF {α : Type} {F : Enc α} {w : World} {b off : Nat} {x : α} {v : Value} (h : SlF F w (some ⟨b, 0, none⟩) 1 [x]) (hv : (F.enc x)[off]? = some v) : w.cell? ⟨b, off, none⟩ = some v := by
 have h1 := SlF.fld (k := 0) (off := off) h (by omega) (v := v) hv
 have e : ((adr (some (⟨b, 0, none⟩ : Addr))).add (0 * F.sz)).add off = ⟨b, off, none⟩ := by
  rw [Nat.zero_mul]
  show Addr.add (Addr.add ⟨b, 0, none⟩ 0) off = _
  simp [Addr.add]; exact fun h => h.symm
 rwa [e] at h1
def encP : Enc Nat := ⟨1, fun b => [.pointer (some ⟨b, 0, none⟩)], 0, fun _ => rfl, fun x v h => by simp at h; subst h; rfl, by decide⟩
theorem Bag.filt {α : Type} {own : α → Hp → Prop} (p : α → Bool) : ∀ {xs : List α} {Lb : Hp}, Bag own xs Lb → ∃ Lb', Lb'.Sublist Lb ∧ Bag own (xs.filter p) Lb'
 | [], Lb, b => ⟨Lb, List.Sublist.refl _, b⟩
 | x :: r, Lb, b => by
  obtain ⟨L1, L2, rfl, h1, h2⟩ := b
  obtain ⟨L3, h3, h4⟩ := Bag.filt p h2
  cases hp : p x with
  | true => exact ⟨L1 ++ L3, List.Sublist.append_left h3 L1, by rw [List.filter_cons_of_pos hp]; exact ⟨L1, L3, rfl, h1, h4⟩⟩
  | false => exact ⟨L3, h3.trans (sR _), by rw [List.filter_cons_of_neg (by rw [hp]; decide)]; exact h4⟩
theorem Bag.keep {α : Type} {own : α → Hp → Prop} {w0 w : World} {T : List Nat} {R Lb : Hp} {xs : List α} (p : α → Bool) (hs : St w0 T (Lb ++ R) w) (b : Bag own xs Lb) : ∃ Lb', St w0 T (Lb' ++ R) w ∧ Bag own (xs.filter p) Lb' := by
 obtain ⟨Lb', h1, h2⟩ := Bag.filt p b
 exact ⟨Lb', hs.drop (List.Sublist.append_right h1 R), h2⟩
theorem WC.jR2 {P : Program} {n : Nat} {c : Code} {Q : Kont} {f F : Fr} {w0 w : World} {T : List Nat} {R : Hp} (d d2 : Nat) (v2 : Value) (is : List Nat) (hF : rstr is f = some F) (hst : St w0 T R w) (X : Obj → Hp → Prop)
  (h : WC P n c (fun e f' w' => e = .normal ∧ ∃ b o L1, St w0 T ((b, o) :: (L1 ++ R)) w' ∧ X o L1 ∧ Sub ((d, .pointer (some ⟨b, 0, none⟩)) :: (d2, v2) :: F) f') f w)
  (k : ∀ b o L1 w', X o L1 → St w0 T ((b, o) :: (L1 ++ R)) w' → ∀ f', Sub ((d, .pointer (some ⟨b, 0, none⟩)) :: (d2, v2) :: F) f' → Q .normal f' w') : WC P n c Q f w :=
 WC.join _ h fun f' w' ⟨b, o, L1, h1, h2, h3⟩ => k b o L1 w' h2 h1 f' h3
theorem k89_ (l_Name : ByteArray) (l_Id : Int) (b_f : Nat) (f : FileR) (w : World) (f_f : SlF encFileR w (some ⟨b_f, 0, none⟩) 1 [f]) :
    Calls Tryz.prog 144 #[.agg #[.string l_Name, i64 l_Id], .pointer (some ⟨b_f, 0, none⟩)] w fun e w' => e = .returned (.bool (decide (l_Id = f.Id))) ∧ St w [] [] w' := by
 refine enter 9 Tryz.func144 rfl Tryz.ntmps144 rfl rfl ?_
 have hs1 := St.init w
 refine WC.sr (WL.bx hs1 rfl (fun b2 _ hs3 => WL.r 1 hs3 [] rfl (WL.nil (WC.sr (WL.r 2 hs3 [0] rfl ?_)))))
 refine WL.val rfl rfl rfl (Run.field Tryz.runUnderlying123 rfl rfl rfl Tryz.sizeOf3 rfl) ?_
 refine WL.val rfl rfl rfl (Run.load Tryz.isAgg3 rfl rfl (SlF.varF (off := 0) (SlF.st0 f_f hs3) rfl)) (WL.r 2 hs3 [] rfl (WL.nil (WC.ret (rtv rfl rfl hs3 ?_))))
 rfl
theorem k90_ (A_s : Option Addr) (n_s c_s : Nat) (s : List LinkD) (b_f : Nat) (fq : FileR) (w : World) (f_s : SlF encLink w A_s n_s s) (f_f : SlF encFileR w (some ⟨b_f, 0, none⟩) 1 [fq]) (hn : n_s ≤ 1099511627776) :
    Calls Tryz.prog 175 #[.slice A_s n_s c_s, .func (.func 144) #[] #[.pointer (some ⟨b_f, 0, none⟩)]] w fun e w' => e = .returned (.int .i64 (findI (fun l : LinkD => decide (l.Id = fq.Id)) s)) ∧ St w [] [] w' := by
 have hl := f_s.len
 refine enter 19 Tryz.func175 rfl Tryz.ntmps175 rfl rfl ?_
 have hs1 := St.init w
 refine WC.r1 hs1 [] rfl (WC.seq (fun K2 hK2 => WC.r1 hs1 [] rfl (WC.block ?_)))
 refine WC.lS [0, 1, 7] rfl hs1 (fun k_ f w' => ∃ (i : Nat), k_ = n_s - i ∧ (i ≤ n_s) ∧ (∀ j, j < i → (fun l : LinkD => decide (l.Id = fq.Id)) (gat encLink s j) = false) ∧ Sub [(8, .int .i64 i)] f) ((fun (i : Nat) => n_s - i) (0)) ?_ ?_
 ·refine ⟨0, rfl, ?_, ?_, ⟨rfl, trivial⟩⟩
  · exact Nat.zero_le _
  · exact fun j hj => absurd hj (by omega)
 clear hs1
 rintro _ f w ⟨i, rfl, p0, p1, hG⟩ hF hs3
 refine WC.sub _ (hG.app hF) ?_
 clear hG hF
 refine WC.r1 hs3 [] rfl (WC.seq (fun K4 hK4 => ?_))
 refine WC.cq rfl (fun h5 qh5 => ?_) (fun h5 qh5 => ?_)
 ·refine WC.skip (hK4 _ _ (WC.seq (fun K6 hK6 => WC.block (WC.r1 hs3 [] rfl (WC.sr (WL.r 3 hs3 [] rfl ?_))))))
  refine WL.val rfl rfl rfl (Run.idxN Tryz.runUnderlying31 Tryz.sizeOf101 rfl rfl rfl ?_ ?_ ?_) ?_
  · exact SlF.some_ (SlF.st0 f_s hs3)
  · omega
  · omega
  refine WL.val rfl rfl rfl (Run.loadA Tryz.isAgg101 Tryz.sizeOf101 rfl rfl (SlF.whole (SlF.st0 f_s hs3) ?_)) ?_
  · omega
  refine WL.call rfl rfl rfl (Run.callC Tryz.call144 rfl rfl rfl) (k89_ _ _ _ _ _ (SlF.st0 f_f hs3)) ?_
  rintro _ whs7 ⟨rfl, hs7⟩
  replace hs7 := hs3.call0 hs7
  refine ⟨_, rfl, WL.nil (WC.cq rfl (fun h8 qh8 => ?_) (fun h8 qh8 => ?_))⟩
  ·refine WC.r1 hs7 [] rfl (WC.ret (ibR (tkR (tkR (ibR (tkR ?_))))))
   clear hK6 hK2
   refine rtv rfl rfl hs7 ?_
   rw [findI_some (F := encLink) (i := i) (by omega) p1 h8]
  refine WC.skip (hK6 _ _ (WC.region (WL.r 2 hs7 [] rfl (WL.nil (tkN ?_)))))
  refine ⟨sbF rfl, hs7, _, ?_, i + 1, rfl, ?_, ?_, ⟨rfl, trivial⟩⟩
  · omega
  · omega
  · intro j hj; rcases Nat.lt_or_ge j i with h_ | h_
    · exact p1 j h_
    · obtain rfl : j = i := by omega
      exact h8
 refine WC.exit (hK2 _ _ (WC.r1 hs3 [] rfl (WC.ret (rtv rfl rfl hs3 ?_))))
 rw [findI_none (F := encLink) (fun j hj => p1 j (by omega))]
theorem k91_ (A_s : Option Addr) (n_s c_s : Nat) (s : List LinkD) (b_f : Nat) (fq : FileR) (w : World) (f_s : SlF encLink w A_s n_s s) (f_f : SlF encFileR w (some ⟨b_f, 0, none⟩) 1 [fq]) (hn : n_s ≤ 1099511627776) :
    Calls Tryz.prog 143 #[.slice A_s n_s c_s, .func (.func 144) #[] #[.pointer (some ⟨b_f, 0, none⟩)]] w fun e w' => e = .returned (.bool (linkd s fq.Id)) ∧ St w [] [] w' := by
 refine enter 9 Tryz.func143 rfl Tryz.ntmps143 rfl rfl ?_
 have hs1 := St.init w
 refine WC.r1 hs1 [] rfl (WC.sr (WL.r 2 hs1 [] rfl (WL.cl Tryz.call175 rfl (k90_ _ _ _ _ _ _ _ (SlF.st0 f_s hs1) (SlF.st0 f_f hs1) ?_) ?_)))
 · first | assumption | rfl | omega
 rintro _ whs2 ⟨rfl, hs2⟩
 replace hs2 := hs1.call0 hs2
 refine ⟨_, rfl, WL.r 2 hs2 [] rfl (WL.nil (WC.ret (rtv rfl rfl hs2 ?_)))⟩
 rw [linkd_find]
theorem k92_ (f : FileR) (b_p b_d : Nat) (d : DiskR) (w : World) (f_p : SlF encP w (some ⟨b_p, 0, none⟩) 1 [b_d]) (f_b : SlF encDiskR w (some ⟨b_d, 0, none⟩) 1 [d]) (f_K : SlF encLink w d.Kept.A d.Kept.n d.Kept.xs) (hn : d.Kept.n ≤ 1099511627776) :
    Calls Tryz.prog 142 #[.agg #[i64 f.Id, .slice f.Body.A f.Body.n f.Body.c, i64 f.Safe], .pointer (some ⟨b_p, 0, none⟩)] w fun e w' => e = .returned (.bool (!linkd d.Kept.xs f.Id)) ∧ St w [] [] w' := by
 refine enter 11 Tryz.func142 rfl Tryz.ntmps142 rfl rfl ?_
 have hs1 := St.init w
 refine WC.sr (WL.bx hs1 rfl (fun b2 _ hs3 => WL.r 1 hs3 [] rfl (WL.nil (WC.sr (WL.val rfl rfl rfl (Run.load Tryz.isAgg168 rfl rfl (SlF.var (SlF.st0 f_p hs3) rfl)) (WL.r 1 hs3 [] rfl ?_))))))
 refine WL.val rfl rfl rfl (Run.field Tryz.runUnderlying34 rfl rfl rfl Tryz.sizeOf31 rfl) ?_
 refine WL.val rfl rfl rfl (Run.load Tryz.isAgg31 rfl rfl (SlF.varF (off := 4) (SlF.st0 f_b hs3) rfl)) (WL.val rfl rfl rfl (Run.makeFunc rfl rfl) (WL.cl Tryz.call143 rfl (k91_ _ _ _ _ _ _ _ (SlF.st0 f_K hs3) (SlF.own1 (hs3.own _ (nthL_mem (i := 0) rfl)).1) ?_) ?_))
 · first | assumption | rfl | omega
 rintro _ whs4 ⟨rfl, hs4⟩
 replace hs4 := hs3.call0 hs4
 refine ⟨_, rfl, WL.r 2 hs4 [] rfl (WL.nil (WC.ret (rtv rfl rfl hs4 ?_)))⟩
 rfl
theorem k93_ (A_s : Option Addr) (n_s c_s : Nat) (s : List FileR) (b_p b_d : Nat) (d : DiskR) (w : World) (f_s : SlF encFileR w A_s n_s s) (f_p : SlF encP w (some ⟨b_p, 0, none⟩) 1 [b_d]) (f_b : SlF encDiskR w (some ⟨b_d, 0, none⟩) 1 [d]) (f_K : SlF encLink w d.Kept.A d.Kept.n d.Kept.xs) (hn : n_s ≤ 1099511627776) (hk : d.Kept.n ≤ 1099511627776) :
    Calls Tryz.prog 170 #[.slice A_s n_s c_s, .func (.func 142) #[] #[.pointer (some ⟨b_p, 0, none⟩)]] w fun e w' => e = .returned (.int .i64 (findI (fun f : FileR => !linkd d.Kept.xs f.Id) s)) ∧ St w [] [] w' := by
 have hl := f_s.len
 refine enter 19 Tryz.func170 rfl Tryz.ntmps170 rfl rfl ?_
 have hs1 := St.init w
 refine WC.r1 hs1 [] rfl (WC.seq (fun K2 hK2 => WC.r1 hs1 [] rfl (WC.block ?_)))
 refine WC.lS [0, 1, 7] rfl hs1 (fun k_ f w' => ∃ (i : Nat), k_ = n_s - i ∧ (i ≤ n_s) ∧ (∀ j, j < i → (fun f : FileR => !linkd d.Kept.xs f.Id) (gat encFileR s j) = false) ∧ Sub [(8, .int .i64 i)] f) ((fun (i : Nat) => n_s - i) (0)) ?_ ?_
 ·refine ⟨0, rfl, ?_, ?_, ⟨rfl, trivial⟩⟩
  · exact Nat.zero_le _
  · exact fun j hj => absurd hj (by omega)
 clear hs1
 rintro _ f w ⟨i, rfl, p0, p1, hG⟩ hF hs3
 refine WC.sub _ (hG.app hF) ?_
 clear hG hF
 refine WC.r1 hs3 [] rfl (WC.seq (fun K4 hK4 => ?_))
 refine WC.cq rfl (fun h5 qh5 => ?_) (fun h5 qh5 => ?_)
 ·refine WC.skip (hK4 _ _ (WC.seq (fun K6 hK6 => WC.block (WC.r1 hs3 [] rfl (WC.sr (WL.r 3 hs3 [] rfl ?_))))))
  refine WL.val rfl rfl rfl (Run.idxN Tryz.runUnderlying30 Tryz.sizeOf123 rfl rfl rfl ?_ ?_ ?_) ?_
  · exact SlF.some_ (SlF.st0 f_s hs3)
  · omega
  · omega
  refine WL.val rfl rfl rfl (Run.loadA Tryz.isAgg123 Tryz.sizeOf123 rfl rfl (SlF.whole (SlF.st0 f_s hs3) ?_)) ?_
  · omega
  refine WL.call rfl rfl rfl (Run.callC Tryz.call142 rfl rfl rfl) (k92_ _ _ _ _ _ (SlF.st0 f_p hs3) (SlF.st0 f_b hs3) (SlF.st0 f_K hs3) ?_) ?_
  · first | assumption | rfl | omega
  rintro _ whs7 ⟨rfl, hs7⟩
  replace hs7 := hs3.call0 hs7
  refine ⟨_, rfl, WL.nil (WC.cq rfl (fun h8 qh8 => ?_) (fun h8 qh8 => ?_))⟩
  ·refine WC.r1 hs7 [] rfl (WC.ret (ibR (tkR (tkR (ibR (tkR ?_))))))
   clear hK6 hK2
   refine rtv rfl rfl hs7 ?_
   rw [findI_some (F := encFileR) (i := i) (by omega) p1 h8]
  refine WC.skip (hK6 _ _ (WC.region (WL.r 2 hs7 [] rfl (WL.nil (tkN ?_)))))
  refine ⟨sbF rfl, hs7, _, ?_, i + 1, rfl, ?_, ?_, ⟨rfl, trivial⟩⟩
  · omega
  · omega
  · intro j hj; rcases Nat.lt_or_ge j i with h_ | h_
    · exact p1 j h_
    · obtain rfl : j = i := by omega
      exact h8
 refine WC.exit (hK2 _ _ (WC.r1 hs3 [] rfl (WC.ret (rtv rfl rfl hs3 ?_))))
 rw [findI_none (F := encFileR) (fun j hj => p1 j (by omega))]
theorem k94_ (v_s : Value) (s : List FileR) (L_s : Hp) (b_p b_d : Nat) (d : DiskR) (w : World) (o_s : OwnF encFileR 123 v_s s L_s) (h_s : Hh w L_s) (f_p : SlF encP w (some ⟨b_p, 0, none⟩) 1 [b_d]) (f_b : SlF encDiskR w (some ⟨b_d, 0, none⟩) 1 [d]) (f_K : SlF encLink w d.Kept.A d.Kept.n d.Kept.xs) (s_p : b_p ∉ L_s.map (·.1)) (s_b : b_d ∉ L_s.map (·.1)) (s_K : 0 < d.Kept.n → (adr d.Kept.A).block ∉ L_s.map (·.1)) (hn : s.length ≤ 268435456) (hk : d.Kept.n ≤ 1099511627776) :
    Calls Tryz.prog 141 #[v_s, .func (.func 142) #[] #[.pointer (some ⟨b_p, 0, none⟩)]] w fun e w' => ∃ A c L1, e = .returned (.slice A (s.filter (fun f : FileR => linkd d.Kept.xs f.Id)).length c) ∧ St w (L_s.map (·.1)) L1 w' ∧ OwnF encFileR 123 (.slice A (s.filter (fun f : FileR => linkd d.Kept.xs f.Id)).length c) (s.filter (fun f : FileR => linkd d.Kept.xs f.Id)) L1 := by
 obtain ⟨A_s, c_s, rfl⟩ := o_s.shape
 refine enter 42 Tryz.func141 rfl Tryz.ntmps141 rfl rfl ?_
 have hs1 := St.lent1 w L_s o_s h_s
 refine WC.r1 hs1 [] rfl ?_
 refine WC.sr ?_
 refine WL.r 2 hs1 [] rfl ?_
 refine WL.cl Tryz.call170 rfl (k93_ _ _ _ _ _ _ _ _ (SlF.ofOwn o_s (hs1.ow L_s)) (SlF.st f_p hs1 (fun _ => s_p)) (SlF.st f_b hs1 (fun _ => s_b)) (SlF.st f_K hs1 s_K) ?_ ?_) ?_
 iterate 2 first | assumption | rfl | omega
 rintro _ whs2 ⟨rfl, hs2⟩
 replace hs2 := hs1.call0 hs2
 refine ⟨_, rfl, ?_⟩
 refine WL.r 1 hs2 [] rfl ?_
 refine WL.nil ?_
 refine WC.seq (fun K3 hK3 => ?_)
 refine WC.r1 hs2 [] rfl ?_
 refine WC.cq rfl (fun h4 qh4 => ?_) (fun h4 qh4 => ?_)
 ·have hall : s.filter (fun f : FileR => linkd d.Kept.xs f.Id) = s := by
    rcases findI_cases (p := (fun f : FileR => !linkd d.Kept.xs f.Id)) (xs := s) with ⟨_, h1_⟩ | ⟨i1, _, h1_, _⟩
    · exact List.filter_eq_self.2 (fun x hx => by have h9 := h1_ x hx; simpa using h9)
    · omega
  refine WC.r1 hs2 [] rfl ?_
  refine WC.ret ?_
  refine tkR ?_
  clear hK3
  refine retV1 rfl (resV.tmp rfl) ?_
  have hx_ := OwnF.eqOf (xs := s.filter (fun f : FileR => linkd d.Kept.xs f.Id)) o_s (by rw [hall])
  rw [← hx_]
  first | exact ⟨_, _, _, rfl, (St.keep1 hs2), o_s⟩ | exact ⟨A_s, c_s, _, by rw [OwnF.len_ o_s], (St.keep1 hs2), by rw [OwnF.len_ o_s]; exact o_s⟩
 obtain ⟨i0, hi0, hf0, hp0, hb0⟩ : ∃ i0 : Nat, ∃ hi : i0 < s.length, findI (fun f : FileR => !linkd d.Kept.xs f.Id) s = (i0 : Int) ∧ (fun f : FileR => !linkd d.Kept.xs f.Id) s[i0] = true ∧ ∀ j (hj : j < i0), (fun f : FileR => !linkd d.Kept.xs f.Id) (s[j]'(by omega)) = false := by
   rcases findI_cases (p := (fun f : FileR => !linkd d.Kept.xs f.Id)) (xs := s) with ⟨h1_, _⟩ | ⟨i1, hi, h1_, h2_, h3_⟩
   · omega
   · exact ⟨i1, hi, h1_, h2_, h3_⟩
 rw [hf0]
 have hinit : s.take i0 = (s.take (i0 + 1)).filter (fun f : FileR => linkd d.Kept.xs f.Id) := by
   rw [filter_take (F := encFileR) hi0]
   have hg : gat encFileR s i0 = s[i0] := by have e_ := gat_get (F := encFileR) hi0; rw [List.getElem?_eq_getElem hi0] at e_; exact (Option.some.inj e_).symm
   rw [if_neg (by rw [hg]; simpa using hp0), List.append_nil]
   symm
   refine List.filter_eq_self.2 (fun x hx => ?_)
   obtain ⟨j, hj, rfl⟩ := List.mem_iff_getElem.1 hx
   rw [List.length_take] at hj
   rw [List.getElem_take]
   have h9 := hb0 j (by omega)
   simpa using h9
 refine WC.skip ?_
 refine hK3 _ _ ?_
 refine WC.seq (fun K5 hK5 => ?_)
 refine WC.r1 hs2 [] rfl ?_
 refine WC.block ?_
 refine WC.lO [1, 4, 12] rfl hs2 (fun k_ f L_ => ∃ (zs : List FileR) (i j : Nat), k_ = s.length - j ∧ (i < j) ∧ (j ≤ s.length) ∧ (zs.length = s.length) ∧ (zs.take i = (s.take j).filter (fun f : FileR => linkd d.Kept.xs f.Id)) ∧ (∀ k, j ≤ k → gat encFileR zs k = gat encFileR s k) ∧ OwnF encFileR 123 (.slice A_s (s.length) c_s) (zs) L_ ∧ Sub [(0, .slice A_s (s.length) c_s), (5, .int .i64 i), (6, .int .i64 j)] f) (((fun (zs : List FileR) (i j : Nat) => s.length - j) (s) (i0) ((i0 + 1)))) ?_ ?_
 ·refine ⟨s, i0, (i0 + 1), rfl, ?_, ?_, ?_, ?_, ?_, o_s, ⟨rfl, rfl, rfl, trivial⟩⟩
  · omega
  · omega
  · rfl
  · exact hinit
  · exact fun k _ => rfl
 clear hs2
 rintro _ f w L8 ⟨zs, i, j, rfl, p0, p1, p2, p3, p4, ho9, hG⟩ hF hs10
 refine WC.sub _ (hG.app hF) ?_
 clear hG hF
 refine WC.seq (fun K11 hK11 => ?_)
 refine WC.r1 hs10 [] rfl ?_
 refine WC.cq rfl (fun h12 qh12 => ?_) (fun h12 qh12 => ?_)
 ·refine WC.skip ?_
  refine hK11 _ _ ?_
  refine WC.seq (fun K13 hK13 => ?_)
  refine WC.block ?_
  refine WC.sr ?_
  refine WL.r 2 hs10 [] rfl ?_
  refine WL.val rfl rfl rfl (Run.idxN Tryz.runUnderlying30 Tryz.sizeOf123 rfl rfl rfl ?_ ?_ ?_) ?_
  · exact SlF.some_ (SlF.ofOwn ho9 (hs10.ow L8))
  · omega
  · omega
  refine WL.val rfl rfl rfl (Run.loadA Tryz.isAgg123 Tryz.sizeOf123 rfl rfl (SlF.whole (SlF.ofOwn ho9 (hs10.ow L8)) ?_)) ?_
  · omega
  refine WL.al hs10 Tryz.zeroValue123 rfl rfl (fun b14 _ hs15 => ?_)
  refine WL.st tbk hs15 0 rfl rfl (fun _ hs16 => ?_)
  refine WL.nil ?_
  refine WC.sr ?_
  refine WL.r 2 hs16 [0] rfl ?_
  refine WL.call rfl rfl rfl (Run.callC Tryz.call142 rfl rfl rfl) (k92_ _ _ _ _ _ (SlF.st f_p hs16 (fun _ => s_p)) (SlF.st f_b hs16 (fun _ => s_b)) (SlF.st f_K hs16 s_K) ?_) ?_
  · first | assumption | rfl | omega
  rintro _ whs17 ⟨rfl, hs17⟩
  replace hs17 := hs16.call0 hs17
  refine ⟨_, rfl, ?_⟩
  refine WL.r 1 hs17 [] rfl ?_
  refine WL.nil ?_
  refine WC.cq rfl (fun h18 qh18 => ?_) (fun h18 qh18 => ?_)
  ·refine WC.sr ?_
   refine WL.r 3 hs17 [0] rfl ?_
   refine WL.val rfl rfl rfl (Run.idxN Tryz.runUnderlying30 Tryz.sizeOf123 rfl rfl rfl ?_ ?_ ?_) ?_
   · exact SlF.some_ (SlF.ofOwn ho9 (hs17.ow L8))
   · omega
   · omega
   refine WL.storeF1 (x' := (gat encFileR zs j)) (hs17.fr L8) ho9 Tryz.sizeOf123 rfl rfl rfl rfl rfl rfl rfl rfl rfl ?_ rfl (fun L19 whs20 hs20 ho21 _ => ?_)
   · omega
   replace hs20 := St.back [_] hs20
   refine WL.nil ?_
   refine WC.region ?_
   refine WL.r 3 hs20 [] rfl ?_
   refine WL.nil ?_
   refine hK13 _ _ ?_
   refine WC.region ?_
   refine WL.r 3 hs20 [] rfl ?_
   refine WL.nil ?_
   refine tkN ?_
   replace hs20 := hs20.d1
   refine ⟨sbF rfl, _, hs20, _, ?_, _, (i + 1), (j + 1), rfl, ?_, ?_, ?_, ?_, ?_, ho21, ⟨rfl, rfl, rfl, trivial⟩⟩
   · omega
   · omega
   · omega
   · first | omega | (rw [List.length_set]; omega)
   · first | (rw [set_take (by omega), p3, filter_take (F := encFileR) (by omega), if_pos (by rw [← p4 j (Nat.le_refl _)]; simpa using h18), p4 j (Nat.le_refl _)]) | (rw [p3, filter_take (F := encFileR) (by omega), if_neg (by rw [← p4 j (Nat.le_refl _)]; simpa using h18), List.append_nil])
   · intro k hk; first | (rw [gat_set_ne (by omega)]; exact p4 k (by omega)) | exact p4 k (by omega)
  refine WC.skip ?_
  refine hK13 _ _ ?_
  refine WC.region ?_
  refine WL.r 3 hs17 [] rfl ?_
  refine WL.nil ?_
  refine tkN ?_
  replace hs17 := hs17.d1
  refine ⟨sbF rfl, _, hs17, _, ?_, _, i, (j + 1), rfl, ?_, ?_, ?_, ?_, ?_, ho9, ⟨rfl, rfl, rfl, trivial⟩⟩
  · omega
  · omega
  · omega
  · first | omega | (rw [List.length_set]; omega)
  · first | (rw [set_take (by omega), p3, filter_take (F := encFileR) (by omega), if_pos (by rw [← p4 j (Nat.le_refl _)]; simpa using h18), p4 j (Nat.le_refl _)]) | (rw [p3, filter_take (F := encFileR) (by omega), if_neg (by rw [← p4 j (Nat.le_refl _)]; simpa using h18), List.append_nil])
  · intro k hk; first | (rw [gat_set_ne (by omega)]; exact p4 k (by omega)) | exact p4 k (by omega)
 refine WC.exit ?_
 refine hK5 _ _ ?_
 refine WC.sr ?_
 refine WL.r 2 hs10 [] rfl ?_
 have hc_ := OwnF.cap ho9
 refine WL.val rfl rfl rfl (Run.sliceL (i) Tryz.runUnderlying30 Tryz.sizeOf123 rfl rfl rfl ?_ ?_) ?_
 · first | rfl | (omega)
 · refine ⟨?_, ?_, ?_⟩ <;> (omega)
 refine WL.clearF (lo := i) hs10 ho9 Tryz.underlying30 Tryz.zeroValue123 rfl rfl rfl rfl rfl ?_ (fun L22 whs23 hs23 ho24 _ => ?_)
 · omega
 refine WL.nil ?_
 refine WC.sr ?_
 refine WL.r 2 hs23 [] rfl ?_
 have ho25 := OwnF.take (k := i) ho24 (by omega)
 have hcho25 := OwnF.cap ho25
 refine WL.val rfl rfl rfl (Run.sliceH0 (i) Tryz.runUnderlying30 Tryz.sizeOf123 rfl rfl rfl ?_ ?_) ?_
 · first | rfl | (omega)
 · first | (exact Nat.zero_le _) | (omega)
 refine WL.r 1 hs23 [] rfl ?_
 refine WL.nil ?_
 refine WC.ret ?_
 refine retV1 rfl (resV.tmp rfl) ?_
 have hx_ := OwnF.eqOf (xs := s.filter (fun f : FileR => linkd d.Kept.xs f.Id)) ho25 (by first | (rw [List.take_left' (by rw [List.length_take]; omega), p3, List.take_of_length_le (by omega)]) | (rw [List.take_append_of_le_length (by rw [List.length_take]; omega), List.take_take, Nat.min_self, p3, List.take_of_length_le (by omega)]))
 rw [← hx_]
 first | exact ⟨_, _, _, rfl, (St.keep1 hs23), ho25⟩ | exact ⟨A_s, c_s, _, by rw [OwnF.len_ ho25], (St.keep1 hs23), by rw [OwnF.len_ ho25]; exact ho25⟩
theorem k95_ (b_s : Nat) (s : DiskR) (L_s : Hp) (w : World) (hb_s : w.heap[b_s]? = some (Obj.cells (List.toArray [i64 s.Room, i64 s.Fuse, i64 s.Next, .slice s.Files.A s.Files.n s.Files.c, .slice s.Kept.A s.Kept.n s.Kept.c, .slice s.Turns.A s.Turns.n s.Turns.c]) 34 (0, 0))) (o_s : ownDiskR s L_s) (h_s : Hh w L_s) (hd_ : (b_s :: L_s.map (·.1)).Nodup) (hn : s.Files.xs.length ≤ 1048576) (hk : s.Kept.n ≤ 1048576) :
    Calls Tryz.prog 85 #[.pointer (some ⟨b_s, 0, none⟩)] w fun e w' => ∃ r L1, e = .returned (.tuple #[]) ∧ St w (b_s :: L_s.map (·.1)) ([(b_s, Obj.cells (List.toArray [i64 r.Room, i64 r.Fuse, i64 r.Next, .slice r.Files.A r.Files.n r.Files.c, .slice r.Kept.A r.Kept.n r.Kept.c, .slice r.Turns.A r.Turns.n r.Turns.c]) 34 (0, 0))] ++ L1) w' ∧ ownDiskR r L1 ∧ r.dat = ({ s.dat with Files := onlyL s.dat.Kept s.dat.Files } : DiskD) := by
 refine enter 11 Tryz.func85 rfl Tryz.ntmps85 rfl rfl ?_
 have hs1 := St.takeP w b_s _ L_s hb_s h_s hd_
 refine WC.sr (WL.bx hs1 rfl (fun b2 _ hs3 => WL.nil (WC.rG 9 ((hs3.fb b_s).d1.rm L_s) (hs3.rm L_s) hs3 (fun _ hs4 => ?_))))
 refine WG.rn [0, 1, 2, 3, 4] (hs4.rm L_s) [0, 0, 1] rfl rfl ?_
 refine WG.tk 5 rfl (by kernel_rfl) rfl rfl rfl (hs4.rm L_s) (fun w_ hs_ => (Run.makeFunc rfl rfl)) ?_
 refine WG.o1 6 rfl rfl ?_
 obtain ⟨L6, L7, L8, hs12, ho9, ho10, ho11⟩ := ownDiskR.op hs4 o_s
 have hs13 := ((hs12.fb b_s).fb b2)
 obtain ⟨L14, L15, hs18, ho16, ho17⟩ := OwnN.open_ (hs13.fr L6) ho9
 have hs19 := ((hs18.fb b_s).fb b2)
 refine WL.cl Tryz.call141 rfl (k94_ _ _ _ _ _ _ _ ho16 (hs19.ow L14) (SlF.own1 (hs19.own _ (nthL_mem (i := 0) rfl)).1) (SlF.own1 (hs19.own _ (nthL_mem (i := 1) rfl)).1) (SlF.ofOwn ho10 (hs19.ow L7)) (St.sepOwn (hs19.fr L14) (nthL_mem (i := 0) rfl)) (St.sepOwn (hs19.fr L14) (nthL_mem (i := 1) rfl)) (OwnF.sep (hs19.fr L14) (fun p_ hp_ => (List.mem_append_right [_, _] (List.mem_append_right _ (List.mem_append_left _ hp_)))) ho10) ?_ ?_) ?_
 iterate 2 first | assumption | rfl | omega
 rintro _ whs5 ⟨A20, c21, L1_22, rfl, hs5, ho23⟩
 replace hs5 := St.lend (hs19.fr L14) hs5
 refine ⟨_, rfl, ?_⟩
 replace hs5 := St.back [_, _] hs5
 obtain ⟨L24, hs25, hb26⟩ := Bag.keep (fun f : FileR => linkd s.Kept.xs f.Id) (hs5.fr L15) ho17
 have hs27 := ((hs25.fb b_s).fb b2)
 obtain ⟨L29, hs28, ho30⟩ := OwnN.fold ((hs27.fr L24).fr L1_22) ho23 hb26
 have hs31 := ((hs28.fb b_s).fb b2)
 skip
 refine WL.nil ⟨(((hs31.rm L29).rm L7).rm L8), WG.rn [7, 8] (((hs31.rm L29).rm L7).rm L8) [] rfl rfl (WG.oK rfl (WL.st tbk hs31 1 rfl rfl (fun _ hs32 => WL.nil ⟨((((hs32.fb b_s).d1.rm L29).rm L7).rm L8), WH.dn (retK0 rfl ?_)⟩)))⟩
 obtain ⟨L34, hs33, ho35⟩ := ownDiskR.fl hs32 ho30 ho10 ho11
 have hs36 := ((hs33.fb b_s).fb b2)
 refine ownDiskR.retp rfl ((hs36.fr L34).fb b_s) ho35 ?_
 · exact DiskD.ext' rfl rfl rfl onlyL_dat rfl rfl
theorem built_123_0 (x0 : Int) : Tryz.prog.built 123 [(0, .int .i64 x0)] = some (List.toArray [.int .i64 x0, .slice none 0 0, .int .i64 0]) := by kernel_rfl
theorem built_137_0_1_3 (x0 : Int) (x1 : ByteArray) (x2 : Int) : Tryz.prog.built 137 [(0, .int .i64 x0), (1, .string x1), (3, .int .i64 x2)] = some (List.toArray [.int .i64 x0, .string x1, .string ⟨#[]⟩, .int .i64 x2]) := by kernel_rfl
theorem built_137_0_1_2 (x0 : Int) (x1 : ByteArray) (x2 : ByteArray) : Tryz.prog.built 137 [(0, .int .i64 x0), (1, .string x1), (2, .string x2)] = some (List.toArray [.int .i64 x0, .string x1, .string x2, .int .i64 0]) := by kernel_rfl
set_option maxHeartbeats 8000000 in
theorem k96_ (b_s : Nat) (s : DiskR) (L_s : Hp) (op_Kind : Int) (op_Name : ByteArray) (op_To : ByteArray) (A_op_Data : Option Addr) (n_op_Data c_op_Data : Nat) (op_Data : List UInt8) (w : World) (hb_s : w.heap[b_s]? = some (Obj.cells (List.toArray [i64 s.Room, i64 s.Fuse, i64 s.Next, .slice s.Files.A s.Files.n s.Files.c, .slice s.Kept.A s.Kept.n s.Kept.c, .slice s.Turns.A s.Turns.n s.Turns.c]) 34 (0, 0))) (o_s : ownDiskR s L_s) (h_s : Hh w L_s) (f_op_Data : SlF encB w A_op_Data n_op_Data op_Data) (hcd : n_op_Data ≤ c_op_Data) (hd_ : (b_s :: L_s.map (·.1)).Nodup) (s_op_Data : 0 < n_op_Data → (adr A_op_Data).block ∉ (b_s :: L_s.map (·.1))) (hok : diskOk s.dat = true) (hr : refuse s.dat (⟨op_Kind, op_Name, op_To, op_Data⟩ : DiskOpD) = 0) (ho : dopOk (⟨op_Kind, op_Name, op_To, op_Data⟩ : DiskOpD) = true) (hsm : smDisk 549755813888 s.dat) :
    Calls Tryz.prog 90 #[.pointer (some ⟨b_s, 0, none⟩), .agg #[i64 op_Kind, .string op_Name, .string op_To, .slice A_op_Data n_op_Data c_op_Data]] w fun e w' => ∃ r L1, e = .returned (.int .i64 (doC s.dat (⟨op_Kind, op_Name, op_To, op_Data⟩ : DiskOpD))) ∧ St w (b_s :: L_s.map (·.1)) ([(b_s, Obj.cells (List.toArray [i64 r.Room, i64 r.Fuse, i64 r.Next, .slice r.Files.A r.Files.n r.Files.c, .slice r.Kept.A r.Kept.n r.Kept.c, .slice r.Turns.A r.Turns.n r.Turns.c]) 34 (0, 0))] ++ L1) w' ∧ ownDiskR r L1 ∧ r.dat = doD (fuse1 s.dat) (⟨op_Kind, op_Name, op_To, op_Data⟩ : DiskOpD) := by
 have hD := diskOk_P hok
 have hsmF : smDisk 549755813888 (fuse1 s.dat) := hsm
 have nl9 := f_op_Data.len
 have hn9 : n_op_Data ≤ 400000 := by have h9 := dop_len ho; simp only at h9; omega
 refine enter 158 Tryz.func90 rfl Tryz.ntmps90 rfl rfl ?_
 have hs1 := St.takeP w b_s _ L_s hb_s h_s hd_
 refine WC.sr (WL.bx hs1 rfl (fun b2 _ hs3 => WL.r 1 hs3 [] rfl (WL.nil (WC.seq (fun K4 hK4 => WC.r1 hs3 [1] rfl ?_)))))
 refine WC.jPK [0, 1, 3, 4, 8, 9, 10, 11, 12] rfl ((hs3.fr L_s).fb b_s) (fun o_ L_ => ∃ r : DiskR, o_ = Obj.cells (List.toArray [i64 r.Room, i64 r.Fuse, i64 r.Next, .slice r.Files.A r.Files.n r.Files.c, .slice r.Kept.A r.Kept.n r.Kept.c, .slice r.Turns.A r.Turns.n r.Turns.c]) 34 (0, 0) ∧ ownDiskR r L_ ∧ r.dat = fuse1 s.dat) ?_ ?_
 ·refine WC.cq rfl (fun h5 qh5 => ?_) (fun h5 qh5 => ?_)
  ·have hfu := h5
   have hfu2 := hD.small.2.2.2.2.2.2.1
   have hfu3 : s.Fuse ≤ 1000 := hfu2
   have hfu4 : 0 < s.Fuse := by simpa using hfu
   refine WC.region (WL.r 7 hs3 [1] rfl (WL.st tbk hs3 1 rfl rfl (fun _ hs6 => WL.nil ?_)))
   obtain ⟨L7, L8, L9, hs13, ho10, ho11, ho12⟩ := ownDiskR.op hs6 o_s
   have hs14 := ((hs13.fb b_s).fb b2)
   obtain ⟨L16, hs15, ho17⟩ := ownDiskR.fl hs14 ho10 ho11 ho12
   have hs18 := ((hs15.fb b_s).fb b2)
   refine tkN ⟨_, _, ((hs18.fr L16).fb b_s), ⟨⟨s.Room, (s.Fuse - (1)), s.Next, SlD.ofN ho10, SlD.of ho11, SlD.of ho12⟩, rfl, (by exact ho17), ?_⟩, sbF rfl⟩
   · unfold fuse1; rw [if_pos (show 0 < s.dat.Fuse from by show 0 < s.Fuse; simpa using hfu)]; first | done | rfl
  have hfu := h5
  refine WC.skip (tkN ⟨_, _, ((hs3.fr L_s).fb b_s), ⟨s, rfl, o_s, ?_⟩, sbF rfl⟩)
  · unfold fuse1; rw [if_neg (show ¬ 0 < s.dat.Fuse from by show ¬ 0 < s.Fuse; simpa using hfu)]; first | done | rfl
 rintro _ L19 _ ⟨r20, rfl, ho21, hd22⟩ hs23 f_ hf_
 refine hK4 _ _ (WC.sub _ hf_ ?_)
 clear hf_
 have hs24 := ((hs23.fb b2).fb b_s)
 have hsmr : smDisk 549755813888 (DiskR.dat r20) := by rw [hd22]; exact hsmF
 have hro := ownDiskR.ok (B := 549755813888) ho21 (hs24.ow L19) hsmr
 have hrok : diskOk (DiskR.dat r20) = true := by rw [hd22]; exact fuse_ok hok (refuse_fuse hr)
 have hrD := diskOk_P hrok
 have hrN : r20.Next = s.Next := congrArg DiskD.Next hd22
 have hrF : (DiskR.dat r20).Files = s.dat.Files := (show _ = (fuse1 s.dat).Files from congrArg DiskD.Files hd22)
 have hrfl := hro.Files.sl.len
 have hrkl := hro.Kept.len
 have hrtl := hro.Turns.len
 obtain ⟨ks1, ks2, ks3, ks4, ks5, ks6, ks7, ks8⟩ := hrD.small
 have hrf10 : r20.Files.xs.length ≤ 10 := by rw [← List.length_map (f := FileR.dat)]; exact ks1
 have hrt30 : r20.Turns.xs.length ≤ 30 := ks3
 have hrk10 : r20.Kept.xs.length ≤ 10 := ks2
 obtain ⟨hrm1, hrm2, hrm3⟩ := hrD.room
 have hrd : dirD (DiskR.dat r20) = dirD s.dat := by rw [hd22]; rfl
 have hrdl : (dirD (DiskR.dat r20)).length ≤ 40 := Nat.le_trans turnsL_len (by show r20.Kept.xs.length + r20.Turns.xs.length ≤ 40; omega)
 have hrr : roomD (DiskR.dat r20) = roomD s.dat := by unfold roomD; rw [hrF, show (DiskR.dat r20).Room = s.dat.Room from (show _ = (fuse1 s.dat).Room from congrArg DiskD.Room hd22)]
 have hrm1' : r20.Room - ((usedF (DiskR.dat r20).Files : Nat) : Int) = (roomD (DiskR.dat r20) : Int) := hrm1
 have hrm4 : r20.Room ≤ 400000 := hrm3
 have hrn0 : r20.Next ≤ 1000000 := ks4
 have hrn1 : 1 ≤ r20.Next := ks5
 refine WC.seq (fun K25 hK25 => WC.r1 hs24 [1] rfl (WC.block (WC.r1 hs24 [] rfl ?_)))
 refine WC.cq rfl (fun h26 qh26 => ?_) (fun h26 qh26 => ?_)
 ·have k1 : op_Kind = 1 := by have h9 := h26; simpa using h9
  have hc : doC s.dat (⟨op_Kind, op_Name, op_To, op_Data⟩ : DiskOpD) = 0 := doC_0 (show ¬ op_Kind = 2 by omega)
  refine WC.seq (fun K27 hK27 => WC.rG 11 (hs24.d1.rm L19) hs24 hs24 (fun _ hs28 => ?_))
  refine WG.rn [0, 1, 2, 3, 4, 5, 6, 7, 8] hs28 [0, 0] rfl rfl ?_
  refine WG.tk 9 rfl (by kernel_rfl) rfl rfl rfl hs28 (fun w_ hs_ => (Run.build rfl rfl rfl rfl (built_123_0 _))) ?_
  refine WG.o1 10 rfl rfl (WL.buildSlice hs28 Tryz.runUnderlying30 Tryz.sizeOf123 Tryz.zeroValue123 rfl rfl rfl rfl rfl rfl rfl rfl rfl rfl (fun b29 whs30 hs30 => WL.nil ⟨hs30.d1, WG.oK rfl ?_⟩))
  obtain ⟨L31, L32, L33, hs37, ho34, ho35, ho36⟩ := ownDiskR.op hs30 ho21
  have hs38 := (((hs37.fb b2).fb b_s).fb b29)
  obtain ⟨L40, L41, hs44, ho42, ho43⟩ := OwnN.open_ (hs38.fr L31) ho34
  have hs45 := (((hs44.fb b2).fb b_s).fb b29)
  refine WL.appendG (hs45.fr L40) ho42 (srcF (F := encFileR) (ys := [(⟨r20.Next, ⟨none, 0, 0, []⟩, 0⟩ : FileR)]) Tryz.underlying30 rfl rfl (hs45.own _ (nthL_mem (i := 0) rfl)).1) Tryz.underlying30 inf123 rfl rfl rfl rfl rfl rfl rfl rfl rfl rfl ?_ (fun A49 c50 L46 whs47 hs47 ho48 => ?_)
  · (try simp only [List.length_append, List.length_singleton, List.length_take]); omega
  replace hs47 := St.back [_, _, _] hs47
  obtain ⟨L51, hs52, hb53⟩ := Bag.put (x := (⟨r20.Next, ⟨none, 0, 0, []⟩, 0⟩ : FileR)) ((hs47.fr ([] : Hp)).fr L41) ho43 (OwnF.nil _ _)
  have hs54 := (((hs52.fb b2).fb b_s).fb b29)
  obtain ⟨L56, hs55, ho57⟩ := OwnN.fold ((hs54.fr L51).fr L46) ho48 hb53
  have hs58 := (((hs55.fb b2).fb b_s).fb b29)
  refine WL.nil ⟨(((hs58.d1.d1.rm L56).rm L32).rm L33), WH.rn [12, 13] (((hs58.d1.d1.rm L56).rm L32).rm L33) [] rfl rfl (WH.o1 14 rfl (WL.st tbk hs58 1 rfl rfl (fun _ hs59 => WL.nil ⟨(((hs59.d1.d1.rm L56).rm L32).rm L33), WH.dn (hK27 _ _ (WC.seq (fun K60 hK60 => ?_)))⟩)))⟩
  refine WC.rG 13 ((hs59.fb b_s).d1.rm L33) hs59 hs59 (fun _ hs61 => ?_)
  refine WG.rn [0, 1, 2, 3, 4, 5, 6, 7, 8, 9, 10] hs61 [1, 2, 1] rfl rfl ?_
  refine WG.tk 11 rfl (by kernel_rfl) rfl rfl rfl hs61 (fun w_ hs_ => (Run.build rfl rfl rfl rfl (built_137_0_1_3 _ _ _))) ?_
  refine WG.o1 12 rfl rfl (WL.buildSlice hs61 Tryz.runUnderlying32 Tryz.sizeOf137 Tryz.zeroValue137 rfl rfl rfl rfl rfl rfl rfl rfl rfl rfl (fun b62 whs63 hs63 => WL.nil ⟨hs63.d1, WG.oK rfl ?_⟩))
  refine WL.appendG (hs63.fr L33) ho36 (srcF (F := encTurn) (ys := [⟨1, op_Name, noName, r20.Next⟩]) Tryz.underlying32 rfl rfl (hs63.own _ (nthL_mem (i := 0) rfl)).1) Tryz.underlying32 inf137 rfl rfl rfl rfl rfl rfl rfl rfl rfl rfl ?_ (fun A67 c68 L64 whs65 hs65 ho66 => ?_)
  · (try simp only [List.length_append, List.length_singleton, List.length_take]); omega
  replace hs65 := St.back [_, _, _, _] hs65
  refine WL.nil ⟨((hs65.d1.fb b_s).d1.rm L64), WH.rn [14, 15] ((hs65.d1.fb b_s).d1.rm L64) [] rfl rfl (WH.o1 16 rfl (WL.st tbk hs65 2 rfl rfl (fun _ hs69 => WL.nil ⟨((hs69.d1.fb b_s).d1.rm L64), WH.dn (hK60 _ _ (WC.region ?_))⟩)))⟩
  refine WL.r 7 hs69 [2] rfl (WL.st tbk hs69 2 rfl rfl (fun _ hs70 => WL.nil (hK25 _ _ (WC.r1 hs70 [] rfl (WC.ret (retV1 rfl (resV.tmp rfl) ?_))))))
  obtain ⟨L72, hs71, ho73⟩ := ownDiskR.fl hs70 ho57 ho35 ho66
  have hs74 := ((((hs71.fb b2).fb b_s).fb b29).fb b62)
  refine ownDiskR.retp (by rw [hc]) ((hs74.fr L72).fb b_s) ho73 ?_
  · unfold doD; rw [if_pos (show ((⟨op_Kind, op_Name, op_To, op_Data⟩ : DiskOpD)).Kind = 1 from k1), ← hd22]; exact DiskD.ext' rfl rfl rfl (by show List.map FileR.dat (_ ++ _) = _; rw [List.map_append]; rfl) rfl rfl
 have k1 : ¬ op_Kind = 1 := by have h9 := h26; simpa using h9
 refine WC.r1 hs24 [] rfl (WC.cq rfl (fun h75 qh75 => ?_) (fun h75 qh75 => ?_))
 ·have k2 : op_Kind = 2 := by have h9 := h75; simpa using h9
  have hh : hasN (dirD (DiskR.dat r20)) op_Name = true := by rw [hrd]; exact (refuse_has hr (show op_Kind ≠ 6 by omega)).trans (by rw [show decide (((⟨op_Kind, op_Name, op_To, op_Data⟩ : DiskOpD)).Kind = 1) = false from decide_eq_false (show ¬ op_Kind = 1 by omega)]; rfl)
  have hfn := (hrD.at hh).1
  have hfi := fileI_y hh
  have hfn2 : (fileN (DiskR.dat r20) op_Name) < r20.Files.xs.length := by rw [← List.length_map (f := FileR.dat)]; exact hfn
  have hyb := (hro.Files.all _ (gat_mem (F := encFileR) (xs := r20.Files.xs) (k := (fileN (DiskR.dat r20) op_Name)) hfn2)).Body.len
  have hyn := (hro.Files.all _ (gat_mem (F := encFileR) (xs := r20.Files.xs) (k := (fileN (DiskR.dat r20) op_Name)) hfn2)).Body_n
  have hyu : (gat encFileR r20.Files.xs (fileN (DiskR.dat r20) op_Name)).Body.xs.length ≤ usedF (DiskR.dat r20).Files := usedF_gat hfn2
  refine WC.sq1 hs24 (WQ.r 7 [0, 0] rfl ?_)
  refine WQ.call rfl rfl rfl (fun w_ hs_ => (Run.call Tryz.call152 rfl rfl rfl)) (fun w_ hs_ => (k60_ r20 _ (ownDiskR.ok (B := 549755813888) ho21 ((hs_ : St _ _ _ _).ow L19) hsmr) ?_).mono fun e_ w_ h_ => ⟨h_.1, (hs_ : St _ _ _ _).call0 h_.2⟩) ?_
  · first | assumption | rfl | omega
  refine WQ.r 2 [] rfl (WQ.nil (fun _ (hs76 : St _ _ _ _) => WC.sq1 hs76 (WQ.r 9 [0, 0, 1] rfl ?_)))
  refine WQ.call rfl rfl rfl (fun w_ hs_ => (Run.call Tryz.call117 rfl rfl rfl)) (fun w_ hs_ => (k79_ r20 _ _ (ownDiskR.ok (B := 549755813888) ho21 ((hs_ : St _ _ _ _).ow L19) hsmr) ?_).mono fun e_ w_ h_ => ⟨h_.1, (hs_ : St _ _ _ _).call0 h_.2⟩) ?_
  · first | assumption | rfl | omega
  refine WQ.val rfl rfl rfl (fun w_ hs_ => (Run.idxK ((fileN (DiskR.dat r20) op_Name)) Tryz.runUnderlying30 Tryz.sizeOf123 rfl rfl rfl ?_ ?_ ?_)) ?_
  · exact SlF.some_ (ownDiskR.ok (B := 549755813888) ho21 ((hs_ : St _ _ _ _).ow L19) hsmr).Files.sl
  · omega
  · omega
  refine WQ.r 1 [] rfl (WQ.nil (fun _ (hs77 : St _ _ _ _) => WC.seq (fun K78 hK78 => WC.rG 13 (hs77.rm L19) hs77 hs77 (fun _ hs79 => ?_))))
  refine WG.rn [0, 1, 2] hs79 [] rfl rfl ?_
  refine WG.tk 3 rfl (by kernel_rfl) rfl rfl rfl hs79 (fun w_ hs_ => (Run.fieldO Tryz.runUnderlying123 rfl rfl rfl Tryz.sizeOf43 rfl)) ?_
  refine WG.tk 4 rfl (by kernel_rfl) rfl rfl rfl hs79 (fun w_ hs_ => (Run.load Tryz.isAgg43 rfl rfl (SlF.fld (ownDiskR.ok (B := 549755813888) ho21 ((hs_ : St _ _ _ _).ow L19) hsmr).Files.sl ?_ rfl))) ?_
  · omega
  refine WG.rn [5, 6, 7, 8, 9, 10, 11] hs79 [1, 1] rfl rfl ?_
  refine WG.tk 12 rfl (by kernel_rfl) rfl rfl rfl hs79 (fun w_ hs_ => (Run.sliceH ((min (roomD (DiskR.dat r20)) n_op_Data)) Tryz.runUnderlying43 Tryz.sizeOf5 rfl rfl rfl ?_ ?_)) ?_
  · first | rfl | (omega)
  · refine ⟨?_, ?_, ?_⟩ <;> (omega)
  refine WG.oK rfl ?_
  obtain ⟨L80, L81, L82, hs86, ho83, ho84, ho85⟩ := ownDiskR.op hs79 ho21
  have hs87 := ((hs86.fb b2).fb b_s)
  obtain ⟨L88, L89, hs92, ho90, ho91⟩ := OwnN.open_ (hs87.fr L80) ho83
  have hs93 := ((hs92.fb b2).fb b_s)
  obtain ⟨L94, L95, L96, hs97, ho98, hp99⟩ := Bag.out (F := encFileR) (i := (fileN (DiskR.dat r20) op_Name)) (hs93.fr L89) ho91 (by omega)
  have hs100 := ((hs97.fb b2).fb b_s)
  refine WL.appendG (hs100.fr L95) ho98 (SlF.src (SlF.cutH ((min (roomD (DiskR.dat r20)) n_op_Data)) (SlF.st f_op_Data hs100 s_op_Data) (by refine ⟨?_, ?_, ?_⟩ <;> (omega))) Tryz.underlying43) Tryz.underlying43 inf5 rfl rfl rfl rfl rfl rfl rfl rfl rfl rfl ?_ (fun A104 c105 L101 whs102 hs102 ho103 => ?_)
  · (try simp only [List.length_append, List.length_singleton, List.length_take]); omega
  replace hs102 := St.back [_, _] hs102
  refine WL.nil ⟨(((((hs102.rm L101).rm (L94 ++ L96)).rm L88).rm L81).rm L82), WH.rn [14] (((((hs102.rm L101).rm (L94 ++ L96)).rm L88).rm L81).rm L82) [] rfl rfl ?_⟩
  refine WH.take 15 rfl (by kernel_rfl) rfl rfl rfl (((((hs102.rm L101).rm (L94 ++ L96)).rm L88).rm L81).rm L82) (fun w_ hs_ => (Run.fieldO Tryz.runUnderlying123 rfl rfl rfl Tryz.sizeOf43 rfl)) ?_
  refine WH.o1 16 rfl (WL.storeF (x' := ({ (gat encFileR r20.Files.xs (fileN (DiskR.dat r20) op_Name)) with Body := ⟨A104, ((gat encFileR r20.Files.xs (fileN (DiskR.dat r20) op_Name)).Body.xs ++ op_Data.take (min (roomD (DiskR.dat r20)) n_op_Data)).length, c105, ((gat encFileR r20.Files.xs (fileN (DiskR.dat r20) op_Name)).Body.xs ++ op_Data.take (min (roomD (DiskR.dat r20)) n_op_Data))⟩ } : FileR)) (hs102.fr L88) ho90 Tryz.sizeOf43 rfl rfl rfl rfl rfl rfl rfl rfl rfl ?_ rfl (fun L106 whs107 hs107 ho108 _ => ?_))
  · omega
  replace hs107 := St.back [_, _] hs107
  obtain ⟨L109, hs110, hb111⟩ := hp99 ({ (gat encFileR r20.Files.xs (fileN (DiskR.dat r20) op_Name)) with Body := ⟨A104, ((gat encFileR r20.Files.xs (fileN (DiskR.dat r20) op_Name)).Body.xs ++ op_Data.take (min (roomD (DiskR.dat r20)) n_op_Data)).length, c105, ((gat encFileR r20.Files.xs (fileN (DiskR.dat r20) op_Name)).Body.xs ++ op_Data.take (min (roomD (DiskR.dat r20)) n_op_Data))⟩ } : FileR) _ ((hs107.fr (L94 ++ L96)).fr L101) (by have h_ := ho103; exact h_)
  have hs113 := ((hs110.fb b2).fb b_s)
  have ho112 := ho108
  obtain ⟨L115, hs114, ho116⟩ := OwnN.fold ((hs113.fr L109).fr L106) ho112 hb111
  have hs117 := ((hs114.fb b2).fb b_s)
  refine WL.nil ⟨(((hs117.rm L115).rm L81).rm L82), WH.dn (hK78 _ _ (WC.r1 hs117 [1] rfl ?_))⟩
  refine WC.cq rfl (fun h118 qh118 => ?_) (fun h118 qh118 => ?_)
  ·have hc : doC s.dat (⟨op_Kind, op_Name, op_To, op_Data⟩ : DiskOpD) = 5 := if_pos ⟨k2, by have h9 := h118; rw [hrm1'] at h9; rw [← hrr]; show _ < op_Data.length; simp at h9; omega⟩
   refine WC.r1 hs117 [] rfl (WC.ret (ibR (tkR ?_)))
   clear hK25
   refine retV1 rfl (resV.tmp rfl) ?_
   obtain ⟨L120, hs119, ho121⟩ := ownDiskR.fl hs117 ho116 ho84 ho85
   have hs122 := ((hs119.fb b2).fb b_s)
   refine ownDiskR.retp (by rw [hc]) ((hs122.fr L120).fb b_s) ho121 ?_
   · unfold doD; rw [if_neg (show ¬ ((⟨op_Kind, op_Name, op_To, op_Data⟩ : DiskOpD)).Kind = 1 from (by first | assumption | (show ¬ op_Kind = 1; omega))), if_pos (show ((⟨op_Kind, op_Name, op_To, op_Data⟩ : DiskOpD)).Kind = 2 from k2), ← hd22]; exact DiskD.ext' rfl rfl rfl (files_set (by rw [show fAt (DiskR.dat r20).Files (fileN (DiskR.dat r20) op_Name) = FileR.dat (gat encFileR r20.Files.xs (fileN (DiskR.dat r20) op_Name)) from fAt_dat hfn2]; exact FileD.ext' rfl (by show _ ++ _ = _ ++ _; rw [take_min nl9]; rfl) rfl)) rfl rfl
  have hc : doC s.dat (⟨op_Kind, op_Name, op_To, op_Data⟩ : DiskOpD) = 0 := if_neg fun h_ => by have h9 := h118; rw [hrm1'] at h9; have h8 := h_.2; rw [← hrr] at h8; replace h8 : _ < op_Data.length := h8; simp at h9; omega
  refine WC.skip (hK25 _ _ (WC.r1 hs117 [] rfl (WC.ret (retV1 rfl (resV.tmp rfl) ?_))))
  obtain ⟨L124, hs123, ho125⟩ := ownDiskR.fl hs117 ho116 ho84 ho85
  have hs126 := ((hs123.fb b2).fb b_s)
  refine ownDiskR.retp (by rw [hc]) ((hs126.fr L124).fb b_s) ho125 ?_
  · unfold doD; rw [if_neg (show ¬ ((⟨op_Kind, op_Name, op_To, op_Data⟩ : DiskOpD)).Kind = 1 from (by first | assumption | (show ¬ op_Kind = 1; omega))), if_pos (show ((⟨op_Kind, op_Name, op_To, op_Data⟩ : DiskOpD)).Kind = 2 from k2), ← hd22]; exact DiskD.ext' rfl rfl rfl (files_set (by rw [show fAt (DiskR.dat r20).Files (fileN (DiskR.dat r20) op_Name) = FileR.dat (gat encFileR r20.Files.xs (fileN (DiskR.dat r20) op_Name)) from fAt_dat hfn2]; exact FileD.ext' rfl (by show _ ++ _ = _ ++ _; rw [take_min nl9]; rfl) rfl)) rfl rfl
 have k2 : ¬ op_Kind = 2 := by have h9 := h75; simpa using h9
 have hc : doC s.dat (⟨op_Kind, op_Name, op_To, op_Data⟩ : DiskOpD) = 0 := doC_0 (show ¬ op_Kind = 2 by omega)
 refine WC.r1 hs24 [] rfl (WC.cq rfl (fun h127 qh127 => ?_) (fun h127 qh127 => ?_))
 ·have k3 : op_Kind = 3 := by have h9 := h127; simpa using h9
  have hh : hasN (dirD (DiskR.dat r20)) op_Name = true := by rw [hrd]; exact (refuse_has hr (show op_Kind ≠ 6 by omega)).trans (by rw [show decide (((⟨op_Kind, op_Name, op_To, op_Data⟩ : DiskOpD)).Kind = 1) = false from decide_eq_false (show ¬ op_Kind = 1 by omega)]; rfl)
  have hfn := (hrD.at hh).1
  have hfi := fileI_y hh
  have hfn2 : (fileN (DiskR.dat r20) op_Name) < r20.Files.xs.length := by rw [← List.length_map (f := FileR.dat)]; exact hfn
  have hyb := (hro.Files.all _ (gat_mem (F := encFileR) (xs := r20.Files.xs) (k := (fileN (DiskR.dat r20) op_Name)) hfn2)).Body.len
  have hyn := (hro.Files.all _ (gat_mem (F := encFileR) (xs := r20.Files.xs) (k := (fileN (DiskR.dat r20) op_Name)) hfn2)).Body_n
  have hyu : (gat encFileR r20.Files.xs (fileN (DiskR.dat r20) op_Name)).Body.xs.length ≤ usedF (DiskR.dat r20).Files := usedF_gat hfn2
  refine WC.sq1 hs24 (WQ.r 9 [0, 0, 1] rfl ?_)
  refine WQ.call rfl rfl rfl (fun w_ hs_ => (Run.call Tryz.call117 rfl rfl rfl)) (fun w_ hs_ => (k79_ r20 _ _ (ownDiskR.ok (B := 549755813888) ho21 ((hs_ : St _ _ _ _).ow L19) hsmr) ?_).mono fun e_ w_ h_ => ⟨h_.1, (hs_ : St _ _ _ _).call0 h_.2⟩) ?_
  · first | assumption | rfl | omega
  refine WQ.val rfl rfl rfl (fun w_ hs_ => (Run.idxK ((fileN (DiskR.dat r20) op_Name)) Tryz.runUnderlying30 Tryz.sizeOf123 rfl rfl rfl ?_ ?_ ?_)) ?_
  · exact SlF.some_ (ownDiskR.ok (B := 549755813888) ho21 ((hs_ : St _ _ _ _).ow L19) hsmr).Files.sl
  · omega
  · omega
  refine WQ.r 1 [] rfl (WQ.nil (fun _ (hs128 : St _ _ _ _) => WC.region (WL.r 3 hs128 [] rfl (WL.val rfl rfl rfl (Run.fieldO Tryz.runUnderlying123 rfl rfl rfl Tryz.sizeOf43 rfl) ?_))))
  refine WL.val rfl rfl rfl (Run.load Tryz.isAgg43 rfl rfl (SlF.fld (ownDiskR.ok (B := 549755813888) ho21 (hs128.ow L19) hsmr).Files.sl ?_ rfl)) ?_
  · omega
  refine WL.r 2 hs128 [] rfl ?_
  refine WL.val rfl rfl rfl (Run.fieldO Tryz.runUnderlying123 rfl rfl rfl Tryz.sizeOf3 rfl) ?_
  obtain ⟨L129, L130, L131, hs135, ho132, ho133, ho134⟩ := ownDiskR.op hs128 ho21
  have hs136 := ((hs135.fb b2).fb b_s)
  obtain ⟨L137, L138, hs141, ho139, ho140⟩ := OwnN.open_ (hs136.fr L129) ho132
  have hs142 := ((hs141.fb b2).fb b_s)
  refine WL.storeF (x' := ({ (gat encFileR r20.Files.xs (fileN (DiskR.dat r20) op_Name)) with Safe := ((gat encFileR r20.Files.xs (fileN (DiskR.dat r20) op_Name)).Body.n : Int) } : FileR)) (hs142.fr L137) ho139 Tryz.sizeOf3 rfl rfl rfl rfl rfl rfl rfl rfl rfl ?_ rfl (fun L143 whs144 hs144 ho145 _ => ?_)
  · omega
  replace hs144 := St.back [_, _] hs144
  have hb146 := Bag.same (i := (fileN (DiskR.dat r20) op_Name)) (x := ({ (gat encFileR r20.Files.xs (fileN (DiskR.dat r20) op_Name)) with Safe := ((gat encFileR r20.Files.xs (fileN (DiskR.dat r20) op_Name)).Body.n : Int) } : FileR)) ho140 (fun y_ L_ e_ h_ => by cases (e_.symm.trans (gat_get (F := encFileR) (by (try simp only [List.length_set]); omega))); first | exact h_ | (rw [gat_set (by (try simp only [List.length_set]); omega) rfl] at h_; exact h_))
  refine WL.nil (hK25 _ _ (WC.r1 hs144 [] rfl (WC.ret (retV1 rfl (resV.tmp rfl) ?_))))
  obtain ⟨L148, hs147, ho149⟩ := OwnN.fold ((hs144.fr L138).fr L143) ho145 hb146
  have hs150 := ((hs147.fb b2).fb b_s)
  obtain ⟨L152, hs151, ho153⟩ := ownDiskR.fl hs150 ho149 ho133 ho134
  have hs154 := ((hs151.fb b2).fb b_s)
  refine ownDiskR.retp (by rw [hc]) ((hs154.fr L152).fb b_s) ho153 ?_
  · unfold doD; rw [if_neg (show ¬ ((⟨op_Kind, op_Name, op_To, op_Data⟩ : DiskOpD)).Kind = 1 from (by first | assumption | (show ¬ op_Kind = 1; omega))), if_neg (show ¬ ((⟨op_Kind, op_Name, op_To, op_Data⟩ : DiskOpD)).Kind = 2 from (by first | assumption | (show ¬ op_Kind = 2; omega))), if_pos (show ((⟨op_Kind, op_Name, op_To, op_Data⟩ : DiskOpD)).Kind = 3 from k3), ← hd22]; exact DiskD.ext' rfl rfl rfl (files_set (by rw [show fAt (DiskR.dat r20).Files (fileN (DiskR.dat r20) op_Name) = FileR.dat (gat encFileR r20.Files.xs (fileN (DiskR.dat r20) op_Name)) from fAt_dat hfn2]; exact FileD.ext' rfl rfl (by show ((_ : Nat) : Int) = ((_ : Nat) : Int); rw [← hyb]; rfl))) rfl rfl
 have k3 : ¬ op_Kind = 3 := by have h9 := h127; simpa using h9
 refine WC.seq (fun K155 hK155 => WC.r1 hs24 [] rfl ?_)
 refine WC.cq rfl (fun h156 qh156 => ?_) (fun h156 qh156 => ?_)
 ·have k45 : op_Kind = 4 ∨ op_Kind = 5 := by have h9 := h156; simp at h9; omega
  refine WC.skip (hK155 _ _ (WC.condT rfl h156 (WC.rG 13 (hs24.d1.rm L19) hs24 hs24 (fun _ hs158 => ?_))))
  refine WG.rn [0, 1, 2, 3, 4, 5, 6, 7, 8, 9, 10] hs158 [0, 1, 1, 1] rfl rfl ?_
  refine WG.tk 11 rfl (by kernel_rfl) rfl rfl rfl hs158 (fun w_ hs_ => (Run.build rfl rfl rfl rfl (built_137_0_1_2 _ _ _))) ?_
  refine WG.o1 12 rfl rfl (WL.buildSlice hs158 Tryz.runUnderlying32 Tryz.sizeOf137 Tryz.zeroValue137 rfl rfl rfl rfl rfl rfl rfl rfl rfl rfl (fun b159 whs160 hs160 => WL.nil ⟨hs160.d1, WG.oK rfl ?_⟩))
  obtain ⟨L161, L162, L163, hs167, ho164, ho165, ho166⟩ := ownDiskR.op hs160 ho21
  have hs168 := (((hs167.fb b2).fb b_s).fb b159)
  refine WL.appendG (hs168.fr L163) ho166 (srcF (F := encTurn) (ys := [⟨op_Kind, op_Name, op_To, 0⟩]) Tryz.underlying32 rfl rfl (hs168.own _ (nthL_mem (i := 0) rfl)).1) Tryz.underlying32 inf137 rfl rfl rfl rfl rfl rfl rfl rfl rfl rfl ?_ (fun A172 c173 L169 whs170 hs170 ho171 => ?_)
  · (try simp only [List.length_append, List.length_singleton, List.length_take]); omega
  replace hs170 := St.back [_, _, _] hs170
  refine WL.nil ⟨(((hs170.d1.d1.rm L169).rm L161).rm L162), WH.rn [14, 15] (((hs170.d1.d1.rm L169).rm L161).rm L162) [] rfl rfl (WH.o1 16 rfl (WL.st tbk hs170 1 rfl rfl (fun _ hs174 => WL.nil ⟨(((hs174.d1.d1.rm L169).rm L161).rm L162), WH.dn (hK25 _ _ (WC.r1 hs174 [] rfl ?_))⟩)))⟩
  refine WC.ret (retV1 rfl (resV.tmp rfl) ?_)
  obtain ⟨L176, hs175, ho177⟩ := ownDiskR.fl hs174 ho164 ho165 ho171
  have hs178 := (((hs175.fb b2).fb b_s).fb b159)
  refine ownDiskR.retp (by rw [hc]) ((hs178.fr L176).fb b_s) ho177 ?_
  · unfold doD; rw [if_neg (show ¬ ((⟨op_Kind, op_Name, op_To, op_Data⟩ : DiskOpD)).Kind = 1 from (by first | assumption | (show ¬ op_Kind = 1; omega))), if_neg (show ¬ ((⟨op_Kind, op_Name, op_To, op_Data⟩ : DiskOpD)).Kind = 2 from (by first | assumption | (show ¬ op_Kind = 2; omega))), if_neg (show ¬ ((⟨op_Kind, op_Name, op_To, op_Data⟩ : DiskOpD)).Kind = 3 from (by first | assumption | (show ¬ op_Kind = 3; omega))), if_neg (show ¬ ((⟨op_Kind, op_Name, op_To, op_Data⟩ : DiskOpD)).Kind = 6 from (by first | assumption | (show ¬ op_Kind = 6; omega))), ← hd22]; rfl
 have k45n : ¬ op_Kind = 4 := by first | assumption | (have h9 := h156; simp at h9; omega)
 refine WC.region (WL.r 2 hs24 [] rfl (WL.nil (hK155 _ _ ?_)))
 refine WC.cq rfl (fun h179 qh179 => ?_) (fun h179 qh179 => ?_)
 ·have k45 : op_Kind = 4 ∨ op_Kind = 5 := by have h9 := h179; simp at h9; omega
  refine WC.rG 13 (hs24.d1.rm L19) hs24 hs24 (fun _ hs180 => ?_)
  refine WG.rn [0, 1, 2, 3, 4, 5, 6, 7, 8, 9, 10] hs180 [0, 1, 1, 1] rfl rfl ?_
  refine WG.tk 11 rfl (by kernel_rfl) rfl rfl rfl hs180 (fun w_ hs_ => (Run.build rfl rfl rfl rfl (built_137_0_1_2 _ _ _))) ?_
  refine WG.o1 12 rfl rfl (WL.buildSlice hs180 Tryz.runUnderlying32 Tryz.sizeOf137 Tryz.zeroValue137 rfl rfl rfl rfl rfl rfl rfl rfl rfl rfl (fun b181 whs182 hs182 => WL.nil ⟨hs182.d1, WG.oK rfl ?_⟩))
  obtain ⟨L183, L184, L185, hs189, ho186, ho187, ho188⟩ := ownDiskR.op hs182 ho21
  have hs190 := (((hs189.fb b2).fb b_s).fb b181)
  refine WL.appendG (hs190.fr L185) ho188 (srcF (F := encTurn) (ys := [⟨op_Kind, op_Name, op_To, 0⟩]) Tryz.underlying32 rfl rfl (hs190.own _ (nthL_mem (i := 0) rfl)).1) Tryz.underlying32 inf137 rfl rfl rfl rfl rfl rfl rfl rfl rfl rfl ?_ (fun A194 c195 L191 whs192 hs192 ho193 => ?_)
  · (try simp only [List.length_append, List.length_singleton, List.length_take]); omega
  replace hs192 := St.back [_, _, _] hs192
  refine WL.nil ⟨(((hs192.d1.d1.rm L191).rm L183).rm L184), WH.rn [14, 15] (((hs192.d1.d1.rm L191).rm L183).rm L184) [] rfl rfl (WH.o1 16 rfl (WL.st tbk hs192 1 rfl rfl (fun _ hs196 => WL.nil ⟨(((hs196.d1.d1.rm L191).rm L183).rm L184), WH.dn (hK25 _ _ (WC.r1 hs196 [] rfl ?_))⟩)))⟩
  refine WC.ret (retV1 rfl (resV.tmp rfl) ?_)
  obtain ⟨L198, hs197, ho199⟩ := ownDiskR.fl hs196 ho186 ho187 ho193
  have hs200 := (((hs197.fb b2).fb b_s).fb b181)
  refine ownDiskR.retp (by rw [hc]) ((hs200.fr L198).fb b_s) ho199 ?_
  · unfold doD; rw [if_neg (show ¬ ((⟨op_Kind, op_Name, op_To, op_Data⟩ : DiskOpD)).Kind = 1 from (by first | assumption | (show ¬ op_Kind = 1; omega))), if_neg (show ¬ ((⟨op_Kind, op_Name, op_To, op_Data⟩ : DiskOpD)).Kind = 2 from (by first | assumption | (show ¬ op_Kind = 2; omega))), if_neg (show ¬ ((⟨op_Kind, op_Name, op_To, op_Data⟩ : DiskOpD)).Kind = 3 from (by first | assumption | (show ¬ op_Kind = 3; omega))), if_neg (show ¬ ((⟨op_Kind, op_Name, op_To, op_Data⟩ : DiskOpD)).Kind = 6 from (by first | assumption | (show ¬ op_Kind = 6; omega))), ← hd22]; rfl
 have k45n : ¬ op_Kind = 4 := by first | assumption | (have h9 := h179; simp at h9; omega)
 refine WC.r1 hs24 [] rfl (WC.cq rfl (fun h201 qh201 => ?_) (fun h201 qh201 => ?_))
 ·have k6 : op_Kind = 6 := by have h9 := h201; simpa using h9
  refine WC.sr (WL.r 5 hs24 [0] rfl (WL.cl Tryz.call134 rfl (k76_ r20 _ (ownDiskR.ok (B := 549755813888) ho21 (hs24.ow L19) hsmr) ?_) ?_))
  · first | assumption | rfl | omega | (show r20.Files.xs.length ≤ 1048576; omega) | (show (dirD (DiskR.dat r20)).length ≤ 1048576; omega)
  rintro _ whs202 ⟨A203, c204, L1_205, rfl, hs202, ho206⟩
  replace hs202 := hs24.callF hs202
  refine ⟨_, rfl, ?_⟩
  replace hs202 := St.back [_, _] hs202
  refine WL.r 2 hs202 [] rfl (WL.st tbk hs202 0 rfl rfl (fun _ hs207 => WL.r 2 hs207 [] rfl (WL.st tbk hs207 0 rfl rfl (fun _ hs208 => WL.nil (WC.region (WL.r 1 hs208 [] rfl ?_))))))
  obtain ⟨L209, L210, L211, hs215, ho212, ho213, ho214⟩ := ownDiskR.op hs208 ho21
  have hs216 := ((hs215.fb b2).fb b_s)
  obtain ⟨L219, hs218, ho220⟩ := ownDiskR.fl hs216 ho212 ho206 (OwnF.nil _ _)
  have hs221 := ((hs218.fb b2).fb b_s)
  have hF222 := ((hs221.fr L219).fb b_s)
  refine WL.cl Tryz.call85 rfl (k95_ _ ⟨r20.Room, r20.Fuse, r20.Next, SlD.ofN ho212, SlD.of ho206, ⟨none, 0, 0, []⟩⟩ _ _ (St.headP hF222) (by exact ho220) (St.ownP hF222) (St.nodupP hF222) ?_ ?_) ?_
  iterate 2 first | assumption | rfl | omega | (show r20.Files.xs.length ≤ 1048576; omega) | (show (dirD (DiskR.dat r20)).length ≤ 1048576; omega)
  rintro _ whs223 ⟨r224, L225, rfl, hs223, ho226, hd227⟩
  replace hs223 := St.lendP hF222 hs223
  refine ⟨_, rfl, ?_⟩
  have hs228 := ((hs223.fb b2).fb b_s)
  refine WL.nil (hK25 _ _ (WC.r1 hs228 [] rfl (WC.ret (retV1 rfl (resV.tmp rfl) (⟨r224, _, (by rw [hc]), St.keepP (L1 := L225) ((hs228.fr L225).fb b_s), ho226, ?_⟩)))))
  · unfold doD; rw [if_neg (show ¬ ((⟨op_Kind, op_Name, op_To, op_Data⟩ : DiskOpD)).Kind = 1 from (by first | assumption | (show ¬ op_Kind = 1; omega))), if_neg (show ¬ ((⟨op_Kind, op_Name, op_To, op_Data⟩ : DiskOpD)).Kind = 2 from (by first | assumption | (show ¬ op_Kind = 2; omega))), if_neg (show ¬ ((⟨op_Kind, op_Name, op_To, op_Data⟩ : DiskOpD)).Kind = 3 from (by first | assumption | (show ¬ op_Kind = 3; omega))), if_pos (show ((⟨op_Kind, op_Name, op_To, op_Data⟩ : DiskOpD)).Kind = 6 from k6), ← hd22]; exact hd227
 have k6 : ¬ op_Kind = 6 := by have h9 := h201; simpa using h9
 refine WC.skip (hK25 _ _ (WC.r1 hs24 [] rfl (WC.ret (retV1 rfl (resV.tmp rfl) (⟨r20, _, (by rw [hc]), St.keepP (L1 := L19) ((hs24.fr L19).fb b_s), ho21, ?_⟩)))))
 · exfalso; have h9 := dop_kind ho; simp only at h9; omega
theorem built_34 : Tryz.prog.built 34 [] = some (List.toArray [.int .i64 0, .int .i64 0, .int .i64 0, .slice none 0 0, .slice none 0 0, .slice none 0 0]) := by kernel_rfl
set_option maxHeartbeats 4000000 in
theorem k97_ (d : DiskR) (op : DiskOpR) (w : World) (f_d : okDiskR 549755813888 w d) (f_op : okDiskOpR 549755813888 w op) (hb : totDisk d.dat ≤ 1048576) :
    Calls Tryz.prog 43 #[.agg #[i64 d.Room, i64 d.Fuse, i64 d.Next, .slice d.Files.A d.Files.n d.Files.c, .slice d.Kept.A d.Kept.n d.Kept.c, .slice d.Turns.A d.Turns.n d.Turns.c], .agg #[i64 op.Kind, .string op.Name, .string op.To, .slice op.Data.A op.Data.n op.Data.c]] w fun e w' => ∃ r L1, e = .returned (.tuple #[.agg #[i64 r.Room, i64 r.Fuse, i64 r.Next, .slice r.Files.A r.Files.n r.Files.c, .slice r.Kept.A r.Kept.n r.Kept.c, .slice r.Turns.A r.Turns.n r.Turns.c], .int .i64 (doneC d.dat op.dat)]) ∧ St w [] L1 w' ∧ ownDiskR r L1 ∧ r.dat = doneD d.dat op.dat := by
 have nb_d_Files := f_d.Files_n
 have nl_d_Files := f_d.Files.sl.len
 have nb_d_Kept := f_d.Kept_n
 have nl_d_Kept := f_d.Kept.len
 have nb_d_Turns := f_d.Turns_n
 have nl_d_Turns := f_d.Turns.len
 have nz_op_Name := f_op.Name_z
 have nz_op_To := f_op.To_z
 have nb_op_Data := f_op.Data_n
 have nl_op_Data := f_op.Data.len
 have hsm : smDisk 1048576 d.dat := totDisk_sm hb
 have hsmB : smDisk 549755813888 d.dat := totDisk_sm (by omega)
 refine enter 31 Tryz.func43 rfl Tryz.ntmps43 rfl rfl ?_
 have hs1 := St.init w
 refine WC.sr (WL.bx hs1 rfl (fun b2 _ hs3 => WL.bx hs3 rfl (fun b4 _ hs5 => WL.al hs5 Tryz.zeroValue34 rfl rfl (fun b6 _ hs7 => WL.r 1 hs7 [] rfl (WL.nil (WC.seq (fun K8 hK8 => WC.sr ?_)))))))
 refine WL.r 1 hs7 [2] rfl (WL.cl Tryz.call56 rfl (k74_ d _ (okDiskR.st0 f_d hs7) ?_) ?_)
 · first | assumption | rfl | omega | exact hrf | exact hop
 rintro _ whs9 ⟨rfl, hs9⟩
 replace hs9 := hs7.call0 hs9
 refine ⟨_, rfl, WL.r 2 hs9 [] rfl ?_⟩
 apply WL.gO 3 Acts.nil hs9 rfl
 ·intro g10 J11
  have qg10 := g10
  try simp only [bf, within_iff, within_not] at qg10
  refine WL.runA tbk 1 (Acts.nil.cons (j := 3) rfl g10) hs9 [1] rfl ⟨rfl, trivial⟩ (WL.call (wantF rfl g10) rfl rfl (Run.call Tryz.call88 rfl rfl rfl) (k80_ op _ (okDiskOpR.st0 f_op hs9)) ?_)
  rintro _ whs12 ⟨rfl, hs12⟩
  replace hs12 := hs9.call0 hs12
  refine ⟨_, rfl, WL.runA tbk 1 (Acts.nil.cons (j := 3) rfl g10) hs12 [] rfl trivial (WL.eO 3 Acts.nil J11 hs12 g10 rfl rfl)⟩
 intro _ hs13
 refine WL.nil (WC.cq rfl (fun h14 qh14 => ?_) (fun h14 qh14 => ?_))
 ·have hbad : (diskOk d.dat && dopOk op.dat) = false := by have h9 := h14; revert h9; cases diskOk d.dat <;> cases dopOk op.dat <;> simp
  obtain ⟨hdn, hc⟩ := done_bad hbad
  refine WC.sr ?_
  refine WL.val rfl rfl rfl (Run.build rfl rfl rfl rfl (built_34)) (WL.st tbk hs13 0 rfl rfl (fun _ hs15 => WL.r 1 hs15 [] rfl (WL.nil (WC.ret (tkR ?_)))))
  clear hK8
  refine retV2 rfl (resV.cellA tbk hs15 0 rfl rfl rfl rfl) (resV.tmp rfl) ?_
  obtain ⟨L20, hs19, ho21⟩ := ownDiskR.fl hs15 (OwnN.nil _ _ _) (OwnF.nil _ _) (OwnF.nil _ _)
  have hs22 := (((hs19.fb b2).fb b4).fb b6)
  refine ⟨⟨0, 0, 0, ⟨none, 0, 0, []⟩, ⟨none, 0, 0, []⟩, ⟨none, 0, 0, []⟩⟩, _, (by rw [hc]; first | done | rfl), (St.keep1 (hs22.fr L20)), ?_, ?_⟩
  · exact (by exact ho21)
  · rw [hdn]; rfl
 have hgood : (diskOk d.dat && dopOk op.dat) = true := by have h9 := h14; revert h9; cases diskOk d.dat <;> cases dopOk op.dat <;> simp
 rw [Bool.and_eq_true] at hgood
 obtain ⟨hok, hop⟩ := hgood
 refine WC.skip (hK8 _ _ (WC.sr (WL.r 1 hs13 [2] rfl ?_)))
 refine WL.cl Tryz.call75 rfl (k85_ d _ (okDiskR.st0 f_d hs13) ?_) ?_
 · first | assumption | rfl | omega | exact hrf | exact hop
 rintro _ whs23 ⟨r24, L1_25, rfl, hs23, ho26, hd27⟩
 replace hs23 := hs13.callF hs23
 refine ⟨_, rfl, ?_⟩
 replace hs23 := St.back [_, _, _] hs23
 have hrok : diskOk (DiskR.dat r24) = true := by rw [hd27]; exact hok
 have hrsm : smDisk 549755813888 (DiskR.dat r24) := by rw [hd27]; exact hsmB
 have hrc : doC (DiskR.dat r24) op.dat = doC d.dat op.dat := by rw [hd27]
 refine WL.al hs23 Tryz.zeroValue34 rfl rfl (fun b28 _ hs29 => WL.st tbk hs29 0 rfl rfl (fun _ hs30 => WL.nil (WC.seq (fun K31 hK31 => WC.sr (WL.r 2 hs30 [3, 2] rfl ?_)))))
 refine WL.cl Tryz.call89 rfl (k86_ d op _ (okDiskR.st0 f_d hs30) (okDiskOpR.st0 f_op hs30) ?_) ?_
 · first | assumption | rfl | omega | exact hrf | exact hop
 rintro _ whs32 ⟨rfl, hs32⟩
 replace hs32 := hs30.call0 hs32
 refine ⟨_, rfl, WL.r 1 hs32 [] rfl (WL.nil (WC.r1 hs32 [] rfl (WC.cq rfl (fun h33 qh33 => ?_) (fun h33 qh33 => ?_))))⟩
 ·have hr0 : ¬ refuse d.dat op.dat = 0 := by have h9 := h33; simpa using h9
  obtain ⟨hdn, hc⟩ := done_ref hok hop hr0
  refine WC.sr (WL.r 2 hs32 [0] rfl (WL.st tbk hs32 1 rfl rfl (fun _ hs34 => WL.r 1 hs34 [] rfl (WL.nil (WC.ret (tkR ?_))))))
  clear hK31
  refine retV2 rfl (resV.cellA tbk hs34 1 rfl rfl rfl rfl) (resV.tmp rfl) ?_
  refine ⟨r24, _, (by rw [hc]; first | done | rfl), (St.keep1 (hs34.fr L1_25)), ?_, ?_⟩
  · exact ho26
  · rw [hdn]; exact hd27
 have hr0 : refuse d.dat op.dat = 0 := by have h9 := h33; simpa using h9
 have hrf : refuse (DiskR.dat r24) op.dat = 0 := by rw [hd27]; exact hr0
 obtain ⟨hdn, hc⟩ := done_do hok hop hr0
 rw [← hrc] at hc
 refine WC.skip (hK31 _ _ (WC.sr (WL.r 1 hs32 [2] rfl ?_)))
 have hF35 := ((hs32.fr L1_25).fb b28)
 refine WL.cl Tryz.call90 rfl (k96_ _ r24 _ _ _ _ _ _ _ _ _ (St.headP hF35) ho26 (St.ownP hF35) (SlF.st0 f_op.Data hs32) f_op.Data_c (St.nodupP hF35) (St.sepP hF35 f_op.Data) ?_ ?_ ?_ ?_) ?_
 iterate 4 first | assumption | rfl | omega | exact hrf | exact hop
 rintro _ whs36 ⟨r37, L38, rfl, hs36, ho39, hd40⟩
 replace hs36 := St.lendP hF35 hs36
 refine ⟨_, rfl, ?_⟩
 have hs41 := ((((hs36.fb b2).fb b4).fb b6).fb b28)
 refine WL.r 1 hs41 [] rfl (WL.nil (WC.sr (WL.r 2 hs41 [0] rfl (WL.st tbk hs41 1 rfl rfl (fun _ hs42 => WL.r 1 hs42 [] rfl (WL.nil (WC.ret ?_)))))))
 refine retV2 rfl (resV.cellA tbk hs42 1 rfl rfl rfl rfl) (resV.tmp rfl) ?_
 refine ⟨r37, _, (by rw [hc]; first | done | rfl), (St.keep1 (hs42.fr L38)), ?_, ?_⟩
 · exact ho39
 · rw [hdn, ← hd27]; exact hd40
theorem built_36 : Tryz.prog.built 36 [] = some (List.toArray [.int .i64 0, .int .i64 0, .int .i64 0, .slice none 0 0, .slice none 0 0, .slice none 0 0, .int .i64 0, .int .i64 0, .int .i64 0, .bool false]) := by kernel_rfl
theorem built_75_0_1 (x0 : Int) (x1 : ByteArray) : Tryz.prog.built 75 [(0, .int .i64 x0), (1, .string x1)] = some (List.toArray [.int .i64 x0, .string x1, .string ⟨#[]⟩, .slice none 0 0]) := by kernel_rfl
section
variable {P : Program} {o : Oper} {f : Fr} {w : World} {t t' : TypeId} {x y : Operand}
theorem wrap_u32 {n : Nat} (h : n < 4294967296) : IntKind.u32.wrap (n : Int) = (n : Int) := by
 simp [IntKind.wrap, IntKind.bits, IntKind.signed]; omega
theorem Run.xorU (a b : Nat) (ho : o.op = .binOp .xor t x y t') (hx : ev f x = some (.int .u32 (a : Int))) (hy : ev f y = some (.int .u32 (b : Int))) (ha : a < 4294967296) (hb : b < 4294967296) : Run P o f w (.value (.int .u32 ((a ^^^ b : Nat) : Int))) w := fun ρ hρ => by
 have e : (BitVec.ofNat 32 a ^^^ BitVec.ofNat 32 b).toNat = a ^^^ b := by rw [BitVec.toNat_xor, BitVec.toNat_ofNat, BitVec.toNat_ofNat, Nat.mod_eq_of_lt (show a < 2 ^ 32 from ha), Nat.mod_eq_of_lt (show b < 2 ^ 32 from hb)]
 have e2 := wrap_u32 (Nat.xor_lt_two_pow (n := 32) ha hb)
 simp [execOp, ho, hρ _ _ hx, hρ _ _ hy, eqGuard, binOp, Op.intBits, IntKind.bits]
 exact (congrArg (fun n : Nat => IntKind.u32.wrap (n : Int)) e).trans e2
theorem Run.and1 (a : Nat) (ho : o.op = .binOp .and t x y t') (hx : ev f x = some (.int .u32 (a : Int))) (hy : ev f y = some (.int .u32 1)) (ha : a < 4294967296) : Run P o f w (.value (.int .u32 ((a % 2 : Nat) : Int))) w := fun ρ hρ => by
 have e : (BitVec.ofNat 32 a &&& 1#32).toNat = a % 2 := by rw [BitVec.toNat_and, BitVec.toNat_ofNat, Nat.mod_eq_of_lt (show a < 2 ^ 32 from ha), show (1#32).toNat = 2 ^ 1 - 1 from rfl, Nat.and_two_pow_sub_one_eq_mod]
 have e2 := wrap_u32 (n := a % 2) (by omega)
 simp [execOp, ho, hρ _ _ hx, hρ _ _ hy, eqGuard, binOp, Op.intBits, IntKind.bits]
 exact (congrArg (fun n : Nat => IntKind.u32.wrap (n : Int)) e).trans e2
theorem Run.shr1 (a : Nat) {k : IntKind} (ho : o.op = .binOp .shr t x y t') (hx : ev f x = some (.int .u32 (a : Int))) (hy : ev f y = some (.int k 1)) : Run P o f w (.value (.int .u32 ((a / 2 : Nat) : Int))) w := fun ρ hρ => by
 have e3 : (a : Int).fdiv (2 ^ 1) = ((a / 2 : Nat) : Int) := by
  rw [Int.fdiv_eq_ediv_of_nonneg _ (by decide)]; simp
 simp [execOp, ho, hρ _ _ hx, hρ _ _ hy, eqGuard, binOp, Op.shift, IntKind.bits]
 simpa using e3
theorem Run.notU (a : Nat) (ho : o.op = .unOp .xor t x) (hx : ev f x = some (.int .u32 (a : Int))) (ha : a < 4294967296) : Run P o f w (.value (.int .u32 ((4294967295 ^^^ a : Nat) : Int))) w := fun ρ hρ => by
 have e : (BitVec.ofInt 32 4294967295 ^^^ BitVec.ofNat 32 a).toNat = 4294967295 ^^^ a := by rw [BitVec.toNat_xor, BitVec.toNat_ofNat, Nat.mod_eq_of_lt (show a < 2 ^ 32 from ha)]; rfl
 have e2 := wrap_u32 (Nat.xor_lt_two_pow (n := 32) (x := 4294967295) (by decide) ha)
 simp [execOp, ho, hρ _ _ hx, Op.unary, Op.intBits, IntKind.bits, IntKind.signed, IntKind.max]
 exact (congrArg (fun n : Nat => IntKind.u32.wrap (n : Int)) e).trans e2
end
theorem k98_ (A_b : Option Addr) (n_b c_b : Nat) (b : List UInt8) (w : World) (f_b : SlF encB w A_b n_b b) (hn : n_b ≤ 1099511627776) :
    Calls Tryz.prog 157 #[.slice A_b n_b c_b] w fun e w' => e = .returned (.int .i64 (crcN b : Nat)) ∧ St w [] [] w' := by
 have hl := f_b.len
 refine enter 32 Tryz.func157 rfl Tryz.ntmps157 rfl rfl ?_
 have hs1 := St.init w
 refine WC.r1 hs1 [] rfl (WC.r1 hs1 [] rfl (WC.seq (fun K2 hK2 => WC.r1 hs1 [] rfl (WC.block ?_))))
 refine WC.lS [2, 7, 8] rfl hs1 (fun k_ f w' => ∃ (i : Nat), k_ = n_b - i ∧ (i ≤ n_b) ∧ Sub [(9, .int .i64 i), (3, .int .u32 (crcF (b.take i) : Nat))] f) ((fun (i : Nat) => n_b - i) (0)) ?_ ?_
 ·refine ⟨0, rfl, ?_, ⟨rfl, ?_, trivial⟩⟩
  · exact Nat.zero_le _
  · rfl
 clear hs1
 rintro _ f w ⟨i, rfl, p0, hG⟩ hF hs3
 refine WC.sub _ (hG.app hF) ?_
 clear hG hF
 refine WC.r1 hs3 [] rfl (WC.seq (fun K4 hK4 => ?_))
 refine WC.cq rfl (fun h5 qh5 => ?_) (fun h5 qh5 => ?_)
 ·have hY : (crcF (b.take i) ^^^ (gat encB b i).toNat) < 4294967296 := xor_lt (crcF_lt _) (by have := (gat encB b i).toNat_lt; omega)
  refine WC.skip (hK4 _ _ (WC.seq (fun K6 hK6 => WC.block (WC.sr ?_))))
  refine WL.val rfl rfl rfl (Run.idxN Tryz.runUnderlying43 Tryz.sizeOf5 rfl rfl rfl ?_ ?_ ?_) ?_
  · exact SlF.some_ (SlF.st0 f_b hs3)
  · omega
  · omega
  refine WL.val rfl rfl rfl (Run.load Tryz.isAgg5 rfl rfl (SlF.one1 (SlF.st0 f_b hs3) ?_ rfl)) ?_
  · omega
  refine WL.r 1 hs3 [] rfl (WL.nil (WC.sr (WL.r 2 hs3 [] rfl (WL.val rfl rfl rfl (Run.asN ((gat encB b i).toNat) (Run.conv Tryz.runUnderlying5 Tryz.runUnderlying194 rfl rfl) ?_) ?_))))
  · exact wrap_u32 (by have := (gat encB b i).toNat_lt; omega)
  refine WL.val rfl rfl rfl (Run.xorU (crcF (b.take i)) ((gat encB b i).toNat) rfl rfl rfl ?_ ?_) ?_
  · first | exact crcF_lt _ | exact hY | exact crcK_lt hY | decide | (have h9 := crcK_lt (k := j) hY; omega) | (have h9 := (gat encB b i).toNat_lt; omega)
  · first | exact crcF_lt _ | exact hY | exact crcK_lt hY | decide | (have h9 := crcK_lt (k := j) hY; omega) | (have h9 := (gat encB b i).toNat_lt; omega)
  refine WL.r 1 hs3 [] rfl (WL.nil (WC.r1 hs3 [] rfl (WC.block (WC.lS [2, 5, 7, 8, 9, 10, 11, 12, 13, 14, 15, 16] rfl hs3 (fun k_ f w' => ∃ (j : Nat), k_ = 8 - j ∧ (j ≤ 8) ∧ Sub [(17, .int .i64 j), (3, .int .u32 (crcK j (crcF (b.take i) ^^^ (gat encB b i).toNat) : Nat))] f) ((fun (j : Nat) => 8 - j) (0)) ?_ ?_))))
  ·refine ⟨0, rfl, ?_, ⟨rfl, ?_, trivial⟩⟩
   · exact Nat.zero_le _
   · rfl
  clear hs3
  rintro _ f w ⟨j, rfl, r0, hG⟩ hF hs7
  refine WC.sub _ (hG.app hF) ?_
  clear hG hF
  refine WC.r1 hs7 [] rfl (WC.seq (fun K8 hK8 => ?_))
  refine WC.cq rfl (fun h9 qh9 => ?_) (fun h9 qh9 => ?_)
  ·refine WC.skip (hK8 _ _ (WC.seq (fun K10 hK10 => WC.block (WC.sr (WL.r 1 hs7 [] rfl ?_)))))
   refine WL.val rfl rfl rfl (Run.and1 (crcK j (crcF (b.take i) ^^^ (gat encB b i).toNat)) rfl rfl rfl ?_) ?_
   · first | exact crcF_lt _ | exact hY | exact crcK_lt hY | decide | (have h9 := crcK_lt (k := j) hY; omega) | (have h9 := (gat encB b i).toNat_lt; omega)
   refine WL.r 2 hs7 [] rfl (WL.nil (WC.sr (WL.r 1 hs7 [] rfl (WL.val rfl rfl rfl (Run.shr1 (crcK j (crcF (b.take i) ^^^ (gat encB b i).toNat)) rfl rfl rfl) (WL.r 1 hs7 [] rfl (WL.nil (WC.r1 hs7 [] rfl ?_)))))))
   refine WC.cq rfl (fun h11 qh11 => ?_) (fun h11 qh11 => ?_)
   ·have hod : crcK j (crcF (b.take i) ^^^ (gat encB b i).toNat) % 2 = 1 := by have h9 := h11; simp at h9; omega
    refine WC.region (WL.r 1 hs7 [] rfl (WL.val rfl rfl rfl (Run.xorU (crcK j (crcF (b.take i) ^^^ (gat encB b i).toNat) / 2) (2197175160) rfl rfl rfl ?_ ?_) ?_))
    · first | exact crcF_lt _ | exact hY | exact crcK_lt hY | decide | (have h9 := crcK_lt (k := j) hY; omega) | (have h9 := (gat encB b i).toNat_lt; omega)
    · first | exact crcF_lt _ | exact hY | exact crcK_lt hY | decide | (have h9 := crcK_lt (k := j) hY; omega) | (have h9 := (gat encB b i).toNat_lt; omega)
    refine WL.r 1 hs7 [] rfl (WL.nil (hK10 _ _ (WC.region (WL.r 2 hs7 [] rfl (WL.nil (tkN ?_))))))
    refine ⟨sbF rfl, hs7, _, ?_, j + 1, rfl, ?_, ⟨rfl, ?_, trivial⟩⟩
    · omega
    · omega
    · (rw [crcK_succ]; unfold crcS; first | (rw [if_pos hod]; first | done | rfl) | (rw [if_neg hod]; first | done | rfl))
   have hod : ¬ crcK j (crcF (b.take i) ^^^ (gat encB b i).toNat) % 2 = 1 := by have h9 := h11; simp at h9; omega
   refine WC.skip (hK10 _ _ (WC.region (WL.r 2 hs7 [] rfl (WL.nil (tkN ?_)))))
   refine ⟨sbF rfl, hs7, _, ?_, j + 1, rfl, ?_, ⟨rfl, ?_, trivial⟩⟩
   · omega
   · omega
   · (rw [crcK_succ]; unfold crcS; first | (rw [if_pos hod]; first | done | rfl) | (rw [if_neg hod]; first | done | rfl))
  refine WC.exit (hK6 _ _ (WC.region (WL.r 2 hs7 [] rfl (WL.nil (tkN ?_)))))
  refine ⟨sbF rfl, hs7, _, ?_, i + 1, rfl, ?_, ⟨rfl, ?_, trivial⟩⟩
  · omega
  · omega
  · rw [crcF_take (by omega)]; unfold crcB; rw [show j = 8 from by omega]; first | done | rfl
 refine WC.exit (hK2 _ _ (WC.sr (WL.r 1 hs3 [] rfl ?_)))
 refine WL.val rfl rfl rfl (Run.notU (crcF (b.take i)) rfl rfl ?_) ?_
 · first | exact crcF_lt _ | exact hY | exact crcK_lt hY | decide | (have h9 := crcK_lt (k := j) hY; omega) | (have h9 := (gat encB b i).toNat_lt; omega)
 refine WL.val rfl rfl rfl (Run.asN ((4294967295 ^^^ crcF (b.take i))) (Run.conv Tryz.runUnderlying194 Tryz.runUnderlying3 rfl rfl) ?_) ?_
 · exact wrap_in (by constructor <;> (have h9 := xor_lt (a := 4294967295) (by decide) (crcF_lt (b.take i)); omega))
 refine WL.r 1 hs3 [] rfl (WL.nil (WC.ret (rtv rfl rfl hs3 ?_)))
 rw [List.take_of_length_le (by omega)]; unfold crcN; rw [Nat.xor_comm]
theorem k99_ (A_b : Option Addr) (n_b c_b : Nat) (b : List UInt8) (w : World) (f_b : SlF encB w A_b n_b b) (hn : n_b ≤ 1099511627776) :
    Calls Tryz.prog 96 #[.slice A_b n_b c_b] w fun e w' => e = .returned (.int .i64 (crcN b : Nat)) ∧ St w [] [] w' := by
 have hl := f_b.len
 refine enter 34 Tryz.func96 rfl Tryz.ntmps96 rfl rfl ?_
 have hs1 := St.init w
 refine WC.r1 hs1 [] rfl (WC.r1 hs1 [] rfl (WC.seq (fun K2 hK2 => WC.r1 hs1 [] rfl (WC.block ?_))))
 refine WC.lS [0, 2] rfl hs1 (fun k_ f w' => ∃ (i : Nat), k_ = n_b - i ∧ (i ≤ n_b) ∧ Sub [(4, .int .i64 i), (3, .int .i64 (crcF (b.take i) : Nat))] f) ((fun (i : Nat) => n_b - i) (0)) ?_ ?_
 ·refine ⟨0, rfl, ?_, ⟨rfl, ?_, trivial⟩⟩
  · exact Nat.zero_le _
  · rfl
 clear hs1
 rintro _ f w ⟨i, rfl, p0, hG⟩ hF hs3
 refine WC.sub _ (hG.app hF) ?_
 clear hG hF
 refine WC.seq (fun K4 hK4 => WC.r1 hs3 [] rfl ?_)
 refine WC.cq rfl (fun h5 qh5 => ?_) (fun h5 qh5 => ?_)
 ·have hY : (crcF (b.take i) ^^^ (gat encB b i).toNat) < 4294967296 := xor_lt (crcF_lt _) (by have := (gat encB b i).toNat_lt; omega)
  refine WC.skip (hK4 _ _ (WC.seq (fun K6 hK6 => WC.block (WC.sr (WL.r 3 hs3 [] rfl ?_)))))
  refine WL.val rfl rfl rfl (Run.idxN Tryz.runUnderlying43 Tryz.sizeOf5 rfl rfl rfl ?_ ?_ ?_) ?_
  · exact SlF.some_ (SlF.st0 f_b hs3)
  · omega
  · omega
  refine WL.val rfl rfl rfl (Run.load Tryz.isAgg5 rfl rfl (SlF.one1 (SlF.st0 f_b hs3) ?_ rfl)) ?_
  · omega
  refine WL.r 1 hs3 [] rfl (WL.val rfl rfl rfl (Run.asN ((crcF (b.take i) ^^^ (gat encB b i).toNat)) (Run.xor rfl rfl rfl ?_ ?_ ?_ ?_) ?_) ?_)
  · first | omega | (have h9 := crcK_lt (k := j) hY; omega) | (have h9 := crcF_lt (b.take i); omega) | (have h9 := (gat encB b i).toNat_lt; omega)
  · first | omega | (have h9 := crcK_lt (k := j) hY; omega) | (have h9 := crcF_lt (b.take i); omega) | (have h9 := (gat encB b i).toNat_lt; omega)
  · first | omega | (have h9 := crcK_lt (k := j) hY; omega) | (have h9 := crcF_lt (b.take i); omega) | (have h9 := (gat encB b i).toNat_lt; omega)
  · first | omega | (have h9 := crcK_lt (k := j) hY; omega) | (have h9 := crcF_lt (b.take i); omega) | (have h9 := (gat encB b i).toNat_lt; omega)
  · (simp only [Int.toNat_natCast])
  refine WL.r 1 hs3 [] rfl (WL.nil (WC.r1 hs3 [] rfl (WC.block (WC.lS [0, 2, 4, 7, 8, 9, 10, 13, 14, 15, 16, 17, 18, 19] rfl hs3 (fun k_ f w' => ∃ (j : Nat), k_ = 8 - j ∧ (j ≤ 8) ∧ Sub [(5, .int .i64 j), (3, .int .i64 (crcK j (crcF (b.take i) ^^^ (gat encB b i).toNat) : Nat))] f) ((fun (j : Nat) => 8 - j) (0)) ?_ ?_))))
  ·refine ⟨0, rfl, ?_, ⟨rfl, ?_, trivial⟩⟩
   · exact Nat.zero_le _
   · rfl
  clear hs3
  rintro _ f w ⟨j, rfl, r0, hG⟩ hF hs7
  refine WC.sub _ (hG.app hF) ?_
  clear hG hF
  refine WC.seq (fun K8 hK8 => WC.r1 hs7 [] rfl ?_)
  refine WC.cq rfl (fun h9 qh9 => ?_) (fun h9 qh9 => ?_)
  ·refine WC.skip (hK8 _ _ (WC.seq (fun K10 hK10 => WC.block (WC.sr (WL.r 1 hs7 [] rfl ?_)))))
   refine WL.val rfl rfl rfl (Run.asN ((crcK j (crcF (b.take i) ^^^ (gat encB b i).toNat) % 2)) (Run.rem rfl rfl rfl ?_ ?_) ?_) ?_
   · first | omega | (have h9 := crcK_lt (k := j) hY; omega) | (have h9 := crcF_lt (b.take i); omega) | (have h9 := (gat encB b i).toNat_lt; omega)
   · first | omega | (have h9 := crcK_lt (k := j) hY; omega) | (have h9 := crcF_lt (b.take i); omega) | (have h9 := (gat encB b i).toNat_lt; omega)
   · omega
   refine WL.r 1 hs7 [] rfl (WL.nil (WC.sr (WL.r 1 hs7 [] rfl (WL.val rfl rfl rfl (Run.asN ((crcK j (crcF (b.take i) ^^^ (gat encB b i).toNat) / 2)) (Run.quo rfl rfl rfl ?_ ?_ ?_) ?_) ?_))))
   · first | omega | (have h9 := crcK_lt (k := j) hY; omega) | (have h9 := crcF_lt (b.take i); omega) | (have h9 := (gat encB b i).toNat_lt; omega)
   · first | omega | (have h9 := crcK_lt (k := j) hY; omega) | (have h9 := crcF_lt (b.take i); omega) | (have h9 := (gat encB b i).toNat_lt; omega)
   · first | omega | (have h9 := crcK_lt (k := j) hY; omega) | (have h9 := crcF_lt (b.take i); omega) | (have h9 := (gat encB b i).toNat_lt; omega)
   · omega
   refine WL.r 1 hs7 [] rfl (WL.nil (WC.r1 hs7 [] rfl (WC.cq rfl (fun h11 qh11 => ?_) (fun h11 qh11 => ?_))))
   ·have hod : crcK j (crcF (b.take i) ^^^ (gat encB b i).toNat) % 2 = 1 := by have h9 := h11; simp at h9; omega
    refine WC.region (WL.r 1 hs7 [] rfl (WL.val rfl rfl rfl (Run.asN (((crcK j (crcF (b.take i) ^^^ (gat encB b i).toNat) / 2) ^^^ 2197175160)) (Run.xor rfl rfl rfl ?_ ?_ ?_ ?_) ?_) ?_))
    · first | omega | (have h9 := crcK_lt (k := j) hY; omega) | (have h9 := crcF_lt (b.take i); omega) | (have h9 := (gat encB b i).toNat_lt; omega)
    · first | omega | (have h9 := crcK_lt (k := j) hY; omega) | (have h9 := crcF_lt (b.take i); omega) | (have h9 := (gat encB b i).toNat_lt; omega)
    · first | omega | (have h9 := crcK_lt (k := j) hY; omega) | (have h9 := crcF_lt (b.take i); omega) | (have h9 := (gat encB b i).toNat_lt; omega)
    · first | omega | (have h9 := crcK_lt (k := j) hY; omega) | (have h9 := crcF_lt (b.take i); omega) | (have h9 := (gat encB b i).toNat_lt; omega)
    · (simp only [Int.toNat_natCast]; rfl)
    refine WL.r 1 hs7 [] rfl (WL.nil (hK10 _ _ (WC.region ?_)))
    refine WL.run tbk 3 hs7 [] rfl ⟨by first | omega | (have h9 := crcK_lt (k := j) hY; omega) | (have h9 := crcF_lt (b.take i); omega) | (have h9 := (gat encB b i).toNat_lt; omega), trivial⟩ (WL.nil (tkN (⟨sbF rfl, hs7, _, ?_, j + 1, rfl, ?_, ⟨rfl, ?_, trivial⟩⟩)))
    · omega
    · omega
    · (refine congrArg some (congrArg (Value.int _) ?_); rw [crcK_succ]; unfold crcS; first | (rw [if_pos hod]; first | done | rfl | omega) | (rw [if_neg hod]; first | done | rfl | omega))
   have hod : ¬ crcK j (crcF (b.take i) ^^^ (gat encB b i).toNat) % 2 = 1 := by have h9 := h11; simp at h9; omega
   refine WC.skip (hK10 _ _ (WC.region ?_))
   refine WL.run tbk 3 hs7 [] rfl ⟨by first | omega | (have h9 := crcK_lt (k := j) hY; omega) | (have h9 := crcF_lt (b.take i); omega) | (have h9 := (gat encB b i).toNat_lt; omega), trivial⟩ (WL.nil (tkN (⟨sbF rfl, hs7, _, ?_, j + 1, rfl, ?_, ⟨rfl, ?_, trivial⟩⟩)))
   · omega
   · omega
   · (refine congrArg some (congrArg (Value.int _) ?_); rw [crcK_succ]; unfold crcS; first | (rw [if_pos hod]; first | done | rfl | omega) | (rw [if_neg hod]; first | done | rfl | omega))
  refine WC.exit (hK6 _ _ (WC.region ?_))
  refine WL.run tbk 3 hs7 [] rfl ⟨by first | omega | (have h9 := crcK_lt (k := j) hY; omega) | (have h9 := crcF_lt (b.take i); omega) | (have h9 := (gat encB b i).toNat_lt; omega), trivial⟩ (WL.nil (tkN (⟨sbF rfl, hs7, _, ?_, i + 1, rfl, ?_, ⟨rfl, ?_, trivial⟩⟩)))
  · omega
  · omega
  · rw [crcF_take (by omega)]; unfold crcB; rw [show j = 8 from by omega]; first | done | rfl
 refine WC.exit (hK2 _ _ (WC.sr (WL.r 1 hs3 [] rfl ?_)))
 refine WL.val rfl rfl rfl (Run.asN ((crcF (b.take i) ^^^ 4294967295)) (Run.xor rfl rfl rfl ?_ ?_ ?_ ?_) ?_) ?_
 · first | omega | (have h9 := crcK_lt (k := j) hY; omega) | (have h9 := crcF_lt (b.take i); omega) | (have h9 := (gat encB b i).toNat_lt; omega)
 · first | omega | (have h9 := crcK_lt (k := j) hY; omega) | (have h9 := crcF_lt (b.take i); omega) | (have h9 := (gat encB b i).toNat_lt; omega)
 · first | omega | (have h9 := crcK_lt (k := j) hY; omega) | (have h9 := crcF_lt (b.take i); omega) | (have h9 := (gat encB b i).toNat_lt; omega)
 · first | omega | (have h9 := crcK_lt (k := j) hY; omega) | (have h9 := crcF_lt (b.take i); omega) | (have h9 := (gat encB b i).toNat_lt; omega)
 · (simp only [Int.toNat_natCast]; rfl)
 refine WL.r 1 hs3 [] rfl (WL.nil (WC.ret (rtv rfl rfl hs3 ?_)))
 rw [List.take_of_length_le (by omega)]; rfl
theorem k100_ (n : Nat) (w : World) (hn : n ≤ 268435456) :
    Calls Tryz.prog 179 #[.slice none 0 0, .int .i64 n] w fun e w' => ∃ A c L1, e = .returned (.slice A 0 c) ∧ St w [] L1 w' ∧ OwnF encB 5 (.slice A 0 c) [] L1 := by
 refine enter 27 Tryz.func179 rfl Tryz.ntmps179 rfl rfl ?_
 have hs1 := St.init w
 refine WC.r1 hs1 [] rfl (WC.seq (fun K2 hK2 => WC.r1 hs1 [] rfl (WC.condF rfl (by simp) (WC.skip (hK2 _ _ (WC.seq (fun K4 hK4 => WC.r1 hs1 [] rfl ?_)))))))
 refine WC.r1 hs1 [] rfl (WC.cD rfl (fun qh5 => ?_) (fun qh5 => ?_))
 ·refine WC.region (WL.r 3 hs1 [] rfl (WL.val rfl rfl rfl (Run.sliceH0 (0) Tryz.runUnderlying43 Tryz.sizeOf5 rfl rfl rfl ?_ ?_) ?_))
  · first | rfl | (omega)
  · first | (exact Nat.zero_le _) | (omega)
  refine WL.r 1 hs1 [] rfl (WL.appendZ (F := encB) (n) hs1 Tryz.underlying43 Tryz.underlying3 inf5 rfl rfl rfl rfl rfl rfl rfl rfl rfl rfl ?_ ?_ ?_ (fun A9 c10 L6 whs7 _ hs7 ho8 => ?_))
  · first | rfl | (omega)
  · omega
  · omega
  refine WL.r 2 hs7 [] rfl (WL.val rfl rfl rfl (Run.sliceH0 (0) Tryz.runUnderlying43 Tryz.sizeOf5 rfl rfl rfl ?_ ?_) ?_)
  · first | rfl | (omega)
  · first | (exact Nat.zero_le _) | (omega)
  refine WL.r 1 hs7 [] rfl (WL.nil (hK4 _ _ (WC.r1 hs7 [] rfl (WC.ret (retV1 rfl (resV.tmp rfl) (⟨_, _, _, rfl, (St.keep1 hs7), ho8⟩))))))
 refine WC.skip (hK4 _ _ (WC.r1 hs1 [] rfl (WC.ret (retV1 rfl (resV.tmp rfl) (⟨_, _, _, rfl, hs1.nil, OwnF.nil encB 5⟩)))))
theorem k101_ (A_s : Option Addr) (n_s c_s : Nat) (hs : List HdrD) (xss : List (List UInt8)) (w : World) (f_s : SlF encH w A_s n_s hs) (hf : ∀ i, i < n_s → SlF encB w (gat encH hs i).A (gat encH hs i).n (xss.getD i [])) (hl : xss.length = n_s) (ht : xss.flatten.length ≤ 268435456) (hn : n_s ≤ 1000) :
    Calls Tryz.prog 158 #[.slice A_s n_s c_s] w fun e w' => ∃ A c L1, e = .returned (.slice A (xss.flatten).length c) ∧ St w [] L1 w' ∧ OwnF encB 5 (.slice A (xss.flatten).length c) (xss.flatten) L1 := by
 refine enter 36 Tryz.func158 rfl Tryz.ntmps158 rfl rfl ?_
 have hs1 := St.init w
 refine WC.r1 hs1 [] rfl (WC.r1 hs1 [] rfl (WC.seq (fun K2 hK2 => WC.r1 hs1 [] rfl (WC.block ?_))))
 refine WC.lS [0, 2, 9, 10] rfl hs1 (fun k_ f w' => ∃ (i : Nat) (q : Int), k_ = n_s - i ∧ (i ≤ n_s) ∧ (q = (((xss.take i).flatten).length : Int)) ∧ Sub [(11, .int .i64 i), (3, .int .i64 q)] f) ((fun (i : Nat) (q : Int) => n_s - i) (0) (0)) ?_ ?_
 ·refine ⟨0, 0, rfl, ?_, ?_, ⟨rfl, rfl, trivial⟩⟩
  · exact Nat.zero_le _
  · simp
 clear hs1
 rintro _ f w ⟨i, q, rfl, p0, p1, hG⟩ hF hs3
 refine WC.sub _ (hG.app hF) ?_
 clear hG hF
 have hle := flat_le (xss := xss) (i := i)
 have hle2 := flat_le (xss := xss) (i := i + 1)
 refine WC.r1 hs3 [] rfl (WC.seq (fun K4 hK4 => ?_))
 refine WC.cD rfl (fun qh5 => ?_) (fun qh5 => ?_)
 ·have hli := (hf i (by omega)).len
  have hft := congrArg List.length (flat_take (xss := xss) (i := i) (by omega))
  simp only [List.length_append] at hft
  refine WC.skip (hK4 _ _ (WC.seq (fun K6 hK6 => WC.block (WC.sr ?_))))
  refine WL.val rfl rfl rfl (Run.idxN Tryz.runUnderlying195 Tryz.sizeOf43 rfl rfl rfl ?_ ?_ ?_) ?_
  · exact SlF.some_ (SlF.st0 f_s hs3)
  · omega
  · omega
  refine WL.val rfl rfl rfl (Run.load Tryz.isAgg43 rfl rfl (SlF.one1 (SlF.st0 f_s hs3) ?_ rfl)) ?_
  · omega
  refine WL.r 1 hs3 [] rfl (WL.nil (WC.r1 hs3 [] rfl (WC.r1 hs3 [] rfl ?_)))
  refine WC.condF rfl (by simp; omega) (WC.skip (hK6 _ _ (WC.region (WL.r 2 hs3 [] rfl (WL.nil (tkN ?_))))))
  refine ⟨sbF rfl, hs3, _, ?_, i + 1, _, rfl, ?_, ?_, ⟨rfl, rfl, trivial⟩⟩
  · omega
  · omega
  · rw [flat_take (by omega), List.length_append, p1, (hf i (by omega)).len]; simp
 have hqf : xss.take i = xss := List.take_of_length_le (by omega)
 rw [hqf] at p1
 subst p1
 refine WC.exit (hK2 _ _ (WC.sr (WL.r 1 hs3 [] rfl ?_)))
 refine WL.cl Tryz.call179 rfl (k100_ (xss.flatten.length) _ ?_) ?_
 · omega
 rintro _ whs8 ⟨A9, c10, L1_11, rfl, hs8, ho12⟩
 replace hs8 := hs3.callF hs8
 refine ⟨_, rfl, WL.r 1 hs8 [] rfl (WL.nil (WC.seq (fun K13 hK13 => WC.r1 hs8 [] rfl (WC.block ?_))))⟩
 refine WC.lO [2, 12, 25, 26] rfl hs8 (fun k_ f L_ => ∃ (zs : List UInt8) (i : Nat) (A14 : Option Addr) (c15 : Nat), k_ = n_s - i ∧ (i ≤ n_s) ∧ (zs = (xss.take i).flatten) ∧ OwnF encB 5 (.slice A14 (zs.length) c15) (zs) L_ ∧ Sub [(6, .slice A14 (zs.length) c15), (27, .int .i64 i)] f) (((fun (zs : List UInt8) (i : Nat) => n_s - i) ([]) (0))) ?_ ?_
 ·refine ⟨[], 0, _, _, rfl, ?_, ?_, ho12, ⟨rfl, rfl, trivial⟩⟩
  · exact Nat.zero_le _
  · simp
 clear hs8
 rintro _ f w L16 ⟨zs, i, A14, c15, rfl, p0, p1, ho17, hG⟩ hF hs18
 refine WC.sub _ (hG.app hF) ?_
 clear hG hF
 have hle := flat_le (xss := xss) (i := i)
 have hle2 := flat_le (xss := xss) (i := i + 1)
 refine WC.r1 hs18 [] rfl (WC.seq (fun K19 hK19 => ?_))
 refine WC.cD rfl (fun qh20 => ?_) (fun qh20 => ?_)
 ·have hli := (hf i (by omega)).len
  have hft := congrArg List.length (flat_take (xss := xss) (i := i) (by omega))
  simp only [List.length_append] at hft
  refine WC.skip (hK19 _ _ (WC.seq (fun K21 hK21 => WC.block (WC.sr ?_))))
  refine WL.val rfl rfl rfl (Run.idxN Tryz.runUnderlying195 Tryz.sizeOf43 rfl rfl rfl ?_ ?_ ?_) ?_
  · exact SlF.some_ (SlF.st0 f_s hs18)
  · omega
  · omega
  refine WL.val rfl rfl rfl (Run.load Tryz.isAgg43 rfl rfl (SlF.one1 (SlF.st0 f_s hs18) ?_ rfl)) ?_
  · omega
  refine WL.r 1 hs18 [] rfl (WL.nil (WC.region (WL.r 2 hs18 [] rfl (WL.appendG hs18 ho17 (SlF.src (SlF.st0 (hf i (by omega)) hs18) Tryz.underlying43) Tryz.underlying43 inf5 rfl rfl rfl rfl rfl rfl rfl rfl rfl rfl ?_ (fun A25 c26 L22 whs23 hs23 ho24 => ?_)))))
  · rw [p1]; omega
  refine WL.r 1 hs23 [] rfl (WL.nil (hK21 _ _ (WC.region (WL.r 2 hs23 [] rfl (WL.nil (tkN ?_))))))
  refine ⟨sbF rfl, _, hs23, _, ?_, _, i + 1, _, _, rfl, ?_, ?_, ho24, ⟨rfl, rfl, trivial⟩⟩
  · omega
  · omega
  · rw [flat_take (by omega), p1]
 refine WC.exit (hK13 _ _ (WC.r1 hs18 [] rfl (WC.ret (retV1 rfl (resV.tmp rfl) ?_))))
 have hx_ := OwnF.eqOf (xs := xss.flatten) ho17 (by rw [p1, List.take_of_length_le (by omega)])
 rw [← hx_]
 first | exact ⟨_, _, _, rfl, (St.keep1 hs18), ho17⟩ | exact ⟨A14, c15, _, by rw [OwnF.len_ ho17], (St.keep1 hs18), by rw [OwnF.len_ ho17]; exact ho17⟩
theorem k102_ (v_b : Value) (b : List UInt8) (L_b : Hp) (n : Int) (w : World) (o_b : OwnF encB 5 v_b b L_b) (h_b : Hh w L_b) (h0 : 0 ≤ n) (h1 : n ≤ 34359738367) (hx : b.length ≤ 268435456) :
    Calls Tryz.prog 98 #[v_b, i64 n] w fun e w' => ∃ A c L1, e = .returned (.slice A (b ++ varL n.toNat).length c) ∧ St w (L_b.map (·.1)) L1 w' ∧ OwnF encB 5 (.slice A (b ++ varL n.toNat).length c) (b ++ varL n.toNat) L1 := by
 obtain ⟨A_b, c_b, rfl⟩ := o_b.shape
 have hvl := varL_len n.toNat (by omega)
 refine enter 21 Tryz.func98 rfl Tryz.ntmps98 rfl rfl ?_
 have hs1 := St.lent1 w L_b o_b h_b
 refine WC.r1 hs1 [] rfl (WC.seq (fun K2 hK2 => WC.block ?_))
 refine WC.lO [4] rfl hs1 (fun k_ f L_ => ∃ (zs : List UInt8) (q : Int) (A3 : Option Addr) (c4 : Nat), k_ = q.toNat ∧ (0 ≤ q) ∧ (q ≤ n) ∧ (b ++ varL n.toNat = zs ++ varL q.toNat) ∧ OwnF encB 5 (.slice A3 (zs.length) c4) (zs) L_ ∧ Sub [(0, .slice A3 (zs.length) c4), (1, .int .i64 q)] f) (((fun (zs : List UInt8) (q : Int) => q.toNat) (b) (n))) ?_ ?_
 ·refine ⟨b, n, _, _, rfl, ?_, ?_, ?_, o_b, ⟨rfl, rfl, trivial⟩⟩
  · exact h0
  · exact Int.le_refl _
  · rfl
 clear hs1
 rintro _ f w L5 ⟨zs, q, A3, c4, rfl, p0, p1, p2, ho6, hG⟩ hF hs7
 refine WC.sub _ (hG.app hF) ?_
 clear hG hF
 have hlen := congrArg List.length p2
 simp only [List.length_append] at hlen
 refine WC.seq (fun K8 hK8 => WC.r1 hs7 [] rfl ?_)
 refine WC.cq rfl (fun h9 qh9 => ?_) (fun h9 qh9 => ?_)
 ·refine WC.skip (hK8 _ _ (WC.block (WC.sr (WL.r 2 hs7 [] rfl ?_))))
  refine WL.val rfl rfl rfl (Run.rem rfl rfl rfl ?_ ?_) ?_
  · omega
  · omega
  refine WL.r 2 hs7 [] rfl (WL.buildSlice hs7 Tryz.runUnderlying43 Tryz.sizeOf5 Tryz.zeroValue5 rfl rfl rfl rfl rfl rfl rfl rfl rfl rfl (fun b10 whs11 hs11 => ?_))
  refine WL.appendG (hs11.fr L5) ho6 (srcB1 Tryz.underlying43 (hs11.own _ (nthL_mem (i := 0) rfl)).1) Tryz.underlying43 inf5 rfl rfl rfl rfl rfl rfl rfl rfl rfl rfl ?_ (fun A15 c16 L12 whs13 hs13 ho14 => ?_)
  · simp only [List.length_append, List.length_singleton]; omega
  replace hs13 := St.back [_] hs13
  refine WL.r 1 hs13 [] rfl (WL.nil (WC.region (WL.r 1 hs13 [] rfl (WL.val rfl rfl rfl (Run.quo rfl rfl rfl ?_ ?_ ?_) ?_))))
  · omega
  · omega
  · omega
  refine WL.r 1 hs13 [] rfl (WL.nil (ibN (tkN ?_)))
  replace hs13 := hs13.d1
  refine ⟨sbF rfl, _, hs13, _, ?_, _, _, _, _, rfl, ?_, ?_, ?_, ho14, ⟨rfl, rfl, trivial⟩⟩
  · omega
  · omega
  · omega
  · rw [p2, List.append_assoc, List.singleton_append, ub_big (by omega)]
 refine WC.exit (hK2 _ _ (WC.sr (WL.r 3 hs7 [] rfl (WL.buildSlice hs7 Tryz.runUnderlying43 Tryz.sizeOf5 Tryz.zeroValue5 rfl rfl rfl rfl rfl rfl rfl rfl rfl rfl (fun b17 whs18 hs18 => ?_)))))
 refine WL.appendG (hs18.fr L5) ho6 (srcB1 Tryz.underlying43 (hs18.own _ (nthL_mem (i := 0) rfl)).1) Tryz.underlying43 inf5 rfl rfl rfl rfl rfl rfl rfl rfl rfl rfl ?_ (fun A22 c23 L19 whs20 hs20 ho21 => ?_)
 · simp only [List.length_append, List.length_singleton]; omega
 replace hs20 := St.back [_] hs20
 refine WL.r 1 hs20 [] rfl (WL.nil (WC.ret (retV1 rfl (resV.tmp rfl) ?_)))
 have hx_ := OwnF.eqOf (xs := b ++ varL n.toNat) ho21 (by rw [p2, ← ub_small p0 (by omega)])
 rw [← hx_]
 first | exact ⟨_, _, _, rfl, (St.keep1 (hs20.fr L19)), ho21⟩ | exact ⟨A22, c23, _, by rw [OwnF.len_ ho21], (St.keep1 (hs20.fr L19)), by rw [OwnF.len_ ho21]; exact ho21⟩
theorem k103_ (A_b : Option Addr) (n_b c_b : Nat) (b : List UInt8) (n : Int) (w : World) (f_b : SlF encB w A_b n_b b) (h0 : 0 ≤ n) (h1 : n ≤ 4294967295) (hx : b.length ≤ 268435456) :
    Calls Tryz.prog 95 #[.slice A_b n_b c_b, i64 n] w fun e w' => ∃ A c L1, e = .returned (.tuple #[.slice A (b ++ varL n.toNat).length c, .bool true]) ∧ St w [] L1 w' ∧ OwnF encB 5 (.slice A (b ++ varL n.toNat).length c) (b ++ varL n.toNat) L1 := by
 have hvl := varL_len n.toNat (by omega)
 refine enter 29 Tryz.func95 rfl Tryz.ntmps95 rfl rfl ?_
 have hs1 := St.init w
 refine WC.r1 hs1 [] rfl (WC.seq (fun K2 hK2 => WC.sr (WL.r 1 hs1 [] rfl (WL.cl Tryz.call156 rfl (k10_ _ _) ?_))))
 rintro _ whs3 ⟨rfl, hs3⟩
 replace hs3 := hs1.call0 hs3
 refine ⟨_, rfl, WL.r 1 hs3 [] rfl (WL.nil ?_)⟩
 refine WC.condF rfl (by simp [isNumB]; omega) (WC.skip (hK2 _ _ (WC.sr (WL.buildF (F := encB) hs3 ([]) Tryz.runUnderlying43 Tryz.sizeOf5 Tryz.zeroValue5 rfl rfl rfl rfl rfl rfl rfl rfl rfl rfl rfl rfl (fun A8 c9 L5 whs6 hs6 ho7 => WL.r 1 hs6 [] rfl ?_)))))
 refine WL.appendG hs6 ho7 (SlF.src (SlF.st0 f_b hs6) Tryz.underlying43) Tryz.underlying43 inf5 rfl rfl rfl rfl rfl rfl rfl rfl rfl rfl ?_ (fun A13 c14 L10 whs11 hs11 ho12 => ?_)
 · simp only [List.length_append, List.length_singleton, List.length_nil]; omega
 refine WL.r 1 hs11 [] rfl (WL.nil (WC.seq (fun K15 hK15 => WC.block ?_)))
 refine WC.lO [4, 5, 9] rfl hs11 (fun k_ f L_ => ∃ (zs : List UInt8) (q : Int) (A16 : Option Addr) (c17 : Nat), k_ = q.toNat ∧ (0 ≤ q) ∧ (q ≤ n) ∧ (b ++ varL n.toNat = zs ++ varL q.toNat) ∧ OwnF encB 5 (.slice A16 (zs.length) c17) (zs) L_ ∧ Sub [(6, .slice A16 (zs.length) c17), (1, .int .i64 q)] f) (((fun (zs : List UInt8) (q : Int) => q.toNat) (([] ++ b)) (n))) ?_ ?_
 ·refine ⟨([] ++ b), n, _, _, rfl, ?_, ?_, ?_, ho12, ⟨rfl, rfl, trivial⟩⟩
  · exact h0
  · exact Int.le_refl _
  · rfl
 clear hs11
 rintro _ f w L18 ⟨zs, q, A16, c17, rfl, p0, p1, p2, ho19, hG⟩ hF hs20
 refine WC.sub _ (hG.app hF) ?_
 clear hG hF
 have hlen := congrArg List.length p2
 simp only [List.length_append] at hlen
 refine WC.seq (fun K21 hK21 => WC.r1 hs20 [] rfl ?_)
 refine WC.cD rfl (fun qh22 => ?_) (fun qh22 => ?_)
 ·refine WC.skip (hK21 _ _ (WC.block (WC.sr (WL.r 2 hs20 [] rfl ?_))))
  refine WL.val rfl rfl rfl (Run.rem rfl rfl rfl ?_ ?_) ?_
  · omega
  · omega
  refine WL.r 2 hs20 [] rfl (WL.buildSlice hs20 Tryz.runUnderlying43 Tryz.sizeOf5 Tryz.zeroValue5 rfl rfl rfl rfl rfl rfl rfl rfl rfl rfl (fun b23 whs24 hs24 => ?_))
  refine WL.appendG (hs24.fr L18) ho19 (srcB1 Tryz.underlying43 (hs24.own _ (nthL_mem (i := 0) rfl)).1) Tryz.underlying43 inf5 rfl rfl rfl rfl rfl rfl rfl rfl rfl rfl ?_ (fun A28 c29 L25 whs26 hs26 ho27 => ?_)
  · simp only [List.length_append, List.length_singleton, List.length_nil]; omega
  replace hs26 := St.back [_] hs26
  refine WL.r 1 hs26 [] rfl (WL.nil (WC.region (WL.r 1 hs26 [] rfl (WL.val rfl rfl rfl (Run.quo rfl rfl rfl ?_ ?_ ?_) ?_))))
  · omega
  · omega
  · omega
  refine WL.r 1 hs26 [] rfl (WL.nil (ibN (tkN ?_)))
  replace hs26 := hs26.d1
  refine ⟨sbF rfl, _, hs26, _, ?_, _, _, _, _, rfl, ?_, ?_, ?_, ho27, ⟨rfl, rfl, trivial⟩⟩
  · omega
  · omega
  · omega
  · rw [p2, List.append_assoc, List.singleton_append, ub_big (by omega)]
 refine WC.exit (hK15 _ _ (WC.sr (WL.r 3 hs20 [] rfl (WL.buildSlice hs20 Tryz.runUnderlying43 Tryz.sizeOf5 Tryz.zeroValue5 rfl rfl rfl rfl rfl rfl rfl rfl rfl rfl (fun b30 whs31 hs31 => ?_)))))
 refine WL.appendG (hs31.fr L18) ho19 (srcB1 Tryz.underlying43 (hs31.own _ (nthL_mem (i := 0) rfl)).1) Tryz.underlying43 inf5 rfl rfl rfl rfl rfl rfl rfl rfl rfl rfl ?_ (fun A35 c36 L32 whs33 hs33 ho34 => ?_)
 · simp only [List.length_append, List.length_singleton, List.length_nil]; omega
 replace hs33 := St.back [_] hs33
 refine WL.r 2 hs33 [] rfl (WL.nil (WC.ret (retV2 rfl (resV.tmp rfl) (resV.tmp rfl) ?_)))
 have hx_ := OwnF.eqOf (xs := b ++ varL n.toNat) ho34 (by rw [p2, ← ub_small p0 (by omega)])
 rw [← hx_]
 first | exact ⟨_, _, _, rfl, (St.keep1 (hs33.fr L32)), ho34⟩ | exact ⟨A35, c36, _, by rw [OwnF.len_ ho34], (St.keep1 (hs33.fr L32)), by rw [OwnF.len_ ho34]; exact ho34⟩
theorem k104_ (n : Int) (w : World) :
    Calls Tryz.prog 97 #[i64 n] w fun e w' => e = .returned (.bool (isSeqB n)) ∧ St w [] [] w' := by
 refine enter 5 Tryz.func97 rfl Tryz.ntmps97 rfl rfl ?_
 have hs1 := St.init w
 refine WC.r1 hs1 [] rfl (WC.sr (WL.r 1 hs1 [] rfl (WL.cl Tryz.call61 rfl (k3_ _ _ _ _) ?_)))
 rintro _ whs2 ⟨rfl, hs2⟩
 replace hs2 := hs1.call0 hs2
 refine ⟨_, rfl, WL.r 1 hs2 [] rfl (WL.nil (WC.ret (rtv rfl rfl hs2 ?_)))⟩
 rfl
theorem k105_ (A_head : Option Addr) (n_head c_head : Nat) (head : List UInt8) (A_data : Option Addr) (n_data c_data : Nat) (data : List UInt8) (w : World) (f_head : SlF encB w A_head n_head head) (f_data : SlF encB w A_data n_data data) (h1 : n_head ≤ 100000000) (h2 : n_data ≤ 100000000) :
    Calls Tryz.prog 99 #[.slice A_head n_head c_head, .slice A_data n_data c_data] w fun e w' => e = .returned (.int .i64 (crcN (head ++ data) : Nat)) ∧ St w [] [] w' := by
 have hl1 := f_head.len
 have hl2 := f_data.len
 refine enter 10 Tryz.func99 rfl Tryz.ntmps99 rfl rfl ?_
 have hs1 := St.init w
 refine WC.r1 hs1 [] rfl (WC.sr (WL.r 2 hs1 [] rfl (WL.buildF (F := encH) hs1 ([⟨_, _, _⟩, ⟨_, _, _⟩]) Tryz.runUnderlying195 Tryz.sizeOf43 Tryz.zeroValue43 rfl rfl rfl rfl rfl rfl rfl rfl rfl rfl rfl rfl (fun A5 c6 L2 whs3 hs3 ho4 => ?_))))
 refine WL.cl Tryz.call158 rfl (k101_ _ _ _ _ [head, data] _ (SlF.ofOwn ho4 (hs3.ow L2)) ?_ ?_ ?_ ?_) ?_
 · first | (intro i hi; rcases i with _ | _ | i; exact (SlF.st0 f_head hs3); exact (SlF.st0 f_data hs3); (simp at hi; omega)) | omega | (simp; omega)
 · first | rfl | omega | (simp; omega)
 · first | (simp; omega) | omega
 · first | simp | omega | (simp; omega)
 rintro _ whs7 ⟨A8, c9, L1_10, rfl, hs7, ho11⟩
 replace hs7 := hs3.callF hs7
 refine ⟨_, rfl, WL.cl Tryz.call157 rfl (k98_ _ _ _ _ _ (SlF.ofOwn ho11 (hs7.ow L1_10)) ?_) ?_⟩
 · first | assumption | rfl | omega | (simp; omega)
 rintro _ whs12 ⟨rfl, hs12⟩
 replace hs12 := hs7.call0 hs12
 refine ⟨_, rfl, WL.r 1 hs12 [] rfl (WL.nil (WC.ret (rtv rfl rfl hs12 ?_)))⟩
 simp
theorem WL.convLit {P : Program} {n : Nat} {ol rest : List Oper} {o : Oper} {K : Fr → World → Prop} {f : Fr} {w0 w : World} {T : List Nat} {L : Hp} {d b : Nat} {vs : List Value} {xs : List UInt8} {t e : TypeId} {x : Operand} (hst : St w0 T ((b, .cells vs.toArray e (0, 0)) :: L) w) (hv : vs = bytesV xs) (hm : Nat.ble xs.length 1000000 = true)
  (ht : P.underlying t = some (.slice e)) (he : P.underlying e = some (.int .u8)) (ho : o.op = .convert t t x) (hw : want ol o f = some true) (hd : o.dst = some d) (hn : Nat.blt d n = true) (hx : ev f x = some (.slice (some ⟨b, 0, none⟩) xs.length xs.length))
  (k : ∀ L1 w', St w0 T (L1 ++ L) w' → OwnF encB e (.slice (some ⟨b, 0, none⟩) xs.length xs.length) xs L1 → WL P n ol rest K ((d, .slice (some ⟨b, 0, none⟩) xs.length xs.length) :: f) w') : WL P n ol (o :: rest) K f w := by
 have hown := hst.own _ List.mem_cons_self
 have hb : w.heap[b]? = some (.cells vs.toArray e (0, 0)) := hown.1
 have hlt : b < w.heap.size := lt_of_heap hb
 have hsh : w.shape? b = some (e, vs.length) := by
  unfold World.shape?
  rw [hb]
  simp
 have hfr : (w.freeze ⟨b, vs.length, none⟩ 1).heap = w.heap.modify b fun
   | .cells c elem (lo, hi) => .cells c elem (if lo == hi then (vs.length, vs.length + 1) else (min lo vs.length, max hi (vs.length + 1)))
   | o => o := rfl
 have hvl : vs.length = xs.length := by rw [hv, bytesV_len]
 refine WL.val (w' := w.freeze ⟨b, vs.length, none⟩ 1) hw hd hn (fun ρ hρ => ?_) (k [(b, .cells vs.toArray e (vs.length, vs.length + 1))] _ ?_ ?_)
 ·simp [execOp, ho, hρ _ _ hx, convert, run_underlying ht, run_underlying he, markStringish, hsh]
 ·have hnd := hst.nodup
  simp only [List.map_cons, List.nodup_cons] at hnd
  refine ⟨hst.os, hst.tape, hst.output, ?_, fun j hj hT => ?_, fun p hp => ?_, hst.nodup⟩
  ·rw [hfr, Array.size_modify]; exact hst.size
  ·rw [hfr, Array.getElem?_modify, if_neg (by rintro rfl; rcases hown.2 with h9 | h9; exact absurd hj (by simp only at h9; omega); exact hT h9)]
   exact hst.keep j hj hT
  ·rw [List.singleton_append, List.mem_cons] at hp
   rcases hp with rfl | hp
   ·refine ⟨?_, hown.2⟩
    rw [hfr, Array.getElem?_modify, if_pos rfl, hb]
    rfl
   ·have h9 := hst.own p (List.mem_cons_of_mem _ hp)
    refine ⟨?_, h9.2⟩
    rw [hfr, Array.getElem?_modify, if_neg (by intro e9; exact hnd.1 (e9 ▸ List.mem_map_of_mem hp))]
    exact h9.1
 ·have hm' := Nat.le_of_ble_eq_true hm
  refine ⟨by rw [rows_len], .inr ⟨b, xs.length, 0, [], vs, (vs.length, vs.length + 1), rfl, rfl, Nat.le_refl _, by simp only [maxLen]; omega, ?_, ?_, .inr ?_, rfl⟩⟩
  ·rw [hvl]; simp [encB]
  ·rw [hv, List.take_of_length_le (by rw [rows_len]; exact Nat.le_refl _)]
  ·simp
theorem k106_ (gen : Int) (seq : Int) (A_data : Option Addr) (n_data c_data : Nat) (data : List UInt8) (w : World) (f_data : SlF encB w A_data n_data data) (hn : n_data ≤ 1048576) :
    Calls Tryz.prog 74 #[i64 gen, i64 seq, .slice A_data n_data c_data] w fun e w' => ∃ A c L1, e = .returned (.tuple #[.slice A (snapOut gen seq data).length c, .bool (snapOk gen seq data)]) ∧ St w [] L1 w' ∧ OwnF encB 5 (.slice A (snapOut gen seq data).length c) (snapOut gen seq data) L1 := by
 have hl := f_data.len
 refine enter 38 Tryz.func74 rfl Tryz.ntmps74 rfl rfl ?_
 have hs1 := St.init w
 refine WC.r1 hs1 [] rfl (WC.seq (fun K2 hK2 => WC.sr (WL.r 1 hs1 [] rfl (WL.cl Tryz.call60 rfl (k14_ _ _) ?_))))
 rintro _ whs3 ⟨rfl, hs3⟩
 replace hs3 := hs1.call0 hs3
 refine ⟨_, rfl, WL.r 2 hs3 [] rfl ?_⟩
 apply WL.gO 3 Acts.nil hs3 rfl
 ·intro g4 J5
  have qg4 := g4
  try simp only [bf, within_iff, within_not] at qg4
  refine WL.runA tbk 1 (Acts.nil.cons (j := 3) rfl g4) hs3 [] rfl trivial (WL.call (wantF rfl g4) rfl rfl (Run.call Tryz.call97 rfl rfl rfl) (k104_ _ _) ?_)
  rintro _ whs6 ⟨rfl, hs6⟩
  replace hs6 := hs3.call0 hs6
  refine ⟨_, rfl, WL.runA tbk 1 (Acts.nil.cons (j := 3) rfl g4) hs6 [] rfl trivial (WL.eO 3 Acts.nil J5 hs6 g4 rfl rfl)⟩
 intro _ hs7
 refine WL.r 1 hs7 [] rfl (WL.pO tbk 3 Acts.nil hs7 [] rfl rfl rfl rfl (fun g_ => trivial) (WL.nil (WC.cq rfl (fun h8 qh8 => ?_) (fun h8 qh8 => ?_))))
 ·have hk : snapOk gen seq data = false := by unfold snapOk; rw [hl]; have h9 := h8; rw [← Bool.not_eq_true] at *; revert h9; cases isGenB gen <;> cases isSeqB seq <;> simp <;> omega
  refine WC.r1 hs7 [] rfl (WC.ret (tkR ?_))
  clear hK2
  refine retV2 rfl (resV.tmp rfl) (resV.tmp rfl) ?_
  rw [hk]
  have hx_ := OwnF.eqOf (xs := snapOut gen seq data) (OwnF.nil encB 5) (by unfold snapOut; rw [hk]; rfl)
  rw [← hx_]
  exact ⟨_, _, _, rfl, hs7.nil, (OwnF.nil encB 5)⟩
 have hk : snapOk gen seq data = true := by unfold snapOk; rw [hl]; have h9 := h8; revert h9; cases isGenB gen <;> cases isSeqB seq <;> simp <;> omega
 obtain ⟨hgn, hg1, hg2, hg3⟩ := snapOk_P hk
 have hv1 := varL_len gen.toNat (by omega)
 have hv2 := varL_len seq.toNat (by omega)
 have hv3 := varL_len n_data (by omega)
 have hcl2 := crcN_lt ([83, 78, 65, 80] ++ varL gen.toNat ++ varL seq.toNat ++ varL n_data ++ data)
 have hv4 := varL_len (crcN ([83, 78, 65, 80] ++ varL gen.toNat ++ varL seq.toNat ++ varL n_data ++ data)) (by omega)
 refine WC.skip (hK2 _ _ (WC.sr (WL.buildSlice hs7 Tryz.runUnderlying43 Tryz.sizeOf5 Tryz.zeroValue5 rfl rfl rfl rfl rfl rfl rfl rfl rfl rfl (fun b9 whs10 hs10 => WL.convLit (xs := [83, 78, 65, 80]) hs10 rfl rfl Tryz.underlying43 Tryz.underlying5 rfl rfl rfl rfl rfl (fun L11 whs12 hs12 ho13 => WL.r 1 hs12 [] rfl ?_)))))
 refine WL.cl Tryz.call98 rfl (k102_ _ _ _ _ _ ho13 (hs12.ow L11) ?_ ?_ ?_) ?_
 iterate 2 first | omega | assumption | (simp only [List.length_append, List.length_cons, List.length_nil, Int.toNat_natCast]; omega)
 · first | omega | (simp only [List.length_append, List.length_cons, List.length_nil, Int.toNat_natCast]; omega) | assumption
 rintro _ whs14 ⟨A15, c16, L1_17, rfl, hs14, ho18⟩
 replace hs14 := St.lend hs12 hs14
 refine ⟨_, rfl, WL.r 1 hs14 [] rfl (WL.cl Tryz.call98 rfl (k102_ _ _ _ _ _ ho18 (hs14.ow L1_17) ?_ ?_ ?_) ?_)⟩
 iterate 2 first | omega | assumption | (simp only [List.length_append, List.length_cons, List.length_nil, Int.toNat_natCast]; omega)
 · first | omega | (simp only [List.length_append, List.length_cons, List.length_nil, Int.toNat_natCast]; omega) | assumption
 rintro _ whs19 ⟨A20, c21, L1_22, rfl, hs19, ho23⟩
 replace hs19 := St.lend hs14 hs19
 refine ⟨_, rfl, WL.r 2 hs19 [] rfl (WL.cl Tryz.call98 rfl (k102_ _ _ _ _ _ ho23 (hs19.ow L1_22) ?_ ?_ ?_) ?_)⟩
 iterate 2 first | omega | assumption | (simp only [List.length_append, List.length_cons, List.length_nil, Int.toNat_natCast]; omega)
 · first | omega | (simp only [List.length_append, List.length_cons, List.length_nil, Int.toNat_natCast]; omega) | assumption
 rintro _ whs24 ⟨A25, c26, L1_27, rfl, hs24, ho28⟩
 replace hs24 := St.lend hs19 hs24
 refine ⟨_, rfl, WL.r 1 hs24 [] rfl (WL.nil (WC.sr (WL.r 3 hs24 [] rfl (WL.cl Tryz.call99 rfl (k105_ _ _ _ _ _ _ _ _ _ (SlF.ofOwn ho28 (hs24.ow L1_27)) (SlF.st0 f_data hs24) ?_ ?_) ?_))))⟩
 iterate 2 first | assumption | rfl | omega | (simp only [List.length_append, List.length_cons, List.length_nil, Int.toNat_natCast]; omega)
 rintro _ whs29 ⟨rfl, hs29⟩
 replace hs29 := hs24.call0 hs29
 refine ⟨_, rfl, WL.cl Tryz.call98 rfl (k102_ _ _ _ _ _ ho28 (hs29.ow L1_27) ?_ ?_ ?_) ?_⟩
 iterate 2 first | omega | assumption | (simp only [List.length_append, List.length_cons, List.length_nil, Int.toNat_natCast]; omega)
 · first | omega | (simp only [List.length_append, List.length_cons, List.length_nil, Int.toNat_natCast]; omega) | assumption
 rintro _ whs30 ⟨A31, c32, L1_33, rfl, hs30, ho34⟩
 replace hs30 := St.lend hs29 hs30
 refine ⟨_, rfl, WL.r 1 hs30 [] rfl (WL.appendG hs30 ho34 (SlF.src (SlF.st0 f_data hs30) Tryz.underlying43) Tryz.underlying43 inf5 rfl rfl rfl rfl rfl rfl rfl rfl rfl rfl ?_ (fun A38 c39 L35 whs36 hs36 ho37 => ?_))⟩
 · first | omega | (simp only [List.length_append, List.length_cons, List.length_nil, Int.toNat_natCast]; omega)
 refine WL.r 2 hs36 [] rfl (WL.nil (WC.ret (retV2 rfl (resV.tmp rfl) (resV.tmp rfl) ?_)))
 rw [hk]
 have hx_ := OwnF.eqOf (xs := snapOut gen seq data) ho37 (by unfold snapOut; rw [hk, if_pos rfl]; unfold snapL snapHd snapP4; rw [hl]; first | done | rfl | simp)
 rw [← hx_]
 first | exact ⟨_, _, _, rfl, (St.keep1 hs36), ho37⟩ | exact ⟨A38, c39, _, by rw [OwnF.len_ ho37], (St.keep1 hs36), by rw [OwnF.len_ ho37]; exact ho37⟩
theorem k107_ (gen : Int) (seq : Int) (A_data : Option Addr) (n_data c_data : Nat) (data : List UInt8) (w : World) (f_data : SlF encB w A_data n_data data) (hn : n_data ≤ 1048576) :
    Calls Tryz.prog 65 #[i64 gen, i64 seq, .slice A_data n_data c_data] w fun e w' => ∃ A c L1, e = .returned (.tuple #[.slice A (snapOut gen seq data).length c, .bool (snapOk gen seq data)]) ∧ St w [] L1 w' ∧ OwnF encB 5 (.slice A (snapOut gen seq data).length c) (snapOut gen seq data) L1 := by
 have hl := f_data.len
 refine enter 65 Tryz.func65 rfl Tryz.ntmps65 rfl rfl ?_
 have hs1 := St.init w
 refine WC.r1 hs1 [] rfl (WC.seq (fun K2 hK2 => WC.sr (WL.r 3 hs1 [] rfl (WL.pO tbk 2 Acts.nil hs1 [] rfl rfl rfl rfl (fun g_ => trivial) (WL.r 1 hs1 [] rfl (WL.pO tbk 2 Acts.nil hs1 [] rfl rfl rfl rfl (fun g_ => trivial) (WL.r 1 hs1 [] rfl ?_)))))))
 refine WL.pO tbk 2 Acts.nil hs1 [] rfl rfl rfl rfl (fun g_ => trivial) (WL.r 1 hs1 [] rfl (WL.pO tbk 3 Acts.nil hs1 [] rfl rfl rfl rfl (fun g_ => trivial) (WL.nil (WC.cq rfl (fun h3 qh3 => ?_) (fun h3 qh3 => ?_)))))
 ·have hk : snapOk gen seq data = false := by unfold snapOk isGenB isSeqB; have h9 := h3; simp at h9; rw [Bool.and_eq_false_iff, Bool.and_eq_false_iff, within_not, within_not, decide_eq_false_iff_not]; omega
  refine WC.r1 hs1 [] rfl (WC.ret (tkR ?_))
  clear hK2
  refine retV2 rfl (resV.tmp rfl) (resV.tmp rfl) ?_
  rw [hk]
  have hx_ := OwnF.eqOf (xs := snapOut gen seq data) (OwnF.nil encB 5) (by unfold snapOut; rw [hk]; rfl)
  rw [← hx_]
  exact ⟨_, _, _, rfl, hs1.nil, (OwnF.nil encB 5)⟩
 have hk : snapOk gen seq data = true := by unfold snapOk isGenB isSeqB; have h9 := h3; simp at h9; rw [Bool.and_eq_true, Bool.and_eq_true, within_iff, within_iff, decide_eq_true_eq]; omega
 obtain ⟨hgn, hg1, hg2, hg3⟩ := snapOk_P hk
 have hv1 := varL_len gen.toNat (by omega)
 have hv2 := varL_len seq.toNat (by omega)
 have hv3 := varL_len n_data (by omega)
 have hcl2 := crcN_lt ([] ++ ([83, 78, 65, 80] ++ varL gen.toNat ++ varL seq.toNat ++ varL n_data) ++ data)
 have hv4 := varL_len (crcN ([] ++ ([83, 78, 65, 80] ++ varL gen.toNat ++ varL seq.toNat ++ varL n_data) ++ data)) (by omega)
 refine WC.skip (hK2 _ _ (WC.sr (WL.buildSlice hs1 Tryz.runUnderlying43 Tryz.sizeOf5 Tryz.zeroValue5 rfl rfl rfl rfl rfl rfl rfl rfl rfl rfl (fun b4 whs5 hs5 => WL.convLit (xs := [83, 78, 65, 80]) hs5 rfl rfl Tryz.underlying43 Tryz.underlying5 rfl rfl rfl rfl rfl (fun L6 whs7 hs7 ho8 => WL.r 1 hs7 [] rfl ?_)))))
 refine WL.cl Tryz.call95 rfl (k103_ _ _ _ _ _ _ (SlF.ofOwn ho8 (hs7.ow L6)) ?_ ?_ ?_) ?_
 iterate 2 first | omega | assumption | (simp only [List.length_append, List.length_cons, List.length_nil, Int.toNat_natCast]; omega)
 · first | omega | (simp only [List.length_append, List.length_cons, List.length_nil, Int.toNat_natCast]; omega) | assumption
 rintro _ whs9 ⟨A10, c11, L1_12, rfl, hs9, ho13⟩
 replace hs9 := hs7.callF hs9
 refine ⟨_, rfl, WL.r 5 hs9 [] rfl (WL.nil (WC.sr (WL.r 2 hs9 [] rfl (WL.cl Tryz.call95 rfl (k103_ _ _ _ _ _ _ (SlF.ofOwn ho13 (hs9.ow L1_12)) ?_ ?_ ?_) ?_))))⟩
 iterate 2 first | omega | assumption | (simp only [List.length_append, List.length_cons, List.length_nil, Int.toNat_natCast]; omega)
 · first | omega | (simp only [List.length_append, List.length_cons, List.length_nil, Int.toNat_natCast]; omega) | assumption
 rintro _ whs14 ⟨A15, c16, L1_17, rfl, hs14, ho18⟩
 replace hs14 := hs9.callF hs14
 refine ⟨_, rfl, WL.r 4 hs14 [] rfl (WL.nil (WC.sr (WL.r 3 hs14 [] rfl (WL.cl Tryz.call95 rfl (k103_ _ _ _ _ _ _ (SlF.ofOwn ho18 (hs14.ow L1_17)) ?_ ?_ ?_) ?_))))⟩
 iterate 2 first | omega | assumption | (simp only [List.length_append, List.length_cons, List.length_nil, Int.toNat_natCast]; omega)
 · first | omega | (simp only [List.length_append, List.length_cons, List.length_nil, Int.toNat_natCast]; omega) | assumption
 rintro _ whs19 ⟨A20, c21, L1_22, rfl, hs19, ho23⟩
 replace hs19 := hs14.callF hs19
 refine ⟨_, rfl, WL.r 4 hs19 [] rfl (WL.nil (WC.sr (WL.buildF (F := encB) hs19 ([]) Tryz.runUnderlying43 Tryz.sizeOf5 Tryz.zeroValue5 rfl rfl rfl rfl rfl rfl rfl rfl rfl rfl rfl rfl (fun A27 c28 L24 whs25 hs25 ho26 => WL.r 1 hs25 [] rfl ?_))))⟩
 refine WL.appendG hs25 ho26 (SlF.src (SlF.ofOwn ho23 (hs25.ow L1_22)) Tryz.underlying43) Tryz.underlying43 inf5 rfl rfl rfl rfl rfl rfl rfl rfl rfl rfl ?_ (fun A32 c33 L29 whs30 hs30 ho31 => ?_)
 · first | omega | (simp only [List.length_append, List.length_cons, List.length_nil, Int.toNat_natCast]; omega)
 refine WL.r 1 hs30 [] rfl (WL.appendG hs30 ho31 (SlF.src (SlF.st0 f_data hs30) Tryz.underlying43) Tryz.underlying43 inf5 rfl rfl rfl rfl rfl rfl rfl rfl rfl rfl ?_ (fun A37 c38 L34 whs35 hs35 ho36 => ?_))
 · first | omega | (simp only [List.length_append, List.length_cons, List.length_nil, Int.toNat_natCast]; omega)
 refine WL.cl Tryz.call96 rfl (k99_ _ _ _ _ _ (SlF.ofOwn ho36 (hs35.ow L34)) ?_) ?_
 · first | assumption | rfl | omega | (simp only [List.length_append, List.length_cons, List.length_nil, Int.toNat_natCast]; omega)
 rintro _ whs39 ⟨rfl, hs39⟩
 replace hs39 := hs35.call0 hs39
 refine ⟨_, rfl, WL.r 1 hs39 [] rfl (WL.nil (WC.sr (WL.r 2 hs39 [] rfl (WL.cl Tryz.call95 rfl (k103_ _ _ _ _ _ _ (SlF.ofOwn ho23 (hs39.ow L1_22)) ?_ ?_ ?_) ?_))))⟩
 iterate 2 first | omega | assumption | (simp only [List.length_append, List.length_cons, List.length_nil, Int.toNat_natCast]; omega)
 · first | omega | (simp only [List.length_append, List.length_cons, List.length_nil, Int.toNat_natCast]; omega) | assumption
 rintro _ whs40 ⟨A41, c42, L1_43, rfl, hs40, ho44⟩
 replace hs40 := hs39.callF hs40
 refine ⟨_, rfl, WL.r 4 hs40 [] rfl (WL.nil (WC.sr (WL.r 2 hs40 [] rfl (WL.appendG hs40 ho44 (SlF.src (SlF.st0 f_data hs40) Tryz.underlying43) Tryz.underlying43 inf5 rfl rfl rfl rfl rfl rfl rfl rfl rfl rfl ?_ (fun A48 c49 L45 whs46 hs46 ho47 => ?_)))))⟩
 · first | omega | (simp only [List.length_append, List.length_cons, List.length_nil, Int.toNat_natCast]; omega)
 refine WL.r 2 hs46 [] rfl (WL.nil (WC.ret (retV2 rfl (resV.tmp rfl) (resV.tmp rfl) ?_)))
 rw [hk]
 have hx_ := OwnF.eqOf (xs := snapOut gen seq data) ho47 (by unfold snapOut; rw [hk, if_pos rfl]; unfold snapL snapHd snapP4; rw [hl]; first | done | rfl | simp)
 rw [← hx_]
 first | exact ⟨_, _, _, rfl, (St.keep1 hs46), ho47⟩ | exact ⟨A48, c49, _, by rw [OwnF.len_ ho47], (St.keep1 hs46), by rw [OwnF.len_ ho47]; exact ho47⟩
theorem built_75_0_1_2_3 (x0 : Int) (x1 : ByteArray) (x2 : ByteArray) (x3 : Option Addr) (x4 : Nat) (x5 : Nat) : Tryz.prog.built 75 [(0, .int .i64 x0), (1, .string x1), (2, .string x2), (3, .slice x3 x4 x5)] = some (List.toArray [.int .i64 x0, .string x1, .string x2, .slice x3 x4 x5]) := by kernel_rfl
theorem k108_ (b_s : Nat) (s : starterR) (L_s : Hp) (kind : Int) (name : ByteArray) (to : ByteArray) (A_data : Option Addr) (n_data c_data : Nat) (data : List UInt8) (w : World) (hb_s : w.heap[b_s]? = some (Obj.cells (List.toArray [i64 s.depot.Disk.Room, i64 s.depot.Disk.Fuse, i64 s.depot.Disk.Next, .slice s.depot.Disk.Files.A s.depot.Disk.Files.n s.depot.Disk.Files.c, .slice s.depot.Disk.Kept.A s.depot.Disk.Kept.n s.depot.Disk.Kept.c, .slice s.depot.Disk.Turns.A s.depot.Disk.Turns.n s.depot.Disk.Turns.c, i64 s.depot.Gen, i64 s.depot.Seq, i64 s.depot.Size, .bool s.depot.Stuck, i64 s.code]) 109 (0, 0))) (o_s : ownstarterR s L_s) (h_s : Hh w L_s) (f_data : SlF encB w A_data n_data data) (hcd : n_data ≤ c_data) (hd_ : (b_s :: L_s.map (·.1)).Nodup) (s_data : 0 < n_data → (adr A_data).block ∉ (b_s :: L_s.map (·.1))) (hb : totDisk s.dat.depot.Disk ≤ 1048576) (hz1 : name.size ≤ 549755813888) (hz2 : to.size ≤ 549755813888) (hz3 : n_data ≤ 549755813888) :
    Calls Tryz.prog 133 #[.pointer (some ⟨b_s, 0, none⟩), i64 kind, .string name, .string to, .slice A_data n_data c_data] w fun e w' => ∃ r L1, e = .returned (.tuple #[]) ∧ St w (b_s :: L_s.map (·.1)) ([(b_s, Obj.cells (List.toArray [i64 r.depot.Disk.Room, i64 r.depot.Disk.Fuse, i64 r.depot.Disk.Next, .slice r.depot.Disk.Files.A r.depot.Disk.Files.n r.depot.Disk.Files.c, .slice r.depot.Disk.Kept.A r.depot.Disk.Kept.n r.depot.Disk.Kept.c, .slice r.depot.Disk.Turns.A r.depot.Disk.Turns.n r.depot.Disk.Turns.c, i64 r.depot.Gen, i64 r.depot.Seq, i64 r.depot.Size, .bool r.depot.Stuck, i64 r.code]) 109 (0, 0))] ++ L1) w' ∧ ownstarterR r L1 ∧ r.dat = setS s.dat (stp (sd s.dat) (⟨kind, name, to, data⟩ : DiskOpD)) := by
 have nl9 := f_data.len
 have hsm := start_sm hb
 refine enter 36 Tryz.func133 rfl Tryz.ntmps133 rfl rfl ?_
 have hs1 := St.takeP w b_s _ L_s hb_s h_s hd_
 refine WC.r1 hs1 [0] rfl (WC.cq rfl (fun h2 qh2 => ?_) (fun h2 qh2 => ?_))
 ·have hc : s.code = 0 := by have h9 := h2; simpa using h9
  refine WC.region (WL.r 11 hs1 [0] rfl ?_)
  refine WL.val rfl rfl rfl (Run.build rfl rfl rfl rfl (built_75_0_1_2_3 _ _ _ _ _ _)) ?_
  refine WL.cl Tryz.call43 rfl (k97_ s.depot.Disk ⟨_, _, _, ⟨_, _, _, _⟩⟩ _ (ownstarterR.ok (B := 549755813888) o_s (hs1.ow L_s) (by assumption)).depot.Disk ⟨(by first | assumption | omega), (by first | assumption | omega), (SlF.st f_data hs1 s_data), (by first | assumption | omega | simp), (by first | assumption | omega | (simp; omega) | simp)⟩ ?_) ?_
  · first | assumption | rfl | omega | exact hb
  rintro _ whs3 ⟨r4, L1_5, rfl, hs3, ho6, hd7⟩
  replace hs3 := hs1.callF hs3
  refine ⟨_, rfl, ?_⟩
  replace hs3 := St.back [_] hs3
  have hdo := hd7
  refine WL.r 6 hs3 [] rfl (WL.st tbk hs3 0 rfl rfl (fun _ hs8 => WL.r 2 hs8 [] rfl (WL.st tbk hs8 0 rfl rfl (fun _ hs9 => WL.nil (retK0 rfl ?_)))))
  obtain ⟨L10, L11, L12, hs16, ho13, ho14, ho15⟩ := ownDiskR.op hs9 ho6
  have hs17 := (hs16.fb b_s)
  obtain ⟨L19, hs18, ho20⟩ := ownstarterR.fl hs17 ho13 ho14 ho15
  have hs21 := (hs18.fb b_s)
  refine ownstarterR.retp rfl ((hs21.fr L19).fb b_s) ho20 ?_
  · exact starterD.ext' (DepotD.ext' (by show _ = stepD _ _ _; unfold stepD; rw [if_pos (show (sd s.dat).2 = 0 from hc)]; exact hdo) rfl rfl rfl rfl) (by show _ = stepC _ _ _; unfold stepC; rw [if_pos (show (sd s.dat).2 = 0 from hc)]; rfl)
 have hc : ¬ s.code = 0 := by have h9 := h2; simpa using h9
 refine WC.skip (retK0 rfl (⟨s, _, rfl, St.keepP (L1 := L_s) ((hs1.fr L_s).fb b_s), o_s, ?_⟩))
 · rw [stp_ne (s := sd s.dat) hc]; rfl
theorem k109_ (b_s : Nat) (s : starterR) (L_s : Hp) (name : ByteArray) (w : World) (hb_s : w.heap[b_s]? = some (Obj.cells (List.toArray [i64 s.depot.Disk.Room, i64 s.depot.Disk.Fuse, i64 s.depot.Disk.Next, .slice s.depot.Disk.Files.A s.depot.Disk.Files.n s.depot.Disk.Files.c, .slice s.depot.Disk.Kept.A s.depot.Disk.Kept.n s.depot.Disk.Kept.c, .slice s.depot.Disk.Turns.A s.depot.Disk.Turns.n s.depot.Disk.Turns.c, i64 s.depot.Gen, i64 s.depot.Seq, i64 s.depot.Size, .bool s.depot.Stuck, i64 s.code]) 109 (0, 0))) (o_s : ownstarterR s L_s) (h_s : Hh w L_s) (hd_ : (b_s :: L_s.map (·.1)).Nodup) (hb : totDisk s.dat.depot.Disk ≤ 1048576) (hk : diskOk s.dat.depot.Disk = true) (hnm : name.size ≤ 1048576) :
    Calls Tryz.prog 131 #[.pointer (some ⟨b_s, 0, none⟩), .string name] w fun e w' => ∃ r L1, e = .returned (.tuple #[]) ∧ St w (b_s :: L_s.map (·.1)) ([(b_s, Obj.cells (List.toArray [i64 r.depot.Disk.Room, i64 r.depot.Disk.Fuse, i64 r.depot.Disk.Next, .slice r.depot.Disk.Files.A r.depot.Disk.Files.n r.depot.Disk.Files.c, .slice r.depot.Disk.Kept.A r.depot.Disk.Kept.n r.depot.Disk.Kept.c, .slice r.depot.Disk.Turns.A r.depot.Disk.Turns.n r.depot.Disk.Turns.c, i64 r.depot.Gen, i64 r.depot.Seq, i64 r.depot.Size, .bool r.depot.Stuck, i64 r.code]) 109 (0, 0))] ++ L1) w' ∧ ownstarterR r L1 ∧ r.dat = setS s.dat (gone (sd s.dat) name) := by
 have hsm := start_sm hb
 have hD : DOk s.depot.Disk.dat := diskOk_P hk
 have hdl : (dirD s.depot.Disk.dat).length ≤ 40 := Nat.le_trans turnsL_len (by have h9 := hD.small; omega)
 refine enter 16 Tryz.func131 rfl Tryz.ntmps131 rfl rfl ?_
 have hs1 := St.takeP w b_s _ L_s hb_s h_s hd_
 refine WC.sr (WL.r 5 hs1 [0] rfl (WL.cl Tryz.call134 rfl (k76_ s.depot.Disk _ (ownstarterR.ok (B := 549755813888) o_s (hs1.ow L_s) (by assumption)).depot.Disk ?_) ?_))
 · first | assumption | rfl | omega | exact hb | exact Nat.zero_le _ | decide
 rintro _ whs2 ⟨A3, c4, L1_5, rfl, hs2, ho6⟩
 replace hs2 := hs1.callF hs2
 refine ⟨_, rfl, ?_⟩
 replace hs2 := St.back [_] hs2
 refine WL.r 1 hs2 [] rfl (WL.cl Tryz.call150 rfl (k40_ _ _ _ _ _ _ (SlF.ofOwn ho6 (hs2.ow L1_5)) ?_) ?_)
 · first | assumption | rfl | omega | exact hb | exact Nat.zero_le _ | decide
 rintro _ whs7 ⟨rfl, hs7⟩
 replace hs7 := hs2.call0 hs7
 refine ⟨_, rfl, WL.r 1 hs7 [] rfl (WL.nil (WC.cq rfl (fun h8 qh8 => ?_) (fun h8 qh8 => ?_)))⟩
 ·have hh : hasN (dirD s.depot.Disk.dat) name = true := has_idx (by have h9 := h8; simpa using h9)
  have hgo : gone (sd s.dat) name = stp (sd s.dat) (opR name) := if_pos hh
  refine WC.region (WL.r 2 hs7 [] rfl ?_)
  have hF9 := ((hs7.fr L_s).fb b_s)
  refine WL.cl Tryz.call133 rfl (k108_ _ s _ _ _ _ _ _ _ _ _ (St.headP hF9) o_s (St.ownP hF9) (SlF.nil _ _) (by first | assumption | omega | simp) (St.nodupP hF9) (fun h_ => absurd h_ (by omega)) ?_ ?_ ?_ ?_) ?_
  iterate 4 first | assumption | rfl | omega | exact hb | exact Nat.zero_le _ | decide
  rintro _ whs10 ⟨r11, L12, rfl, hs10, ho13, hd14⟩
  replace hs10 := St.lendP hF9 hs10
  refine ⟨_, rfl, WL.nil (retK0 rfl (⟨r11, _, rfl, St.keepP (L1 := L12) ((hs10.fr L12).fb b_s), ho13, ?_⟩))⟩
  · rw [hgo]; exact hd14
 have hh : hasN (dirD s.depot.Disk.dat) name = false := has_no (by have h9 := h8; simp at h9; omega)
 have hgo : gone (sd s.dat) name = sd s.dat := if_neg (by show ¬ hasN (dirD s.depot.Disk.dat) name = true; rw [hh]; decide)
 refine WC.skip (retK0 rfl (⟨s, _, rfl, St.keepP (L1 := L_s) ((hs7.fr L_s).fb b_s), o_s, ?_⟩))
 · rw [hgo]; rfl
theorem k110_ (b_s : Nat) (s : starterR) (L_s : Hp) (w : World) (hb_s : w.heap[b_s]? = some (Obj.cells (List.toArray [i64 s.depot.Disk.Room, i64 s.depot.Disk.Fuse, i64 s.depot.Disk.Next, .slice s.depot.Disk.Files.A s.depot.Disk.Files.n s.depot.Disk.Files.c, .slice s.depot.Disk.Kept.A s.depot.Disk.Kept.n s.depot.Disk.Kept.c, .slice s.depot.Disk.Turns.A s.depot.Disk.Turns.n s.depot.Disk.Turns.c, i64 s.depot.Gen, i64 s.depot.Seq, i64 s.depot.Size, .bool s.depot.Stuck, i64 s.code]) 109 (0, 0))) (o_s : ownstarterR s L_s) (h_s : Hh w L_s) (hd_ : (b_s :: L_s.map (·.1)).Nodup) (hb : totDisk s.dat.depot.Disk ≤ 1048576) :
    Calls Tryz.prog 130 #[.pointer (some ⟨b_s, 0, none⟩)] w fun e w' => ∃ r L1, e = .returned (.tuple #[]) ∧ St w (b_s :: L_s.map (·.1)) ([(b_s, Obj.cells (List.toArray [i64 r.depot.Disk.Room, i64 r.depot.Disk.Fuse, i64 r.depot.Disk.Next, .slice r.depot.Disk.Files.A r.depot.Disk.Files.n r.depot.Disk.Files.c, .slice r.depot.Disk.Kept.A r.depot.Disk.Kept.n r.depot.Disk.Kept.c, .slice r.depot.Disk.Turns.A r.depot.Disk.Turns.n r.depot.Disk.Turns.c, i64 r.depot.Gen, i64 r.depot.Seq, i64 r.depot.Size, .bool r.depot.Stuck, i64 r.code]) 109 (0, 0))] ++ L1) w' ∧ ownstarterR r L1 ∧ r.dat = setS s.dat (stp (sd s.dat) opY) := by
 refine enter 4 Tryz.func130 rfl Tryz.ntmps130 rfl rfl ?_
 have hs1 := St.takeP w b_s _ L_s hb_s h_s hd_
 refine WC.region (WL.r 1 hs1 [] rfl ?_)
 have hF2 := ((hs1.fr L_s).fb b_s)
 refine WL.cl Tryz.call133 rfl (k108_ _ s _ _ _ _ _ _ _ _ _ (St.headP hF2) o_s (St.ownP hF2) (SlF.nil _ _) (by first | assumption | omega | simp) (St.nodupP hF2) (fun h_ => absurd h_ (by omega)) ?_ ?_ ?_ ?_) ?_
 iterate 4 first | assumption | rfl | omega | exact hb | exact Nat.zero_le _ | decide
 rintro _ whs3 ⟨r4, L5, rfl, hs3, ho6, hd7⟩
 replace hs3 := St.lendP hF2 hs3
 refine ⟨_, rfl, WL.nil (retK0 rfl (⟨r4, _, rfl, St.keepP (L1 := L5) ((hs3.fr L5).fb b_s), ho6, ?_⟩))⟩
 · exact hd7
theorem k111_ (b_s : Nat) (s : starterR) (L_s : Hp) (A_data : Option Addr) (n_data c_data : Nat) (data : List UInt8) (w : World) (hb_s : w.heap[b_s]? = some (Obj.cells (List.toArray [i64 s.depot.Disk.Room, i64 s.depot.Disk.Fuse, i64 s.depot.Disk.Next, .slice s.depot.Disk.Files.A s.depot.Disk.Files.n s.depot.Disk.Files.c, .slice s.depot.Disk.Kept.A s.depot.Disk.Kept.n s.depot.Disk.Kept.c, .slice s.depot.Disk.Turns.A s.depot.Disk.Turns.n s.depot.Disk.Turns.c, i64 s.depot.Gen, i64 s.depot.Seq, i64 s.depot.Size, .bool s.depot.Stuck, i64 s.code]) 109 (0, 0))) (o_s : ownstarterR s L_s) (h_s : Hh w L_s) (f_data : SlF encB w A_data n_data data) (hcd : n_data ≤ c_data) (hd_ : (b_s :: L_s.map (·.1)).Nodup) (s_data : 0 < n_data → (adr A_data).block ∉ (b_s :: L_s.map (·.1))) (hb : totDisk s.dat.depot.Disk ≤ 1048576) (hk : diskOk s.dat.depot.Disk = true) (hn : n_data ≤ 400000) :
    Calls Tryz.prog 132 #[.pointer (some ⟨b_s, 0, none⟩), .slice A_data n_data c_data] w fun e w' => ∃ r L1, e = .returned (.tuple #[]) ∧ St w (b_s :: L_s.map (·.1)) ([(b_s, Obj.cells (List.toArray [i64 r.depot.Disk.Room, i64 r.depot.Disk.Fuse, i64 r.depot.Disk.Next, .slice r.depot.Disk.Files.A r.depot.Disk.Files.n r.depot.Disk.Files.c, .slice r.depot.Disk.Kept.A r.depot.Disk.Kept.n r.depot.Disk.Kept.c, .slice r.depot.Disk.Turns.A r.depot.Disk.Turns.n r.depot.Disk.Turns.c, i64 r.depot.Gen, i64 r.depot.Seq, i64 r.depot.Size, .bool r.depot.Stuck, i64 r.code]) 109 (0, 0))] ++ L1) w' ∧ ownstarterR r L1 ∧ r.dat = setS s.dat (stp (fillS (sd s.dat) data) (syncOp tempP)) := by
 have hsm := start_sm hb
 have hl9 := f_data.len
 have hdl : data.length ≤ 400000 := by omega
 refine enter 31 Tryz.func132 rfl Tryz.ntmps132 rfl rfl ?_
 have hs1 := St.takeP w b_s _ L_s hb_s h_s hd_
 refine WC.sr (WL.r 1 hs1 [] rfl ?_)
 have hF2 := ((hs1.fr L_s).fb b_s)
 refine WL.cl Tryz.call133 rfl (k108_ _ s _ _ _ _ _ _ _ _ _ (St.headP hF2) o_s (St.ownP hF2) (SlF.nil _ _) (by first | assumption | omega | simp) (St.nodupP hF2) (fun h_ => absurd h_ (by omega)) ?_ ?_ ?_ ?_) ?_
 iterate 4 first | assumption | rfl | omega | decide | exact hb
 rintro _ whs3 ⟨r4, L5, rfl, hs3, ho6, hd7⟩
 replace hs3 := St.lendP hF2 hs3
 refine ⟨_, rfl, ?_⟩
 have hS1 : starterR.dat r4 = setS s.dat (stp (sd s.dat) (opC tempP)) := hd7.trans (congrArg (a₂ := setS s.dat (sd s.dat)) (fun q => setS q (stp (sd q) (opC tempP))) (by exact rfl))
 have hk1 : diskOk (stp (sd s.dat) (opC tempP)).1 = true := stp_ok hk (opC_ok temp_ok)
 have hb1 : totDisk (starterR.dat r4).depot.Disk ≤ 1048576 := by rw [hS1]; exact ok_tot hk1
 have hq1 : diskOk (starterR.dat r4).depot.Disk = true := by rw [hS1]; exact hk1
 refine WL.nil (WC.sr (WL.r 2 hs3 [] rfl ?_))
 have hF8 := ((hs3.fr L5).fb b_s)
 refine WL.cl Tryz.call133 rfl (k108_ _ r4 _ _ _ _ _ _ _ _ _ (St.headP hF8) ho6 (St.ownP hF8) (SlF.st f_data hs3 s_data) (by first | assumption | omega | simp) (St.nodupP hF8) (St.sepTP hF8 f_data s_data) ?_ ?_ ?_ ?_) ?_
 iterate 4 first | assumption | rfl | omega | decide | exact hb1 | exact hq1
 rintro _ whs9 ⟨r10, L11, rfl, hs9, ho12, hd13⟩
 replace hs9 := St.lendP hF8 hs9
 refine ⟨_, rfl, ?_⟩
 have hS2 : starterR.dat r10 = setS s.dat (stp (stp (sd s.dat) (opC tempP)) (opA tempP data)) := hd13.trans (congrArg (a₂ := setS s.dat (stp (sd s.dat) (opC tempP))) (fun q => setS q (stp (sd q) (opA tempP data))) (by exact hS1))
 have hk2 : diskOk (stp (stp (sd s.dat) (opC tempP)) (opA tempP data)).1 = true := stp_ok hk1 (opA_ok temp_ok hdl)
 have hb2 : totDisk (starterR.dat r10).depot.Disk ≤ 1048576 := by rw [hS2]; exact ok_tot hk2
 have hq2 : diskOk (starterR.dat r10).depot.Disk = true := by rw [hS2]; exact hk2
 refine WL.nil (WC.seq (fun K14 hK14 => WC.r1 hs9 [0] rfl ?_))
 refine WC.cq rfl (fun h15 qh15 => ?_) (fun h15 qh15 => ?_)
 ·have h5 : (fill1 (sd s.dat) data).2 = 5 := (congrArg starterD.code hS2).symm.trans (of_decide_eq_true h15)
  refine WC.sr (WL.r 3 hs9 [] rfl (WL.st tbk hs9 0 rfl rfl (fun _ hs16 => WL.nil (WC.sr (WL.r 1 hs16 [] rfl ?_)))))
  obtain ⟨L17, L18, L19, hs23, ho20, ho21, ho22⟩ := ownstarterR.op hs16 ho12
  have hs24 := (hs23.fb b_s)
  obtain ⟨L26, hs25, ho27⟩ := ownstarterR.fl hs24 ho20 ho21 ho22
  have hs28 := (hs25.fb b_s)
  have hF29 := ((hs28.fr L26).fb b_s)
  refine WL.cl Tryz.call133 rfl (k108_ _ ⟨⟨⟨r10.depot.Disk.Room, r10.depot.Disk.Fuse, r10.depot.Disk.Next, SlD.ofN ho20, SlD.of ho21, SlD.of ho22⟩, r10.depot.Gen, r10.depot.Seq, r10.depot.Size, r10.depot.Stuck⟩, (0)⟩ _ _ _ _ _ _ _ _ _ (St.headP hF29) (by exact ho27) (St.ownP hF29) (SlF.nil _ _) (by first | assumption | omega | simp) (St.nodupP hF29) (fun h_ => absurd h_ (by omega)) ?_ ?_ ?_ ?_) ?_
  iterate 4 first | assumption | rfl | omega | decide | exact hb2 | exact hq2
  rintro _ whs30 ⟨r31, L32, rfl, hs30, ho33, hd34⟩
  replace hs30 := St.lendP hF29 hs30
  refine ⟨_, rfl, ?_⟩
  have hS3 : starterR.dat r31 = setS s.dat (stp (((stp (stp (sd s.dat) (opC tempP)) (opA tempP data)).1, 0) : SD) (opR tempP)) := hd34.trans (congrArg (a₂ := setS s.dat (((stp (stp (sd s.dat) (opC tempP)) (opA tempP data)).1, 0) : SD)) (fun q => setS q (stp (sd q) (opR tempP))) (by exact (starterD.ext' (by have h8 := congrArg starterD.depot hS2; exact h8) rfl)))
  have hk3 : diskOk (stp (((stp (stp (sd s.dat) (opC tempP)) (opA tempP data)).1, 0) : SD) (opR tempP)).1 = true := stp_ok hk2 (opR_ok temp_ok)
  have hb3 : totDisk (starterR.dat r31).depot.Disk ≤ 1048576 := by rw [hS3]; exact ok_tot hk3
  have hq3 : diskOk (starterR.dat r31).depot.Disk = true := by rw [hS3]; exact hk3
  refine WL.nil (WC.sr (WL.r 1 hs30 [] rfl ?_))
  have hF35 := ((hs30.fr L32).fb b_s)
  refine WL.cl Tryz.call130 rfl (k110_ _ r31 _ _ (St.headP hF35) ho33 (St.ownP hF35) (St.nodupP hF35) ?_) ?_
  · first | assumption | rfl | omega | decide | exact hb3 | exact hq3
  rintro _ whs36 ⟨r37, L38, rfl, hs36, ho39, hd40⟩
  replace hs36 := St.lendP hF35 hs36
  refine ⟨_, rfl, ?_⟩
  have hS4 : starterR.dat r37 = setS s.dat (stp (stp (((stp (stp (sd s.dat) (opC tempP)) (opA tempP data)).1, 0) : SD) (opR tempP)) opY) := hd40.trans (congrArg (a₂ := setS s.dat (stp (((stp (stp (sd s.dat) (opC tempP)) (opA tempP data)).1, 0) : SD) (opR tempP))) (fun q => setS q (stp (sd q) opY)) (by exact hS3))
  have hk4 : diskOk (stp (stp (((stp (stp (sd s.dat) (opC tempP)) (opA tempP data)).1, 0) : SD) (opR tempP)) opY).1 = true := stp_ok hk3 opY_ok
  have hb4 : totDisk (starterR.dat r37).depot.Disk ≤ 1048576 := by rw [hS4]; exact ok_tot hk4
  have hq4 : diskOk (starterR.dat r37).depot.Disk = true := by rw [hS4]; exact hk4
  refine WL.nil (WC.r1 hs36 [0] rfl (WC.cq rfl (fun h41 qh41 => ?_) (fun h41 qh41 => ?_)))
  ·have h0 : (stp (stp (((stp (stp (sd s.dat) (opC tempP)) (opA tempP data)).1, 0) : SD) (opR tempP)) opY).2 = 0 := (congrArg starterD.code hS4).symm.trans (of_decide_eq_true h41)
   have hX : (((stp (stp (((stp (stp (sd s.dat) (opC tempP)) (opA tempP data)).1, 0) : SD) (opR tempP)) opY).1, 5) : SD) = fillS (sd s.dat) data := by
     unfold fillS
     rw [if_pos h5]
     show _ = ((stp (stp (((stp (stp (sd s.dat) (opC tempP)) (opA tempP data)).1, 0) : SD) (opR tempP)) opY).1, if (stp (stp (((stp (stp (sd s.dat) (opC tempP)) (opA tempP data)).1, 0) : SD) (opR tempP)) opY).2 = 0 then 5 else (stp (stp (((stp (stp (sd s.dat) (opC tempP)) (opA tempP data)).1, 0) : SD) (opR tempP)) opY).2)
     rw [if_pos h0]
   refine WC.region (WL.r 3 hs36 [] rfl (WL.st tbk hs36 0 rfl rfl (fun _ hs42 => WL.nil (hK14 _ _ (WC.region (WL.r 1 hs42 [] rfl ?_))))))
   obtain ⟨L43, L44, L45, hs49, ho46, ho47, ho48⟩ := ownstarterR.op hs42 ho39
   have hs50 := (hs49.fb b_s)
   obtain ⟨L52, hs51, ho53⟩ := ownstarterR.fl hs50 ho46 ho47 ho48
   have hs54 := (hs51.fb b_s)
   have hF55 := ((hs54.fr L52).fb b_s)
   refine WL.cl Tryz.call133 rfl (k108_ _ ⟨⟨⟨r37.depot.Disk.Room, r37.depot.Disk.Fuse, r37.depot.Disk.Next, SlD.ofN ho46, SlD.of ho47, SlD.of ho48⟩, r37.depot.Gen, r37.depot.Seq, r37.depot.Size, r37.depot.Stuck⟩, (5)⟩ _ _ _ _ _ _ _ _ _ (St.headP hF55) (by exact ho53) (St.ownP hF55) (SlF.nil _ _) (by first | assumption | omega | simp) (St.nodupP hF55) (fun h_ => absurd h_ (by omega)) ?_ ?_ ?_ ?_) ?_
   iterate 4 first | assumption | rfl | omega | decide | exact hb4 | exact hq4
   rintro _ whs56 ⟨r57, L58, rfl, hs56, ho59, hd60⟩
   replace hs56 := St.lendP hF55 hs56
   refine ⟨_, rfl, ?_⟩
   have hS5 : starterR.dat r57 = setS s.dat (stp (((stp (stp (((stp (stp (sd s.dat) (opC tempP)) (opA tempP data)).1, 0) : SD) (opR tempP)) opY).1, 5) : SD) (syncOp tempP)) := hd60.trans (congrArg (a₂ := setS s.dat (((stp (stp (((stp (stp (sd s.dat) (opC tempP)) (opA tempP data)).1, 0) : SD) (opR tempP)) opY).1, 5) : SD)) (fun q => setS q (stp (sd q) (syncOp tempP))) (by exact (starterD.ext' (by have h8 := congrArg starterD.depot hS4; exact h8) rfl)))
   have hk5 : diskOk (stp (((stp (stp (((stp (stp (sd s.dat) (opC tempP)) (opA tempP data)).1, 0) : SD) (opR tempP)) opY).1, 5) : SD) (syncOp tempP)).1 = true := stp_ok hk4 (opS_ok temp_ok)
   have hb5 : totDisk (starterR.dat r57).depot.Disk ≤ 1048576 := by rw [hS5]; exact ok_tot hk5
   have hq5 : diskOk (starterR.dat r57).depot.Disk = true := by rw [hS5]; exact hk5
   refine WL.nil (retK0 rfl (⟨r57, _, rfl, St.keepP (L1 := L58) ((hs56.fr L58).fb b_s), ho59, ?_⟩))
   · exact hS5.trans (congrArg (fun q => setS s.dat (stp q (syncOp tempP))) hX)
  have h0 : ¬ (stp (stp (((stp (stp (sd s.dat) (opC tempP)) (opA tempP data)).1, 0) : SD) (opR tempP)) opY).2 = 0 := fun h8 => (of_decide_eq_false h41) ((congrArg starterD.code hS4).trans h8)
  have hX : (stp (stp (((stp (stp (sd s.dat) (opC tempP)) (opA tempP data)).1, 0) : SD) (opR tempP)) opY) = fillS (sd s.dat) data := by
    unfold fillS
    rw [if_pos h5]
    show _ = ((stp (stp (((stp (stp (sd s.dat) (opC tempP)) (opA tempP data)).1, 0) : SD) (opR tempP)) opY).1, if (stp (stp (((stp (stp (sd s.dat) (opC tempP)) (opA tempP data)).1, 0) : SD) (opR tempP)) opY).2 = 0 then 5 else (stp (stp (((stp (stp (sd s.dat) (opC tempP)) (opA tempP data)).1, 0) : SD) (opR tempP)) opY).2)
    rw [if_neg h0]
  refine WC.skip (hK14 _ _ (WC.region (WL.r 1 hs36 [] rfl ?_)))
  have hF61 := ((hs36.fr L38).fb b_s)
  refine WL.cl Tryz.call133 rfl (k108_ _ r37 _ _ _ _ _ _ _ _ _ (St.headP hF61) ho39 (St.ownP hF61) (SlF.nil _ _) (by first | assumption | omega | simp) (St.nodupP hF61) (fun h_ => absurd h_ (by omega)) ?_ ?_ ?_ ?_) ?_
  iterate 4 first | assumption | rfl | omega | decide | exact hb4 | exact hq4
  rintro _ whs62 ⟨r63, L64, rfl, hs62, ho65, hd66⟩
  replace hs62 := St.lendP hF61 hs62
  refine ⟨_, rfl, ?_⟩
  have hS6 : starterR.dat r63 = setS s.dat (stp (stp (stp (((stp (stp (sd s.dat) (opC tempP)) (opA tempP data)).1, 0) : SD) (opR tempP)) opY) (syncOp tempP)) := hd66.trans (congrArg (a₂ := setS s.dat (stp (stp (((stp (stp (sd s.dat) (opC tempP)) (opA tempP data)).1, 0) : SD) (opR tempP)) opY)) (fun q => setS q (stp (sd q) (syncOp tempP))) (by exact hS4))
  have hk6 : diskOk (stp (stp (stp (((stp (stp (sd s.dat) (opC tempP)) (opA tempP data)).1, 0) : SD) (opR tempP)) opY) (syncOp tempP)).1 = true := stp_ok hk4 (opS_ok temp_ok)
  have hb6 : totDisk (starterR.dat r63).depot.Disk ≤ 1048576 := by rw [hS6]; exact ok_tot hk6
  have hq6 : diskOk (starterR.dat r63).depot.Disk = true := by rw [hS6]; exact hk6
  refine WL.nil (retK0 rfl (⟨r63, _, rfl, St.keepP (L1 := L64) ((hs62.fr L64).fb b_s), ho65, ?_⟩))
  · exact hS6.trans (congrArg (fun q => setS s.dat (stp q (syncOp tempP))) hX)
 have h5 : ¬ (fill1 (sd s.dat) data).2 = 5 := fun h8 => (of_decide_eq_false h15) ((congrArg starterD.code hS2).trans h8)
 have hX : (stp (stp (sd s.dat) (opC tempP)) (opA tempP data)) = fillS (sd s.dat) data := (if_neg h5).symm
 refine WC.skip (hK14 _ _ (WC.region (WL.r 1 hs9 [] rfl ?_)))
 have hF67 := ((hs9.fr L11).fb b_s)
 refine WL.cl Tryz.call133 rfl (k108_ _ r10 _ _ _ _ _ _ _ _ _ (St.headP hF67) ho12 (St.ownP hF67) (SlF.nil _ _) (by first | assumption | omega | simp) (St.nodupP hF67) (fun h_ => absurd h_ (by omega)) ?_ ?_ ?_ ?_) ?_
 iterate 4 first | assumption | rfl | omega | decide | exact hb2 | exact hq2
 rintro _ whs68 ⟨r69, L70, rfl, hs68, ho71, hd72⟩
 replace hs68 := St.lendP hF67 hs68
 refine ⟨_, rfl, ?_⟩
 have hS7 : starterR.dat r69 = setS s.dat (stp (stp (stp (sd s.dat) (opC tempP)) (opA tempP data)) (syncOp tempP)) := hd72.trans (congrArg (a₂ := setS s.dat (stp (stp (sd s.dat) (opC tempP)) (opA tempP data))) (fun q => setS q (stp (sd q) (syncOp tempP))) (by exact hS2))
 have hk7 : diskOk (stp (stp (stp (sd s.dat) (opC tempP)) (opA tempP data)) (syncOp tempP)).1 = true := stp_ok hk2 (opS_ok temp_ok)
 have hb7 : totDisk (starterR.dat r69).depot.Disk ≤ 1048576 := by rw [hS7]; exact ok_tot hk7
 have hq7 : diskOk (starterR.dat r69).depot.Disk = true := by rw [hS7]; exact hk7
 refine WL.nil (retK0 rfl (⟨r69, _, rfl, St.keepP (L1 := L70) ((hs68.fr L70).fb b_s), ho71, ?_⟩))
 · exact hS7.trans (congrArg (fun q => setS s.dat (stp q (syncOp tempP))) hX)
open Go.Shelf
open Go.RowKit in
open Go.RowKit in
open Go.RowKit in
open Go.RowKit in
open Go.RowKit in
open Go.RowKit in
open Go.Lib in
open Go.Lib in
open Go.Lib in
open Go.Lib in
open Go.RowKit Go.Sort Go.Lib in
open Go.RowKit Go.Sort Go.Lib in
open Go.RowKit Go.Sort Go.Lib in
open Go.RowKit Go.Sort Go.Lib in
open Go.RowKit Go.Sort Go.Lib in
open Go.RowKit Go.Sort Go.Lib in
open Go.RowKit Go.Sort Go.Lib in
open Go.RowKit in
open Go.RowKit in
open Go.RowKit in
open Go.RowKit in
open Go.RowKit in
open Go.RowKit in
open Go.RowKit in
open Go.RowKit in
open Go.RowKit in
open Go.RowKit in
open Go.RowKit in
open Go.RowKit in
open Go.RowKit in
open Go.RowKit in
open Go.RowKit in
open Go.RowKit in
def Tryz.laysC172_ren : Go.Shelf.Ren := ⟨fun | 172 => 183 | 244 => 206 | 245 => 207 | 247 => 225 | 279 => 226 | 280 => 227 | 281 => 228 | 282 => 229 | 287 => 239 | 316 => 240 | 171 => 154 | 205 => 241 | 321 => 245 | 322 => 246 | 243 => 178 | 246 => 193 | 283 => 212 | 284 => 213 | 285 => 214 | 286 => 215 | 129 => 204 | 317 => 233 | 318 => 234 | 319 => 235 | 320 => 236 | 337 => 243 | 338 => 244 | n => n, fun | 9 => 9 | 3 => 3 | 75 => 199 | 76 => 200 | 4 => 4 | 5 => 5 | 167 => 233 | 37 => 43 | 0 => 0 | 85 => 234 | 2 => 2 | 168 => 236 | 53 => 219 | 175 => 247 | 46 => 176 | 210 => 251 | 127 => 255 | 145 => 258 | 143 => 256 | 21 => 21 | 171 => 222 | 173 => 224 | 212 => 240 | 51 => 194 | 20 => 20 | 213 => 241 | 232 => 259 | 233 => 260 | 80 => 261 | n => n, fun | 15 => 2 | 16 => 3 | 17 => 1 | 18 => 4 | 19 => 5 | n => n⟩
theorem Tryz.laysC172 : Go.Proofs.LaysC.n172 Tryz.prog Tryz.laysC172_ren := {
  mixed := by kernel_rfl
  f129 := Tryz.func204.trans (congrArg some (by kernel_rfl))
  f171 := Tryz.func154.trans (congrArg some (by kernel_rfl))
  f172 := Tryz.func183.trans (congrArg some (by kernel_rfl))
  f205 := Tryz.func241.trans (congrArg some (by kernel_rfl))
  f243 := Tryz.func178.trans (congrArg some (by kernel_rfl))
  f244 := Tryz.func206.trans (congrArg some (by kernel_rfl))
  f245 := Tryz.func207.trans (congrArg some (by kernel_rfl))
  f246 := Tryz.func193.trans (congrArg some (by kernel_rfl))
  f247 := Tryz.func225.trans (congrArg some (by kernel_rfl))
  f279 := Tryz.func226.trans (congrArg some (by kernel_rfl))
  f280 := Tryz.func227.trans (congrArg some (by kernel_rfl))
  f281 := Tryz.func228.trans (congrArg some (by kernel_rfl))
  f282 := Tryz.func229.trans (congrArg some (by kernel_rfl))
  f283 := Tryz.func212.trans (congrArg some (by kernel_rfl))
  f284 := Tryz.func213.trans (congrArg some (by kernel_rfl))
  f285 := Tryz.func214.trans (congrArg some (by kernel_rfl))
  f286 := Tryz.func215.trans (congrArg some (by kernel_rfl))
  f287 := Tryz.func239.trans (congrArg some (by kernel_rfl))
  f316 := Tryz.func240.trans (congrArg some (by kernel_rfl))
  f317 := Tryz.func233.trans (congrArg some (by kernel_rfl))
  f318 := Tryz.func234.trans (congrArg some (by kernel_rfl))
  f319 := Tryz.func235.trans (congrArg some (by kernel_rfl))
  f320 := Tryz.func236.trans (congrArg some (by kernel_rfl))
  f321 := Tryz.func245.trans (congrArg some (by kernel_rfl))
  f322 := Tryz.func246.trans (congrArg some (by kernel_rfl))
  f337 := Tryz.func243.trans (congrArg some (by kernel_rfl))
  f338 := Tryz.func244.trans (congrArg some (by kernel_rfl))
  t0 := Tryz.underlying0
  a0 := Tryz.isAgg0
  z0 := Tryz.sizeOf0
  v0 := Tryz.zeroValue0
  t2 := Tryz.underlying2
  a2 := Tryz.isAgg2
  z2 := Tryz.sizeOf2
  v2 := Tryz.zeroValue2
  t3 := Tryz.underlying3
  a3 := Tryz.isAgg3
  z3 := Tryz.sizeOf3
  v3 := Tryz.zeroValue3
  t4 := Tryz.underlying4
  a4 := Tryz.isAgg4
  z4 := Tryz.sizeOf4
  v4 := Tryz.zeroValue4
  t5 := Tryz.underlying5
  a5 := Tryz.isAgg5
  z5 := Tryz.sizeOf5
  v5 := Tryz.zeroValue5
  t9 := Tryz.underlying9
  a9 := Tryz.isAgg9
  z9 := Tryz.sizeOf9
  v9 := Tryz.zeroValue9
  t20 := Tryz.underlying20
  a20 := Tryz.isAgg20
  z20 := Tryz.sizeOf20
  v20 := Tryz.zeroValue20
  t21 := Tryz.underlying21
  a21 := Tryz.isAgg21
  z21 := Tryz.sizeOf21
  v21 := Tryz.zeroValue21
  t37 := Tryz.underlying43
  a37 := Tryz.isAgg43
  z37 := Tryz.sizeOf43
  v37 := Tryz.zeroValue43
  t46 := Tryz.underlying176
  a46 := Tryz.isAgg176
  z46 := Tryz.sizeOf176
  v46 := Tryz.zeroValue176
  t51 := Tryz.underlying194
  a51 := Tryz.isAgg194
  z51 := Tryz.sizeOf194
  v51 := Tryz.zeroValue194
  t53 := Tryz.underlying219
  a53 := Tryz.isAgg219
  z53 := Tryz.sizeOf219
  v53 := Tryz.zeroValue219
  t75 := Tryz.underlying199
  a75 := Tryz.isAgg199
  z75 := Tryz.sizeOf199
  v75 := Tryz.zeroValue199
  t76 := Tryz.underlying200
  a76 := Tryz.isAgg200
  z76 := Tryz.sizeOf200
  v76 := Tryz.zeroValue200
  t85 := Tryz.underlying234
  a85 := Tryz.isAgg234
  z85 := Tryz.sizeOf234
  v85 := Tryz.zeroValue234
  t127 := Tryz.underlying255
  a127 := Tryz.isAgg255
  z127 := Tryz.sizeOf255
  v127 := Tryz.zeroValue255
  t143 := Tryz.underlying256
  a143 := Tryz.isAgg256
  z143 := Tryz.sizeOf256
  v143 := Tryz.zeroValue256
  t145 := Tryz.underlying258
  a145 := Tryz.isAgg258
  z145 := Tryz.sizeOf258
  v145 := Tryz.zeroValue258
  t167 := Tryz.underlying233
  a167 := Tryz.isAgg233
  z167 := Tryz.sizeOf233
  v167 := Tryz.zeroValue233
  t168 := Tryz.underlying236
  a168 := Tryz.isAgg236
  z168 := Tryz.sizeOf236
  v168 := Tryz.zeroValue236
  t171 := Tryz.underlying222
  a171 := Tryz.isAgg222
  z171 := Tryz.sizeOf222
  v171 := Tryz.zeroValue222
  t173 := Tryz.underlying224
  a173 := Tryz.isAgg224
  z173 := Tryz.sizeOf224
  v173 := Tryz.zeroValue224
  t175 := Tryz.underlying247
  a175 := Tryz.isAgg247
  z175 := Tryz.sizeOf247
  v175 := Tryz.zeroValue247
  t210 := Tryz.underlying251
  a210 := Tryz.isAgg251
  z210 := Tryz.sizeOf251
  v210 := Tryz.zeroValue251
  t212 := Tryz.underlying240
  a212 := Tryz.isAgg240
  z212 := Tryz.sizeOf240
  v212 := Tryz.zeroValue240
  t213 := Tryz.underlying241
  a213 := Tryz.isAgg241
  z213 := Tryz.sizeOf241
  t232 := Tryz.underlying259
  a232 := Tryz.isAgg259
  z232 := Tryz.sizeOf259
  v232 := Tryz.zeroValue259
  t233 := Tryz.underlying260
  a233 := Tryz.isAgg260
  z233 := Tryz.sizeOf260
  v233 := Tryz.zeroValue260
  g15 := by kernel_rfl
  g16 := by kernel_rfl
  g17 := by kernel_rfl
  g18 := by kernel_rfl
  g19 := by kernel_rfl
  t80 := Tryz.underlying261
  a80 := Tryz.isAgg261
  z80 := Tryz.sizeOf261
  v80 := Tryz.zeroValue261
  i0 := by kernel_rfl
  i2 := by kernel_rfl
  i3 := by kernel_rfl
  i4 := by kernel_rfl
  i5 := by kernel_rfl
  i9 := by kernel_rfl
  i20 := by kernel_rfl
  i21 := by kernel_rfl
  i37 := by kernel_rfl
  i46 := by kernel_rfl
  i51 := by kernel_rfl
  i53 := by kernel_rfl
  i75 := by kernel_rfl
  i76 := by kernel_rfl
  i80 := by kernel_rfl
  i85 := by kernel_rfl
  i127 := by kernel_rfl
  i143 := by kernel_rfl
  i145 := by kernel_rfl
  i167 := by kernel_rfl
  i168 := by kernel_rfl
  i171 := by kernel_rfl
  i173 := by kernel_rfl
  i175 := by kernel_rfl
  i210 := by kernel_rfl
  i212 := by kernel_rfl
  i232 := by kernel_rfl
  i233 := by kernel_rfl
  m15 := by kernel_rfl
  m16 := by kernel_rfl
  m17 := by kernel_rfl
  m18 := by kernel_rfl
  m19 := by kernel_rfl
  c0 := by kernel_rfl
  c2 := by kernel_rfl
  c3 := by kernel_rfl
  c4 := by kernel_rfl
  c5 := by kernel_rfl
  c9 := by kernel_rfl
  c20 := by kernel_rfl
  c21 := by kernel_rfl
  c37 := by kernel_rfl
  c46 := by kernel_rfl
  c51 := by kernel_rfl
  c53 := by kernel_rfl
  c75 := by kernel_rfl
  c76 := by kernel_rfl
  c80 := by kernel_rfl
  c85 := by kernel_rfl
  c127 := by kernel_rfl
  c143 := by kernel_rfl
  c145 := by kernel_rfl
  c167 := by kernel_rfl
  c168 := by kernel_rfl
  c171 := by kernel_rfl
  c173 := by kernel_rfl
  c175 := by kernel_rfl
  c210 := by kernel_rfl
  c212 := by kernel_rfl
  c213 := by kernel_rfl
  c232 := by kernel_rfl
  c233 := by kernel_rfl }
open Go.RowKit in
theorem Tryz.strconv_Atoi_ok (s : ByteArray) (hmax : s.size ≤ 9223372036854775806) (v : Int) (h : Lib.atoiAll s.data.toList = .ok v) (w : World) :
    Calls Tryz.prog 183 #[.string s] w fun e w' => e = .returned (.tuple #[.int .i64 v, .nilIface]) ∧ (w' = w ∨ ∃ t, w' = Lib.bytesWorld w 5 t) := Any.strconv_Atoi_ok Tryz.laysC172 s hmax v h w
open Go.RowKit in
theorem Tryz.strconv_Atoi_syntax (s : ByteArray) (hlim : s.size ≤ 281474976710656) (h : Lib.atoiAll s.data.toList = Lib.NumEnd.syntax) (ev : Value) (w : World) (hv : w.cell? ⟨2, 0, none⟩ = some ev) (hev : ev = .nilIface ∨ ∃ te pe, ev = .iface te pe) :
    Calls Tryz.prog 183 #[.string s] w fun e w' => ∃ N, e = .returned (.tuple #[.int .i64 (0), .iface 236 (.pointer (some ⟨N, 0, none⟩))]) ∧ w.heap.size ≤ N ∧ w'.heap[N]? = some (.cells #[.string ⟨#[65, 116, 111, 105]⟩, .string s, ev] 251 (0, 0)) ∧ Below w.heap.size w w' := Any.strconv_Atoi_syntax Tryz.laysC172 s hlim h ev w hv hev
open Go.RowKit in
open Go.RowKit in
open Go.RowKit in
open Go.RowKit in
open Go.RowKit in
open Go.RowKit in
open Go.RowKit Go.Lib in
open Go.RowKit Go.Lib in
open Go.RowKit Go.Lib in
open Go.RowKit Go.Lib in
open Go.RowKit Go.Lib in
open Go.RowKit Go.Lib in
open Go.RowKit Go.Lib in
def Tryz.lays145_ren : Go.Shelf.Ren := ⟨fun | 145 => 166 | 220 => 182 | 219 => 205 | 217 => 211 | 225 => 222 | 224 => 223 | 267 => 224 | 266 => 232 | 314 => 238 | n => n, fun | 9 => 9 | 4 => 4 | 59 => 185 | 3 => 3 | 5 => 5 | 46 => 176 | 146 => 245 | 51 => 194 | n => n, fun | 1 => 0 | n => n⟩
theorem Tryz.lays145 : Go.Proofs.Lays.n145 Tryz.prog Tryz.lays145_ren := {
  mixed := by kernel_rfl
  f145 := Tryz.func166.trans (congrArg some (by kernel_rfl))
  f217 := Tryz.func211.trans (congrArg some (by kernel_rfl))
  f219 := Tryz.func205.trans (congrArg some (by kernel_rfl))
  f220 := Tryz.func182.trans (congrArg some (by kernel_rfl))
  f224 := Tryz.func223.trans (congrArg some (by kernel_rfl))
  f225 := Tryz.func222.trans (congrArg some (by kernel_rfl))
  f266 := Tryz.func232.trans (congrArg some (by kernel_rfl))
  f267 := Tryz.func224.trans (congrArg some (by kernel_rfl))
  f314 := Tryz.func238.trans (congrArg some (by kernel_rfl))
  t3 := Tryz.underlying3
  a3 := Tryz.isAgg3
  z3 := Tryz.sizeOf3
  v3 := Tryz.zeroValue3
  t4 := Tryz.underlying4
  a4 := Tryz.isAgg4
  z4 := Tryz.sizeOf4
  v4 := Tryz.zeroValue4
  t5 := Tryz.underlying5
  a5 := Tryz.isAgg5
  z5 := Tryz.sizeOf5
  v5 := Tryz.zeroValue5
  t9 := Tryz.underlying9
  a9 := Tryz.isAgg9
  z9 := Tryz.sizeOf9
  v9 := Tryz.zeroValue9
  t46 := Tryz.underlying176
  a46 := Tryz.isAgg176
  z46 := Tryz.sizeOf176
  v46 := Tryz.zeroValue176
  t51 := Tryz.underlying194
  a51 := Tryz.isAgg194
  z51 := Tryz.sizeOf194
  v51 := Tryz.zeroValue194
  t59 := Tryz.underlying185
  a59 := Tryz.isAgg185
  z59 := Tryz.sizeOf185
  v59 := Tryz.zeroValue185
  t146 := Tryz.underlying245
  a146 := Tryz.isAgg245
  z146 := Tryz.sizeOf245
  v146 := Tryz.zeroValue245
  g1 := by kernel_rfl }
open Go.RowKit Go.Lib in
theorem Tryz.strings_Cut (s sep : ByteArray) (m : Int) (w : World) (hs : s.size < 4294967281) (hm : w.cell? ⟨0, 0, none⟩ = some (.int .i64 m)) :
    Calls Tryz.prog 166 #[.string s, .string sep] w fun e w' => e = .returned (.tuple #[.string ⟨(Lib.cut s.data.toList sep.data.toList).1.toArray⟩, .string ⟨(Lib.cut s.data.toList sep.data.toList).2.1.toArray⟩, .bool (Lib.cut s.data.toList sep.data.toList).2.2]) ∧ ∃ n, w' = w.drewN n := Any.strings_Cut Tryz.lays145 s sep m w hs hm
open Go.RowKit Go.Lib in
open Go.RowKit Go.Lib in
open Go.RowKit Go.Lib in
open Go.Sort Go.RowKit in
open Go.RowKit Go.Lib in
open Go.RowKit Go.Lib in
open Go.RowKit Go.Lib in
open Go.RowKit Go.Lib in
open Go.RowKit Go.Sort in
open Go Go.RowKit
set_option autoImplicit false
set_option relaxedAutoImplicit false
section
variable {P : Program} {o : Oper} {f : Fr} {w : World} {t t' : TypeId} {x y : Operand}
def errOf (T : TypeId) (N : Nat) (b : Bool) : Value := if b then .nilIface else .iface T (.pointer (some ⟨N, 0, none⟩))
theorem equalIn_ifn {d : Nat} {w : World} {ms} (hu : P.underlying t = some (.interface ms)) : (Op.equalIn (d + 1) t .nilIface .nilIface).run P w = .ok true w := by
 simp [Op.equalIn, run_underlying hu]
theorem equalIn_ifi {d : Nat} {w : World} {ms} {T : TypeId} {v : Value} (hu : P.underlying t = some (.interface ms)) : (Op.equalIn (d + 1) t (.iface T v) .nilIface).run P w = .ok false w := by
 simp [Op.equalIn, run_underlying hu]
theorem Run.neqI {ms} {T N : Nat} {b : Bool} (hu : P.underlying t = some (.interface ms)) (ho : o.op = .binOp .neq t x (.const .nilIface) t') (hx : ev f x = some (errOf T N b)) : Run P o f w (.value (.bool (!b))) w := fun ρ hρ => by
 have h3 : ρ (.const .nilIface) = .nilIface := hρ _ _ rfl
 cases b with
 | true =>
  have h1 : (binOp .neq t .nilIface .nilIface).run P w = .ok (.bool false) w := by
   simp only [binOp]
   simp [Op.equal, Op.maxDepth, equalIn_ifn hu]
  have h2 : ρ x = .nilIface := hρ _ _ hx
  simp [execOp, ho, h2, h3, eqGuard, h1]
 | false =>
  have h1 : (binOp .neq t (.iface T (.pointer (some ⟨N, 0, none⟩))) .nilIface).run P w = .ok (.bool true) w := by
   simp only [binOp]
   simp [Op.equal, Op.maxDepth, equalIn_ifi hu]
  have h2 : ρ x = .iface T (.pointer (some ⟨N, 0, none⟩)) := hρ _ _ hx
  simp [execOp, ho, h2, h3, eqGuard, h1]
theorem Run.sliceStrL {k : IntKind} {a : Int} (lo : Nat) {s : ByteArray} (hu : ∀ w, (underlying t).run P w = .ok .string w) (ho : o.op = .slice t x (some y) none none) (hx : ev f x = some (.string s)) (hy : ev f y = some (.int k a))
  (ha : a = (lo : Int)) (h : lo ≤ s.size) : Run P o f w (.value (.string (s.extract lo s.size))) w := fun ρ hρ => by
 subst ha
 simp [execOp, ho, hρ _ _ hx, hρ _ _ hy, Instr.sliceAt, Instr.slice, Instr.sliceBounds, Instr.sliceBound, asIntOf, hu, h]
end
theorem St.apart {w w' : World} {L : Hp} (hs : St w [] L w') {g : Nat} (hg : g < w.heap.size) : g ∉ L.map (·.1) := by
 intro hm
 obtain ⟨p, hp, rfl⟩ := List.mem_map.1 hm
 rcases (hs.own p hp).2 with h | h
 ·omega
 ·exact absurd h List.not_mem_nil
def LibOk (w : World) : Prop := TabOk w ∧ (∃ m, w.cell? ⟨0, 0, none⟩ = some (.int .i64 m)) ∧ ∃ ev, w.cell? ⟨2, 0, none⟩ = some ev ∧ (ev = .nilIface ∨ ∃ te pe, ev = .iface te pe)
def far (D : List Nat) : Prop := ∀ k, k ∈ D → 3 ≤ k
theorem lib_size {w : World} (h : LibOk w) : 3 ≤ w.heap.size := by
  obtain ⟨_, _, ev, h, _⟩ := h
  have := cell?_lt h
  exact this
theorem tab_lent {w w' : World} {D : List Nat} {L : Hp} (h : TabOk w) (hs : St w D L w') (hd : far D) : TabOk w' := by
  have hgn : Tryz.prog.globalNamed "internal/strconv.uint64pow10" = some 1 := by kernel_rfl
  unfold TabOk Go.Lib.TabIs World.var? at h ⊢
  rw [hgn] at h ⊢
  simp only [Option.bind_some] at h ⊢
  have hlt : 1 < w.heap.size := by
    rcases Nat.lt_or_ge 1 w.heap.size with h' | h'
    · exact h'
    · rw [Array.getElem?_eq_none h'] at h; cases h
  rw [hs.keep 1 hlt (fun hm => absurd (hd 1 hm) (by decide))]
  exact h
theorem cell_lent {w w' : World} {D : List Nat} {L : Hp} {b : Nat} {v : Value} (hb : b < 3) (h : w.cell? ⟨b, 0, none⟩ = some v) (hs : St w D L w') (hd : far D) : w'.cell? ⟨b, 0, none⟩ = some v := by
  have hlt : b < w.heap.size := cell?_lt h
  have e : w'.heap[b]? = w.heap[b]? := hs.keep b hlt (fun hm => absurd (hd b hm) (by omega))
  unfold World.cell? at h ⊢
  simp only [e]
  exact h
theorem lib_lent {w w' : World} {D : List Nat} {L : Hp} (h : LibOk w) (hs : St w D L w') (hd : far D) : LibOk w' := by
  obtain ⟨h1, ⟨m, h2⟩, ev, h3, h4⟩ := h
  exact ⟨tab_lent h1 hs hd, ⟨m, cell_lent (by decide) h2 hs hd⟩, ev, cell_lent (by decide) h3 hs hd, h4⟩
theorem far_nil : far [] := fun _ h => absurd h List.not_mem_nil
theorem lib_st {w w' : World} {L : Hp} (h : LibOk w) (hs : St w [] L w') : LibOk w' := lib_lent h hs far_nil
theorem lib_tab {w w' : World} {L : Hp} (h : LibOk w) (hs : St w [] L w') : TabOk w' := (lib_st h hs).1
theorem far_of {w w' : World} {L : Hp} (h : LibOk w) (hs : St w [] L w') {D : List Nat} (hd : ∀ k, k ∈ D → k ∈ L.map (·.1)) : far D := by
  intro k hk
  obtain ⟨p, hp, rfl⟩ := List.mem_map.1 (hd k hk)
  have := lib_size h
  rcases (hs.own p hp).2 with h | h
  · omega
  · exact absurd h List.not_mem_nil
def cutHd (s : ByteArray) : ByteArray := ⟨(Go.Lib.cut s.data.toList [46]).1.toArray⟩
def cutIs (s : ByteArray) : Bool := (Go.Lib.cut s.data.toList [46]).2.2
theorem k112_ (s : ByteArray) (w : World) (hl9 : LibOk w) (hz : s.size ≤ 16) : Calls Tryz.prog 166 #[.string s, .string ⟨#[46]⟩] w fun e w' => e = .returned (.tuple #[.string (cutHd s), .string (cutT s), .bool (cutIs s)]) ∧ St w [] [] w' := by
  obtain ⟨_, ⟨m, hm⟩, _⟩ := hl9
  refine (Tryz.strings_Cut s ⟨#[46]⟩ m w (by omega) hm).mono ?_
  rintro e w' ⟨rfl, n, rfl⟩
  exact ⟨rfl, rfl, rfl, rfl, Nat.le_refl _, fun _ _ _ => rfl, (fun _ h => by cases h), List.nodup_nil⟩
def atoOk (s : ByteArray) : Bool := match Go.Lib.atoiAll s.data.toList with | .ok _ => true | _ => false
def atoV (s : ByteArray) : Int := match Go.Lib.atoiAll s.data.toList with | .ok v => v | _ => 0
theorem cut_size (s : ByteArray) : (cutT s).size ≤ s.size := by
  unfold cutT Go.Lib.cut
  rw [Go.Lib.size_eq, Go.Lib.size_eq]
  split
  · simp
  · simp
theorem k113_ (s : ByteArray) (w : World) (hl9 : LibOk w) (hz : s.size ≤ 16) : Calls Tryz.prog 183 #[.string s] w fun e w' => ∃ N, e = .returned (.tuple #[.int .i64 (atoV s), errOf 236 N (atoOk s)]) ∧ St w [] [] w' := by
  obtain ⟨_, _, ev, h1, h2⟩ := hl9
  have hsh : s.data.toList.length ≤ 18 := by rw [← Go.Lib.size_eq]; omega
  cases h : Go.Lib.atoiAll s.data.toList with
  | ok v =>
    refine (Tryz.strconv_Atoi_ok s (by omega) v h w).mono ?_
    rintro e w' ⟨rfl, hw⟩
    refine ⟨0, ?_, ?_⟩
    · unfold atoV atoOk; rw [h]; rfl
    · rcases hw with rfl | ⟨t, rfl⟩
      · exact St.init _
      · exact St.ofBelow (Go.Lib.bytesWorld_below w _ t)
  | range =>
    rw [Go.Lib.atoiAll_short _ hsh] at h
    revert h
    cases Go.Lib.atoi s.data.toList <;> (intro h; cases h)
  | _ =>
    refine (Tryz.strconv_Atoi_syntax s (by omega) h ev w h1 h2).mono ?_
    rintro e w' ⟨N, rfl, _, _, hb⟩
    refine ⟨N, ?_, St.ofBelow hb⟩
    unfold atoV atoOk; rw [h]; rfl
theorem ato_yes {s : ByteArray} (h : (!atoOk s || !decide (numBA (atoV s) = s)) = false) : textOk s = true ∧ textV s = atoV s := by
  rw [Bool.or_eq_false_iff, Bool.not_eq_false', Bool.not_eq_false', decide_eq_true_eq] at h
  obtain ⟨h1, h2⟩ := h
  cases h3 : Go.Lib.atoiAll s.data.toList with
  | ok v =>
    have e : atoV s = v := by unfold atoV; rw [h3]
    rw [e] at h2 ⊢
    exact atoi_text h3 h2
  | _ => unfold atoOk at h1; rw [h3] at h1; cases h1
theorem ato_no {s : ByteArray} (h : (!atoOk s || !decide (numBA (atoV s) = s)) = true) : textOk s = false := by
  refine atoi_text_n fun v h1 h2 => ?_
  have e : atoV s = v := by unfold atoV; rw [h1]
  have e2 : atoOk s = true := by unfold atoOk; rw [h1]
  rw [e, e2, decide_eq_true h2] at h
  cases h
theorem k114_ (s : ByteArray) (w : World) (hl9 : LibOk w) (hz : s.size ≤ 16) :
    Calls Tryz.prog 167 #[.string s] w fun e w' => e = .returned (.tuple #[.int .i64 (textV s), .bool (textOk s)]) ∧ St w [] [] w' := by
 refine enter 20 Tryz.func167 rfl Tryz.ntmps167 rfl rfl ?_
 have hs1 := St.init w
 refine WC.r1 hs1 [] rfl (WC.sr (WL.r 1 hs1 [] rfl (WL.cl Tryz.call183 rfl (k113_ _ _ ?_ ?_) ?_)))
 iterate 2 first | assumption | omega | exact lib_st hl9 (by assumption) | exact lib_tab hl9 (by assumption)
 rintro _ whs2 ⟨N3, rfl, hs2⟩
 replace hs2 := hs1.callF hs2
 refine ⟨_, rfl, ?_⟩
 rw [List.nil_append] at hs2
 refine WL.r 5 hs2 [] rfl (WL.nil (WC.seq (fun K4 hK4 => WC.sr (WL.r 1 hs2 [] rfl (WL.val rfl rfl rfl (Run.neqI Tryz.underlying199 rfl rfl) (WL.r 1 hs2 [] rfl ?_))))))
 apply WL.gO 4 Acts.nil hs2 rfl
 ·intro g5 J6
  have qg5 := g5
  try simp only [bf, within_iff, within_not] at qg5
  refine WL.runA tbk 1 (Acts.nil.cons (j := 2) rfl g5) hs2 [] rfl trivial (WL.call (wantF rfl g5) rfl rfl (Run.call Tryz.call91 rfl rfl rfl) (k11_ _ _ ?_) ?_)
  · first | assumption | rfl | omega | exact lib_st hl9 (by assumption) | exact lib_tab hl9 (by assumption)
  rintro _ whs7 ⟨rfl, hs7⟩
  replace hs7 := hs2.call0 hs7
  refine ⟨_, rfl, WL.runA tbk 2 (Acts.nil.cons (j := 2) rfl g5) hs7 [] rfl trivial (WL.eO 4 Acts.nil J6 hs7 g5 rfl rfl)⟩
 intro _ hs8
 refine WL.nil (WC.cq rfl (fun h9 qh9 => ?_) (fun h9 qh9 => ?_))
 ·have hk := ato_no (s := s) h9
  refine WC.r1 hs8 [] rfl (WC.ret (tkR ?_))
  clear hK4
  refine retV2 rfl (resV.tmp rfl) (resV.tmp rfl) (⟨congrArg Ending.returned ?_, hs8.nil⟩)
  rw [hk, textV_n hk]
 obtain ⟨hk, hv⟩ := ato_yes (s := s) h9
 refine WC.skip (hK4 _ _ (WC.r1 hs8 [] rfl (WC.ret (retV2 rfl (resV.tmp rfl) (resV.tmp rfl) (⟨congrArg Ending.returned ?_, hs8.nil⟩)))))
 rw [hk, hv]
theorem k115_ (name : ByteArray) (w : World) (hl9 : LibOk w) (hz : name.size ≤ 16) :
    Calls Tryz.prog 114 #[.string name] w fun e w' => e = .returned (.tuple #[.int .i64 (genV name), .bool (genOk name)]) ∧ St w [] [] w' := by
 have hcz := cut_size name
 refine enter 40 Tryz.func114 rfl Tryz.ntmps114 rfl rfl ?_
 have hs1 := St.init w
 refine WC.r1 hs1 [] rfl (WC.sr (WL.r 1 hs1 [] rfl (WL.cl Tryz.call166 rfl (k112_ _ _ ?_ ?_) ?_)))
 iterate 2 first | assumption | omega | exact lib_st hl9 (by assumption) | exact lib_tab hl9 (by assumption)
 rintro _ whs2 ⟨rfl, hs2⟩
 replace hs2 := hs1.call0 hs2
 refine ⟨_, rfl, WL.r 7 hs2 [] rfl (WL.nil (WC.sr (WL.r 1 hs2 [] rfl (WL.cl Tryz.call167 rfl (k114_ _ _ ?_ ?_) ?_))))⟩
 iterate 2 first | assumption | rfl | omega | exact lib_st hl9 (by assumption) | exact lib_tab hl9 (by assumption)
 rintro _ whs3 ⟨rfl, hs3⟩
 replace hs3 := hs2.call0 hs3
 refine ⟨_, rfl, WL.r 5 hs3 [] rfl (WL.nil (WC.seq (fun K4 hK4 => WC.sr (WL.r 3 hs3 [] rfl ?_))))⟩
 apply WL.gO 3 Acts.nil hs3 rfl
 ·intro g5 J6
  have qg5 := g5
  try simp only [bf, within_iff, within_not] at qg5
  refine WL.runA tbk 1 (Acts.nil.cons (j := 2) rfl g5) hs3 [] rfl trivial (WL.call (wantF rfl g5) rfl rfl (Run.call Tryz.call60 rfl rfl rfl) (k14_ _ _) ?_)
  rintro _ whs7 ⟨rfl, hs7⟩
  replace hs7 := hs3.call0 hs7
  refine ⟨_, rfl, WL.runA tbk 1 (Acts.nil.cons (j := 2) rfl g5) hs7 [] rfl trivial (WL.eO 3 Acts.nil J6 hs7 g5 rfl rfl)⟩
 intro _ hs8
 refine WL.r 1 hs8 [] rfl ?_
 apply WL.gO 10 Acts.nil hs8 rfl
 ·intro g9 J10
  have qg9 := g9
  try simp only [bf, within_iff, within_not] at qg9
  refine WL.runA tbk 2 (Acts.nil.cons (j := 7) rfl g9) hs8 [] rfl trivial (WL.call (wantF rfl g9) rfl rfl (Run.call Tryz.call115 rfl rfl rfl) (k16_ _ _ ?_) ?_)
  · first | assumption | rfl | omega | exact lib_st hl9 (by assumption) | exact lib_tab hl9 (by assumption)
  rintro _ whs11 ⟨rfl, hs11⟩
  replace hs11 := hs8.call0 hs11
  refine ⟨_, rfl, WL.runA tbk 2 (Acts.nil.cons (j := 7) rfl g9) hs11 [] rfl trivial ?_⟩
  apply WL.gA 4 (Acts.nil.cons (j := 7) rfl g9) hs11 rfl
  ·intro g12 J13
   have qg12 := g12
   try simp only [bf, within_iff, within_not] at qg12
   refine WL.runA tbk 2 (Acts.nil.cons (j := 12) rfl g12) hs11 [] rfl trivial (WL.call (wantT rfl g12) rfl rfl (Run.call Tryz.call44 rfl rfl rfl) (k15_ _ _ ?_) ?_)
   · first | assumption | rfl | omega | exact lib_st hl9 (by assumption) | exact lib_tab hl9 (by assumption)
   rintro _ whs14 ⟨rfl, hs14⟩
   replace hs14 := hs11.call0 hs14
   refine ⟨_, rfl, WL.runA tbk 1 (Acts.nil.cons (j := 12) rfl g12) hs14 [] rfl trivial (WL.eA 4 (Acts.nil.cons (j := 7) rfl g9) J13 hs14 g12 rfl rfl)⟩
  intro _ hs15
  exact WL.eO 6 Acts.nil J10 hs15 g9 rfl rfl
 intro _ hs16
 refine WL.nil (WC.cq rfl (fun h17 qh17 => ?_) (fun h17 qh17 => ?_))
 ·have hk : genOk name = false := by unfold genOk genB; have h9 := h17; revert h9; unfold snapName logName; cases textOk (cutT name) <;> cases isGenB (textV (cutT name)) <;> cases decide (name = genName snapP (textV (cutT name))) <;> cases decide (name = genName logP (textV (cutT name))) <;> decide
  refine WC.r1 hs16 [] rfl (WC.ret (tkR ?_))
  clear hK4
  refine retV2 rfl (resV.tmp rfl) (resV.tmp rfl) (⟨congrArg Ending.returned ?_, hs16.nil⟩)
  rw [hk]; unfold genV; rw [hk]; rfl
 have hk : genOk name = true := by unfold genOk genB; have h9 := h17; revert h9; unfold snapName logName; cases textOk (cutT name) <;> cases isGenB (textV (cutT name)) <;> cases decide (name = genName snapP (textV (cutT name))) <;> cases decide (name = genName logP (textV (cutT name))) <;> decide
 refine WC.skip (hK4 _ _ (WC.r1 hs16 [] rfl (WC.ret (retV2 rfl (resV.tmp rfl) (resV.tmp rfl) (⟨congrArg Ending.returned ?_, hs16.nil⟩)))))
 rw [hk]; unfold genV; rw [hk]; rfl
theorem k116_ (s : ByteArray) (w : World) (hz : s.size ≤ 16) :
    Calls Tryz.prog 124 #[.string s] w fun e w' => e = .returned (.tuple #[.int .i64 (textV s), .bool (textOk s)]) ∧ St w [] [] w' := by
 refine enter 43 Tryz.func124 rfl Tryz.ntmps124 rfl rfl ?_
 have hs1 := St.init w
 refine WC.r1 hs1 [] rfl (WC.seq (fun K2 hK2 => WC.sr (WL.r 4 hs1 [] rfl (WL.pO tbk 3 Acts.nil hs1 [] rfl rfl rfl rfl (fun g_ => trivial) (WL.nil ?_)))))
 refine WC.cq rfl (fun h3 qh3 => ?_) (fun h3 qh3 => ?_)
 ·have hk : textOk s = false := by unfold textOk; have h9 := h3; rw [(within_not (n := (s.size : Int)) (lo := 1) (hi := 10)).2 (by simp at h9; omega)]; rfl
  refine WC.r1 hs1 [] rfl (WC.ret (tkR ?_))
  clear hK2
  refine retV2 rfl (resV.tmp rfl) (resV.tmp rfl) (⟨congrArg Ending.returned ?_, hs1.nil⟩)
  rw [hk, textV_n hk]
 have hw : 1 ≤ s.size ∧ s.size ≤ 10 := by have h9 := h3; simp at h9; omega
 refine WC.skip (hK2 _ _ (WC.r1 hs1 [] rfl (WC.seq (fun K4 hK4 => WC.r1 hs1 [] rfl (WC.block ?_)))))
 refine WC.lS [0, 13] rfl hs1 (fun k_ f w' => ∃ (i : Nat), k_ = s.size - i ∧ (i ≤ s.size) ∧ ((s.data.toList.take i).all dgB = true) ∧ Sub [(5, .int .i64 i), (4, .int .i64 (decL (s.data.toList.take i) : Nat))] f) ((fun (i : Nat) => s.size - i) (0)) ?_ ?_
 ·refine ⟨0, rfl, ?_, ?_, ⟨rfl, ?_, trivial⟩⟩
  · exact Nat.zero_le _
  · rfl
  · rfl
 clear hs1
 rintro _ f w ⟨i, rfl, p0, p1, hG⟩ hF hs5
 refine WC.sub _ (hG.app hF) ?_
 clear hG hF
 have hdl : decL (s.data.toList.take i) < 10000000000 := decL_small p1 (by rw [List.length_take]; omega)
 refine WC.seq (fun K6 hK6 => WC.r1 hs5 [] rfl ?_)
 refine WC.cq rfl (fun h7 qh7 => ?_) (fun h7 qh7 => ?_)
 ·refine WC.skip (hK6 _ _ (WC.seq (fun K8 hK8 => WC.block (WC.seq (fun K9 hK9 => WC.sr (WL.r 2 hs5 [] rfl ?_))))))
  refine WL.val rfl rfl rfl (Run.idxStrN Tryz.runUnderlying9 rfl rfl rfl ?_ ?_) ?_
  · omega
  · omega
  refine WL.r 2 hs5 [] rfl ?_
  apply WL.gO 4 Acts.nil hs5 rfl
  ·intro g10 J11
   have qg10 := g10
   try simp only [bf, within_iff, within_not] at qg10
   refine WL.runA tbk 2 (Acts.nil.cons (j := 4) rfl g10) hs5 [] rfl trivial (WL.val (wantF rfl g10) rfl rfl (Run.idxStrN Tryz.runUnderlying9 rfl rfl rfl ?_ ?_) ?_)
   · omega
   · omega
   refine WL.runA tbk 1 (Acts.nil.cons (j := 4) rfl g10) hs5 [] rfl trivial (WL.eO 4 Acts.nil J11 hs5 g10 rfl rfl)
  intro _ hs12
  refine WL.nil (WC.cq rfl (fun h13 qh13 => ?_) (fun h13 qh13 => ?_))
  ·have hk : textOk s = false := by
     have hdg : dgB (sbyte s i) = false := dgB_no (by have h9 := h13; simpa using h9)
     unfold textOk; rw [all_no (by omega) hdg, Bool.and_false]; rfl
   refine WC.r1 hs12 [] rfl (WC.ret (tkR (ibR (tkR (tkR (ibR (tkR ?_)))))))
   clear hK9 hK8 hK4
   refine retV2 rfl (resV.tmp rfl) (resV.tmp rfl) (⟨congrArg Ending.returned ?_, hs12.nil⟩)
   rw [hk, textV_n hk]
  have hdg : dgB (sbyte s i) = true := dgB_yes (by have h9 := h13; simpa using h9)
  have hdi := dgB_iff.1 hdg
  have hwr : IntKind.u8.wrap (((sbyte s i).toNat : Int) - 48) = ((sbyte s i).toNat : Int) - 48 := by simp [IntKind.wrap, IntKind.bits, IntKind.signed]; omega
  refine WC.skip (hK9 _ _ (WC.region (WL.r 4 hs12 [] rfl ?_)))
  refine WL.val rfl rfl rfl (Run.idxStrN Tryz.runUnderlying9 rfl rfl rfl ?_ ?_) ?_
  · omega
  · omega
  refine WL.val rfl rfl rfl (Run.subW rfl rfl rfl) (WL.r 3 hs12 [] rfl (WL.nil (hK8 _ _ (WC.region (WL.r 3 hs12 [] rfl (WL.nil (tkN ?_)))))))
  refine ⟨sbF rfl, hs12, _, ?_, i + 1, rfl, ?_, ?_, ⟨rfl, ?_, trivial⟩⟩
  · omega
  · omega
  · rw [all_take (by omega), p1, hdg]; rfl
  · (rw [decL_take (by omega)]; refine congrArg some (congrArg (Value.int _) ?_); have h9 := (dgB_iff.1 hdg); omega)
 refine WC.exit (hK4 _ _ (WC.seq (fun K14 hK14 => WC.sr (WL.r 1 hs5 [] rfl (WL.cl Tryz.call148 rfl (k13_ _ _) ?_)))))
 rintro _ whs15 ⟨rfl, hs15⟩
 replace hs15 := hs5.call0 hs15
 refine ⟨_, rfl, WL.r 2 hs15 [] rfl (WL.nil (WC.cq rfl (fun h16 qh16 => ?_) (fun h16 qh16 => ?_)))⟩
 ·have hi : s.data.toList.take i = s.data.toList := List.take_of_length_le (by rw [← Go.Lib.size_eq]; omega)
  have hk : textOk s = false := by unfold textOk; have h9 := h16; rw [hi] at h9; rw [decide_eq_false (show ¬ numBA (decL s.data.toList : Nat) = s from by simpa using h9), Bool.and_false]
  refine WC.r1 hs15 [] rfl (WC.ret (tkR ?_))
  clear hK14
  refine retV2 rfl (resV.tmp rfl) (resV.tmp rfl) (⟨congrArg Ending.returned ?_, hs15.nil⟩)
  rw [hk, textV_n hk]
 have hi : s.data.toList.take i = s.data.toList := List.take_of_length_le (by rw [← Go.Lib.size_eq]; omega)
 have hk : textOk s = true := by unfold textOk; have h9 := h16; rw [hi] at h9 p1; rw [p1, (within_iff (n := (s.size : Int)) (lo := 1) (hi := 10)).2 (by omega), decide_eq_true (show numBA (decL s.data.toList : Nat) = s from by simpa using h9)]; rfl
 refine WC.skip (hK14 _ _ (WC.r1 hs15 [] rfl (WC.ret (retV2 rfl (resV.tmp rfl) (resV.tmp rfl) (⟨congrArg Ending.returned ?_, hs15.nil⟩)))))
 rw [hk, hi]; unfold textV; rw [hk]; rfl
theorem k117_ (name : ByteArray) (w : World) (hz : name.size ≤ 16) :
    Calls Tryz.prog 70 #[.string name] w fun e w' => e = .returned (.tuple #[.int .i64 (genV name), .bool (genOk name)]) ∧ St w [] [] w' := by
 refine enter 40 Tryz.func70 rfl Tryz.ntmps70 rfl rfl ?_
 have hs1 := St.init w
 refine WC.r1 hs1 [] rfl (WC.seq (fun K2 hK2 => WC.r1 hs1 [] rfl (WC.block ?_)))
 refine WC.lS [0] rfl hs1 (fun k_ f w' => ∃ (i : Nat), k_ = name.size - i ∧ (i ≤ name.size) ∧ (∀ j, j < i → sbyte name j = 46 → genB name (name.extract (j + 1) name.size) = false) ∧ Sub [(4, .int .i64 i)] f) ((fun (i : Nat) => name.size - i) (0)) ?_ ?_
 ·refine ⟨0, rfl, ?_, ?_, ⟨rfl, trivial⟩⟩
  · exact Nat.zero_le _
  · exact fun j hj => absurd hj (by omega)
 clear hs1
 rintro _ f w ⟨i, rfl, p0, p1, hG⟩ hF hs3
 refine WC.sub _ (hG.app hF) ?_
 clear hG hF
 refine WC.seq (fun K4 hK4 => WC.r1 hs3 [] rfl ?_)
 refine WC.cq rfl (fun h5 qh5 => ?_) (fun h5 qh5 => ?_)
 ·refine WC.skip (hK4 _ _ (WC.seq (fun K6 hK6 => WC.block (WC.sr (WL.r 2 hs3 [] rfl ?_)))))
  refine WL.val rfl rfl rfl (Run.idxStrN Tryz.runUnderlying9 rfl rfl rfl ?_ ?_) ?_
  · omega
  · omega
  refine WL.r 1 hs3 [] rfl (WL.nil (WC.cq rfl (fun h7 qh7 => ?_) (fun h7 qh7 => ?_)))
  ·refine WC.sr (WL.r 3 hs3 [] rfl (WL.val rfl rfl rfl (Run.sliceStrL (i + 1) Tryz.runUnderlying9 rfl rfl rfl rfl ?_) ?_))
   · omega
   refine WL.cl Tryz.call124 rfl (k116_ _ _ ?_) ?_
   · first | assumption | rfl | omega | (rw [Go.Lib.size_eq, extract_data, List.length_drop, ← Go.Lib.size_eq]; omega)
   rintro _ whs8 ⟨rfl, hs8⟩
   replace hs8 := hs3.call0 hs8
   refine ⟨_, rfl, WL.r 5 hs8 [] rfl (WL.nil (WC.sr (WL.r 3 hs8 [] rfl ?_)))⟩
   apply WL.gA 10 Acts.nil hs8 rfl
   ·intro g9 J10
    have qg9 := g9
    try simp only [bf, within_iff, within_not] at qg9
    refine WL.runA tbk 1 (Acts.nil.cons (j := 2) rfl g9) hs8 [] rfl trivial (WL.call (wantT rfl g9) rfl rfl (Run.call Tryz.call68 rfl rfl rfl) (k19_ _ _) ?_)
    rintro _ whs11 ⟨rfl, hs11⟩
    replace hs11 := hs8.call0 hs11
    refine ⟨_, rfl, WL.runA tbk 3 (Acts.nil.cons (j := 2) rfl g9) hs11 [] rfl trivial ?_⟩
    apply WL.gO 4 (Acts.nil.cons (j := 2) rfl g9) hs11 rfl
    ·intro g12 J13
     have qg12 := g12
     try simp only [bf, within_iff, within_not] at qg12
     refine WL.runA tbk 1 (Acts.nil.cons (j := 7) rfl g12) hs11 [] rfl trivial (WL.call (wantF rfl g12) rfl rfl (Run.call Tryz.call41 rfl rfl rfl) (k18_ _ _) ?_)
     rintro _ whs14 ⟨rfl, hs14⟩
     replace hs14 := hs11.call0 hs14
     refine ⟨_, rfl, WL.runA tbk 2 (Acts.nil.cons (j := 7) rfl g12) hs14 [] rfl trivial (WL.eO 4 (Acts.nil.cons (j := 2) rfl g9) J13 hs14 g12 rfl rfl)⟩
    intro _ hs15
    exact WL.eA 6 Acts.nil J10 hs15 g9 rfl rfl
   intro _ hs16
   refine WL.nil (WC.cq rfl (fun h17 qh17 => ?_) (fun h17 qh17 => ?_))
   ·have hg := gen_cond_yes (s := name) (t := (name.extract (i + 1) name.size)) (by omega) (by have h9 := h17; unfold snapName logName; simpa using h9)
    obtain ⟨_, hk, hv⟩ := genB_cut hg
    refine WC.r1 hs16 [] rfl (WC.ret (ibR (tkR (tkR (ibR (tkR ?_))))))
    clear hK6 hK2
    refine retV2 rfl (resV.tmp rfl) (resV.tmp rfl) (⟨congrArg Ending.returned ?_, hs16.nil⟩)
    rw [hk, hv]
   have hno : sbyte name i = 46 → genB name (name.extract (i + 1) name.size) = false := fun _ => gen_cond_no (by have h9 := h17; unfold snapName logName; simpa using h9)
   refine WC.skip (hK6 _ _ (WC.region (WL.r 3 hs16 [] rfl (WL.nil (tkN ?_)))))
   refine ⟨sbF rfl, hs16, _, ?_, i + 1, rfl, ?_, ?_, ⟨rfl, trivial⟩⟩
   · omega
   · omega
   · exact step_no p1 hno
  have hno : sbyte name i = 46 → genB name (name.extract (i + 1) name.size) = false := fun h8 => by have h9 := h7; rw [h8] at h9; simp at h9
  refine WC.skip (hK6 _ _ (WC.region (WL.r 3 hs3 [] rfl (WL.nil (tkN ?_)))))
  refine ⟨sbF rfl, hs3, _, ?_, i + 1, rfl, ?_, ?_, ⟨rfl, trivial⟩⟩
  · omega
  · omega
  · exact step_no p1 hno
 refine WC.exit (hK2 _ _ (WC.r1 hs3 [] rfl (WC.ret (retV2 rfl (resV.tmp rfl) (resV.tmp rfl) (⟨congrArg Ending.returned ?_, hs3.nil⟩)))))
 have hk : genOk name = false := gen_none (fun j hj => p1 j (by omega)); rw [hk]; unfold genV; rw [hk]; rfl
theorem k118_ (b_s : Nat) (s : starterR) (L_s : Hp) (g1 : Int) (A_data : Option Addr) (n_data c_data : Nat) (data : List UInt8) (w : World) (hb_s : w.heap[b_s]? = some (Obj.cells (List.toArray [i64 s.depot.Disk.Room, i64 s.depot.Disk.Fuse, i64 s.depot.Disk.Next, .slice s.depot.Disk.Files.A s.depot.Disk.Files.n s.depot.Disk.Files.c, .slice s.depot.Disk.Kept.A s.depot.Disk.Kept.n s.depot.Disk.Kept.c, .slice s.depot.Disk.Turns.A s.depot.Disk.Turns.n s.depot.Disk.Turns.c, i64 s.depot.Gen, i64 s.depot.Seq, i64 s.depot.Size, .bool s.depot.Stuck, i64 s.code]) 109 (0, 0))) (o_s : ownstarterR s L_s) (h_s : Hh w L_s) (f_data : SlF encB w A_data n_data data) (hcd : n_data ≤ c_data) (hd_ : (b_s :: L_s.map (·.1)).Nodup) (s_data : 0 < n_data → (adr A_data).block ∉ (b_s :: L_s.map (·.1))) (hb : totDisk s.dat.depot.Disk ≤ 1048576) (hk : diskOk s.dat.depot.Disk = true) (hl9 : LibOk w) (hfar : far (b_s :: L_s.map (·.1))) (hgn : isGenB g1 = true) (hn : n_data ≤ 400000) :
    Calls Tryz.prog 76 #[.pointer (some ⟨b_s, 0, none⟩), i64 g1, .slice A_data n_data c_data] w fun e w' => ∃ r L1, e = .returned (.tuple #[]) ∧ St w (b_s :: L_s.map (·.1)) ([(b_s, Obj.cells (List.toArray [i64 r.depot.Disk.Room, i64 r.depot.Disk.Fuse, i64 r.depot.Disk.Next, .slice r.depot.Disk.Files.A r.depot.Disk.Files.n r.depot.Disk.Files.c, .slice r.depot.Disk.Kept.A r.depot.Disk.Kept.n r.depot.Disk.Kept.c, .slice r.depot.Disk.Turns.A r.depot.Disk.Turns.n r.depot.Disk.Turns.c, i64 r.depot.Gen, i64 r.depot.Seq, i64 r.depot.Size, .bool r.depot.Stuck, i64 r.code]) 109 (0, 0))] ++ L1) w' ∧ ownstarterR r L1 ∧ r.dat = setS s.dat (tailS (fillS (stp (gone (gone (stp (sd s.dat) opY) tempP) (logName g1)) opY) data) g1) := by
 have hsm := start_sm hb
 have hln9 := f_data.len
 have hdl : data.length ≤ 400000 := by omega
 have hlz := logName_size g1
 have hsz := snapName_size g1
 refine enter 63 Tryz.func76 rfl Tryz.ntmps76 rfl rfl ?_
 have hs1 := St.takeP w b_s _ L_s hb_s h_s hd_
 refine WC.sr (WL.r 1 hs1 [] rfl ?_)
 have hF2 := ((hs1.fr L_s).fb b_s)
 refine WL.cl Tryz.call130 rfl (k110_ _ s _ _ (St.headP hF2) o_s (St.ownP hF2) (St.nodupP hF2) ?_) ?_
 · first | assumption | rfl | omega | decide | exact hb | exact hbr | exact hqr | exact (lib_lent hl9 (by assumption) hfar).1 | exact lib_lent hl9 (by assumption) hfar | exact Nat.le_trans hlz (by decide) | exact Nat.le_trans hsz (by decide) | exact Nat.le_trans hz9 (by decide) | exact hz9 | exact Nat.zero_le _
 rintro _ whs3 ⟨r4, L5, rfl, hs3, ho6, hd7⟩
 replace hs3 := St.lendP hF2 hs3
 refine ⟨_, rfl, ?_⟩
 have hS1 : starterR.dat r4 = setS s.dat (stp (sd s.dat) opY) := hd7.trans (congrArg (a₂ := setS s.dat (sd s.dat)) (fun q => setS q (stp (sd q) opY)) (by exact rfl))
 have hk1 : diskOk (stp (sd s.dat) opY).1 = true := stp_ok hk opY_ok
 have hb1 : totDisk (starterR.dat r4).depot.Disk ≤ 1048576 := by rw [hS1]; exact ok_tot hk1
 have hq1 : diskOk (starterR.dat r4).depot.Disk = true := by rw [hS1]; exact hk1
 refine WL.nil (WC.sr (WL.r 1 hs3 [] rfl ?_))
 have hF8 := ((hs3.fr L5).fb b_s)
 refine WL.cl Tryz.call131 rfl (k109_ _ r4 _ _ _ (St.headP hF8) ho6 (St.ownP hF8) (St.nodupP hF8) ?_ ?_ ?_) ?_
 iterate 3 first | assumption | rfl | omega | decide | exact hb1 | exact hq1 | exact hbr | exact hqr | exact (lib_lent hl9 (by assumption) hfar).1 | exact lib_lent hl9 (by assumption) hfar | exact Nat.le_trans hlz (by decide) | exact Nat.le_trans hsz (by decide) | exact Nat.le_trans hz9 (by decide) | exact hz9 | exact Nat.zero_le _
 rintro _ whs9 ⟨r10, L11, rfl, hs9, ho12, hd13⟩
 replace hs9 := St.lendP hF8 hs9
 refine ⟨_, rfl, ?_⟩
 have hS2 : starterR.dat r10 = setS s.dat (gone (stp (sd s.dat) opY) tempP) := hd13.trans (congrArg (a₂ := setS s.dat (stp (sd s.dat) opY)) (fun q => setS q (gone (sd q) tempP)) (by exact hS1))
 have hk2 : diskOk (gone (stp (sd s.dat) opY) tempP).1 = true := gone_ok hk1 temp_ok
 have hb2 : totDisk (starterR.dat r10).depot.Disk ≤ 1048576 := by rw [hS2]; exact ok_tot hk2
 have hq2 : diskOk (starterR.dat r10).depot.Disk = true := by rw [hS2]; exact hk2
 refine WL.nil (WC.sr (WL.r 2 hs9 [] rfl (WL.cl Tryz.call44 rfl (k15_ _ _ ?_) ?_)))
 · first | assumption | rfl | omega | decide | exact hb2 | exact hq2 | exact hbr | exact hqr | exact (lib_lent hl9 (by assumption) hfar).1 | exact lib_lent hl9 (by assumption) hfar | exact Nat.le_trans hlz (by decide) | exact Nat.le_trans hsz (by decide) | exact Nat.le_trans hz9 (by decide) | exact hz9 | exact Nat.zero_le _
 rintro _ whs14 ⟨rfl, hs14⟩
 replace hs14 := hs9.call0 hs14
 refine ⟨_, rfl, ?_⟩
 have hF15 := ((hs14.fr L11).fb b_s)
 refine WL.cl Tryz.call131 rfl (k109_ _ r10 _ _ _ (St.headP hF15) ho12 (St.ownP hF15) (St.nodupP hF15) ?_ ?_ ?_) ?_
 iterate 3 first | assumption | rfl | omega | decide | exact hb2 | exact hq2 | exact hbr | exact hqr | exact (lib_lent hl9 (by assumption) hfar).1 | exact lib_lent hl9 (by assumption) hfar | exact Nat.le_trans hlz (by decide) | exact Nat.le_trans hsz (by decide) | exact Nat.le_trans hz9 (by decide) | exact hz9 | exact Nat.zero_le _
 rintro _ whs16 ⟨r17, L18, rfl, hs16, ho19, hd20⟩
 replace hs16 := St.lendP hF15 hs16
 refine ⟨_, rfl, ?_⟩
 have hS3 : starterR.dat r17 = setS s.dat (gone (gone (stp (sd s.dat) opY) tempP) (logName g1)) := hd20.trans (congrArg (a₂ := setS s.dat (gone (stp (sd s.dat) opY) tempP)) (fun q => setS q (gone (sd q) (logName g1))) (by exact hS2))
 have hk3 : diskOk (gone (gone (stp (sd s.dat) opY) tempP) (logName g1)).1 = true := gone_ok hk2 (log_ok hgn)
 have hb3 : totDisk (starterR.dat r17).depot.Disk ≤ 1048576 := by rw [hS3]; exact ok_tot hk3
 have hq3 : diskOk (starterR.dat r17).depot.Disk = true := by rw [hS3]; exact hk3
 refine WL.nil (WC.sr (WL.r 1 hs16 [] rfl ?_))
 have hF21 := ((hs16.fr L18).fb b_s)
 refine WL.cl Tryz.call130 rfl (k110_ _ r17 _ _ (St.headP hF21) ho19 (St.ownP hF21) (St.nodupP hF21) ?_) ?_
 · first | assumption | rfl | omega | decide | exact hb3 | exact hq3 | exact hbr | exact hqr | exact (lib_lent hl9 (by assumption) hfar).1 | exact lib_lent hl9 (by assumption) hfar | exact Nat.le_trans hlz (by decide) | exact Nat.le_trans hsz (by decide) | exact Nat.le_trans hz9 (by decide) | exact hz9 | exact Nat.zero_le _
 rintro _ whs22 ⟨r23, L24, rfl, hs22, ho25, hd26⟩
 replace hs22 := St.lendP hF21 hs22
 refine ⟨_, rfl, ?_⟩
 have hS4 : starterR.dat r23 = setS s.dat (stp (gone (gone (stp (sd s.dat) opY) tempP) (logName g1)) opY) := hd26.trans (congrArg (a₂ := setS s.dat (gone (gone (stp (sd s.dat) opY) tempP) (logName g1))) (fun q => setS q (stp (sd q) opY)) (by exact hS3))
 have hk4 : diskOk (stp (gone (gone (stp (sd s.dat) opY) tempP) (logName g1)) opY).1 = true := stp_ok hk3 opY_ok
 have hb4 : totDisk (starterR.dat r23).depot.Disk ≤ 1048576 := by rw [hS4]; exact ok_tot hk4
 have hq4 : diskOk (starterR.dat r23).depot.Disk = true := by rw [hS4]; exact hk4
 refine WL.nil (WC.sr (WL.r 2 hs22 [] rfl ?_))
 have hF27 := ((hs22.fr L24).fb b_s)
 refine WL.cl Tryz.call132 rfl (k111_ _ r23 _ _ _ _ _ _ (St.headP hF27) ho25 (St.ownP hF27) (SlF.st f_data hs22 s_data) (by first | assumption | omega | simp) (St.nodupP hF27) (St.sepTP hF27 f_data s_data) ?_ ?_ ?_) ?_
 iterate 3 first | assumption | rfl | omega | decide | exact hb4 | exact hq4 | exact hbr | exact hqr | exact (lib_lent hl9 (by assumption) hfar).1 | exact lib_lent hl9 (by assumption) hfar | exact Nat.le_trans hlz (by decide) | exact Nat.le_trans hsz (by decide) | exact Nat.le_trans hz9 (by decide) | exact hz9 | exact Nat.zero_le _
 rintro _ whs28 ⟨r29, L30, rfl, hs28, ho31, hd32⟩
 replace hs28 := St.lendP hF27 hs28
 refine ⟨_, rfl, ?_⟩
 have hS5 : starterR.dat r29 = setS s.dat (stp (fillS (stp (gone (gone (stp (sd s.dat) opY) tempP) (logName g1)) opY) data) (syncOp tempP)) := hd32.trans (congrArg (a₂ := setS s.dat (stp (gone (gone (stp (sd s.dat) opY) tempP) (logName g1)) opY)) (fun q => setS q (stp (fillS (sd q) data) (syncOp tempP))) (by exact hS4))
 have hk5 : diskOk (stp (fillS (stp (gone (gone (stp (sd s.dat) opY) tempP) (logName g1)) opY) data) (syncOp tempP)).1 = true := stp_ok (fill_ok hk4 hdl) (opS_ok temp_ok)
 have hb5 : totDisk (starterR.dat r29).depot.Disk ≤ 1048576 := by rw [hS5]; exact ok_tot hk5
 have hq5 : diskOk (starterR.dat r29).depot.Disk = true := by rw [hS5]; exact hk5
 refine WL.nil (WC.sr (WL.r 2 hs28 [] rfl (WL.cl Tryz.call115 rfl (k16_ _ _ ?_) ?_)))
 · first | assumption | rfl | omega | decide | exact hb5 | exact hq5 | exact hbr | exact hqr | exact (lib_lent hl9 (by assumption) hfar).1 | exact lib_lent hl9 (by assumption) hfar | exact Nat.le_trans hlz (by decide) | exact Nat.le_trans hsz (by decide) | exact Nat.le_trans hz9 (by decide) | exact hz9 | exact Nat.zero_le _
 rintro _ whs33 ⟨rfl, hs33⟩
 replace hs33 := hs28.call0 hs33
 refine ⟨_, rfl, ?_⟩
 have hF34 := ((hs33.fr L30).fb b_s)
 refine WL.cl Tryz.call133 rfl (k108_ _ r29 _ _ _ _ _ _ _ _ _ (St.headP hF34) ho31 (St.ownP hF34) (SlF.nil _ _) (by first | assumption | omega | simp) (St.nodupP hF34) (fun h_ => absurd h_ (by omega)) ?_ ?_ ?_ ?_) ?_
 iterate 4 first | assumption | rfl | omega | decide | exact hb5 | exact hq5 | exact hbr | exact hqr | exact (lib_lent hl9 (by assumption) hfar).1 | exact lib_lent hl9 (by assumption) hfar | exact Nat.le_trans hlz (by decide) | exact Nat.le_trans hsz (by decide) | exact Nat.le_trans hz9 (by decide) | exact hz9 | exact Nat.zero_le _
 rintro _ whs35 ⟨r36, L37, rfl, hs35, ho38, hd39⟩
 replace hs35 := St.lendP hF34 hs35
 refine ⟨_, rfl, ?_⟩
 have hS6 : starterR.dat r36 = setS s.dat (stp (stp (fillS (stp (gone (gone (stp (sd s.dat) opY) tempP) (logName g1)) opY) data) (syncOp tempP)) (opM tempP (snapName g1))) := hd39.trans (congrArg (a₂ := setS s.dat (stp (fillS (stp (gone (gone (stp (sd s.dat) opY) tempP) (logName g1)) opY) data) (syncOp tempP))) (fun q => setS q (stp (sd q) (opM tempP (snapName g1)))) (by exact hS5))
 have hk6 : diskOk (stp (stp (fillS (stp (gone (gone (stp (sd s.dat) opY) tempP) (logName g1)) opY) data) (syncOp tempP)) (opM tempP (snapName g1))).1 = true := stp_ok hk5 (opM_ok temp_ok (snap_ok hgn))
 have hb6 : totDisk (starterR.dat r36).depot.Disk ≤ 1048576 := by rw [hS6]; exact ok_tot hk6
 have hq6 : diskOk (starterR.dat r36).depot.Disk = true := by rw [hS6]; exact hk6
 refine WL.nil (WC.sr (WL.r 2 hs35 [] rfl (WL.cl Tryz.call44 rfl (k15_ _ _ ?_) ?_)))
 · first | assumption | rfl | omega | decide | exact hb6 | exact hq6 | exact hbr | exact hqr | exact (lib_lent hl9 (by assumption) hfar).1 | exact lib_lent hl9 (by assumption) hfar | exact Nat.le_trans hlz (by decide) | exact Nat.le_trans hsz (by decide) | exact Nat.le_trans hz9 (by decide) | exact hz9 | exact Nat.zero_le _
 rintro _ whs40 ⟨rfl, hs40⟩
 replace hs40 := hs35.call0 hs40
 refine ⟨_, rfl, ?_⟩
 have hF41 := ((hs40.fr L37).fb b_s)
 refine WL.cl Tryz.call133 rfl (k108_ _ r36 _ _ _ _ _ _ _ _ _ (St.headP hF41) ho38 (St.ownP hF41) (SlF.nil _ _) (by first | assumption | omega | simp) (St.nodupP hF41) (fun h_ => absurd h_ (by omega)) ?_ ?_ ?_ ?_) ?_
 iterate 4 first | assumption | rfl | omega | decide | exact hb6 | exact hq6 | exact hbr | exact hqr | exact (lib_lent hl9 (by assumption) hfar).1 | exact lib_lent hl9 (by assumption) hfar | exact Nat.le_trans hlz (by decide) | exact Nat.le_trans hsz (by decide) | exact Nat.le_trans hz9 (by decide) | exact hz9 | exact Nat.zero_le _
 rintro _ whs42 ⟨r43, L44, rfl, hs42, ho45, hd46⟩
 replace hs42 := St.lendP hF41 hs42
 refine ⟨_, rfl, ?_⟩
 have hS7 : starterR.dat r43 = setS s.dat (stp (stp (stp (fillS (stp (gone (gone (stp (sd s.dat) opY) tempP) (logName g1)) opY) data) (syncOp tempP)) (opM tempP (snapName g1))) (opC (logName g1))) := hd46.trans (congrArg (a₂ := setS s.dat (stp (stp (fillS (stp (gone (gone (stp (sd s.dat) opY) tempP) (logName g1)) opY) data) (syncOp tempP)) (opM tempP (snapName g1)))) (fun q => setS q (stp (sd q) (opC (logName g1)))) (by exact hS6))
 have hk7 : diskOk (stp (stp (stp (fillS (stp (gone (gone (stp (sd s.dat) opY) tempP) (logName g1)) opY) data) (syncOp tempP)) (opM tempP (snapName g1))) (opC (logName g1))).1 = true := stp_ok hk6 (opC_ok (log_ok hgn))
 have hb7 : totDisk (starterR.dat r43).depot.Disk ≤ 1048576 := by rw [hS7]; exact ok_tot hk7
 have hq7 : diskOk (starterR.dat r43).depot.Disk = true := by rw [hS7]; exact hk7
 refine WL.nil (WC.sr (WL.r 1 hs42 [] rfl ?_))
 have hF47 := ((hs42.fr L44).fb b_s)
 refine WL.cl Tryz.call130 rfl (k110_ _ r43 _ _ (St.headP hF47) ho45 (St.ownP hF47) (St.nodupP hF47) ?_) ?_
 · first | assumption | rfl | omega | decide | exact hb7 | exact hq7 | exact hbr | exact hqr | exact (lib_lent hl9 (by assumption) hfar).1 | exact lib_lent hl9 (by assumption) hfar | exact Nat.le_trans hlz (by decide) | exact Nat.le_trans hsz (by decide) | exact Nat.le_trans hz9 (by decide) | exact hz9 | exact Nat.zero_le _
 rintro _ whs48 ⟨r49, L50, rfl, hs48, ho51, hd52⟩
 replace hs48 := St.lendP hF47 hs48
 refine ⟨_, rfl, ?_⟩
 have hS8 : starterR.dat r49 = setS s.dat (stp (stp (stp (stp (fillS (stp (gone (gone (stp (sd s.dat) opY) tempP) (logName g1)) opY) data) (syncOp tempP)) (opM tempP (snapName g1))) (opC (logName g1))) opY) := hd52.trans (congrArg (a₂ := setS s.dat (stp (stp (stp (fillS (stp (gone (gone (stp (sd s.dat) opY) tempP) (logName g1)) opY) data) (syncOp tempP)) (opM tempP (snapName g1))) (opC (logName g1)))) (fun q => setS q (stp (sd q) opY)) (by exact hS7))
 have hk8 : diskOk (stp (stp (stp (stp (fillS (stp (gone (gone (stp (sd s.dat) opY) tempP) (logName g1)) opY) data) (syncOp tempP)) (opM tempP (snapName g1))) (opC (logName g1))) opY).1 = true := stp_ok hk7 opY_ok
 have hb8 : totDisk (starterR.dat r49).depot.Disk ≤ 1048576 := by rw [hS8]; exact ok_tot hk8
 have hq8 : diskOk (starterR.dat r49).depot.Disk = true := by rw [hS8]; exact hk8
 have hT : starterR.dat r49 = setS s.dat (tail1 (fillS (stp (gone (gone (stp (sd s.dat) opY) tempP) (logName g1)) opY) data) g1) := hS8
 have hkT : diskOk (tail1 (fillS (stp (gone (gone (stp (sd s.dat) opY) tempP) (logName g1)) opY) data) g1).1 = true := hk8
 have hDT := diskOk_P hkT
 have eD : (dirD (DiskR.dat (starterR.depot r49).Disk)) = (dirD (tail1 (fillS (stp (gone (gone (stp (sd s.dat) opY) tempP) (logName g1)) opY) data) g1).1) := congrArg (fun q : starterD => dirD q.depot.Disk) hT
 have hdl9 : (dirD (DiskR.dat (starterR.depot r49).Disk)).length ≤ 40 := by rw [eD]; exact Nat.le_trans turnsL_len (by have h9 := hDT.small; omega)
 have hsm9 := start_sm hb8
 rw [hd52] at hsm9
 refine WL.nil (WC.seq (fun K53 hK53 => WC.sr (WL.r 5 hs48 [0] rfl ?_)))
 refine WL.cl Tryz.call134 rfl (k76_ r49.depot.Disk _ (ownstarterR.ok (B := 549755813888) ho51 (hs48.ow L50) (by rw [hd52]; assumption)).depot.Disk ?_) ?_
 · first | assumption | rfl | omega | decide | exact hb8 | exact hq8 | exact hbr | exact hqr | exact (lib_lent hl9 (by assumption) hfar).1 | exact lib_lent hl9 (by assumption) hfar | exact Nat.le_trans hlz (by decide) | exact Nat.le_trans hsz (by decide) | exact Nat.le_trans hz9 (by decide) | exact hz9 | exact Nat.zero_le _
 rintro _ whs54 ⟨A55, c56, L1_57, rfl, hs54, ho58⟩
 replace hs54 := hs48.callF hs54
 refine ⟨_, rfl, ?_⟩
 replace hs54 := St.back [_] hs54
 refine WL.r 2 hs54 [] rfl (WL.nil (WC.block ?_))
 have hM63 := (St.grp1 (L1 := L50) [_] (((hs54.fr L1_57).fr L50).fb b_s))
 refine WC.lV [0, 1, 38, 39] rfl hM63 (fun k_ (a_ : Hp) f => ∃ (i : Nat) (r : starterR) (L61 : Hp), k_ = (dirD (DiskR.dat (starterR.depot r49).Disk)).length - i ∧ a_ = [(b_s, .cells (List.toArray [i64 r.depot.Disk.Room, i64 r.depot.Disk.Fuse, i64 r.depot.Disk.Next, .slice r.depot.Disk.Files.A r.depot.Disk.Files.n r.depot.Disk.Files.c, .slice r.depot.Disk.Kept.A r.depot.Disk.Kept.n r.depot.Disk.Kept.c, .slice r.depot.Disk.Turns.A r.depot.Disk.Turns.n r.depot.Disk.Turns.c, i64 r.depot.Gen, i64 r.depot.Seq, i64 r.depot.Size, .bool r.depot.Stuck, i64 r.code]) 109 (0, 0))] ++ L61 ∧ (i ≤ (dirD (DiskR.dat (starterR.depot r49).Disk)).length) ∧ (starterR.dat r = setS s.dat (sweepS (tail1 (fillS (stp (gone (gone (stp (sd s.dat) opY) tempP) (logName g1)) opY) data) g1) g1 ((dirD (DiskR.dat (starterR.depot r49).Disk)).take i))) ∧ ownstarterR r L61 ∧ Sub [(40, .int .i64 i)] f) (((fun (i : Nat) => (dirD (DiskR.dat (starterR.depot r49).Disk)).length - i) (0))) ?_ ?_
 ·refine ⟨0, r49, L50, rfl, rfl, ?_, ?_, ho51, ⟨rfl, trivial⟩⟩
  · exact Nat.zero_le _
  · exact hT
 rintro _ _ f w ⟨i, r, L61, rfl, rfl, p0, p1, ho62, hG⟩ hF hs64
 refine WC.sub _ (hG.app hF) ?_
 clear hG hF
 replace hs64 := St.ungrp1 [_] hs64
 have hkr : diskOk (sweepS (tail1 (fillS (stp (gone (gone (stp (sd s.dat) opY) tempP) (logName g1)) opY) data) g1) g1 ((dirD (DiskR.dat (starterR.depot r49).Disk)).take i)).1 = true := sweep_ok hkT (fun x hx => hDT.names x (by rw [← eD]; exact List.mem_of_mem_take hx))
 have hbr : totDisk (starterR.dat r).depot.Disk ≤ 1048576 := by rw [p1]; exact ok_tot hkr
 have hqr : diskOk (starterR.dat r).depot.Disk = true := by rw [p1]; exact hkr
 have hsmr := start_sm hbr
 refine WC.r1 hs64 [] rfl (WC.seq (fun K65 hK65 => ?_))
 refine WC.cq rfl (fun h66 qh66 => ?_) (fun h66 qh66 => ?_)
 ·have hi9 : i < (dirD (DiskR.dat (starterR.depot r49).Disk)).length := by have h9 := h66; simp at h9; omega
  have hnm9 : nameOk (gat encLink (dirD (DiskR.dat (starterR.depot r49).Disk)) i).Name = true := hDT.names _ (by rw [← eD]; exact gat_mem hi9)
  have hz9 := nameOk_size hnm9
  refine WC.skip (hK65 _ _ (WC.seq (fun K67 hK67 => WC.block (WC.sr ?_))))
  refine WL.val rfl rfl rfl (Run.idxK (i) Tryz.runUnderlying31 Tryz.sizeOf101 rfl rfl rfl ?_ ?_ ?_) ?_
  · exact SlF.some_ (SlF.ofOwn ho58 (hs64.ow L1_57))
  · omega
  · omega
  refine WL.val rfl rfl rfl (Run.loadA Tryz.isAgg101 Tryz.sizeOf101 rfl rfl (SlF.whole (SlF.ofOwn ho58 (hs64.ow L1_57)) ?_)) ?_
  · omega
  refine WL.al hs64 Tryz.zeroValue101 rfl rfl (fun b68 _ hs69 => WL.st tbk hs69 0 rfl rfl (fun _ hs70 => WL.nil (WC.sr (WL.r 2 hs70 [0] rfl ?_))))
  refine WL.cl Tryz.call114 rfl (k115_ _ _ ?_ ?_) ?_
  iterate 2 first | assumption | rfl | omega | decide | exact hb8 | exact hq8 | exact hbr | exact hqr | exact (lib_lent hl9 (by assumption) hfar).1 | exact lib_lent hl9 (by assumption) hfar | exact Nat.le_trans hlz (by decide) | exact Nat.le_trans hsz (by decide) | exact Nat.le_trans hz9 (by decide) | exact hz9 | exact Nat.zero_le _
  rintro _ whs71 ⟨rfl, hs71⟩
  replace hs71 := hs70.call0 hs71
  refine ⟨_, rfl, WL.r 5 hs71 [] rfl (WL.nil (WC.sr (WL.r 2 hs71 [] rfl (WL.pA tbk 3 Acts.nil hs71 [] rfl rfl rfl rfl (fun g_ => trivial) (WL.nil (WC.cq rfl (fun h72 qh72 => ?_) (fun h72 qh72 => ?_)))))))⟩
  ·have hcx : (genOk (gat encLink (dirD (DiskR.dat (starterR.depot r49).Disk)) i).Name && !decide (genV (gat encLink (dirD (DiskR.dat (starterR.depot r49).Disk)) i).Name = g1)) = true := h72
   refine WC.region (WL.r 3 hs71 [0] rfl ?_)
   have hF73 := ((hs71.fr L61).fb b_s)
   refine WL.cl Tryz.call133 rfl (k108_ _ r _ _ _ _ _ _ _ _ _ (St.headP hF73) ho62 (St.ownP hF73) (SlF.nil _ _) (by first | assumption | omega | simp) (St.nodupP hF73) (fun h_ => absurd h_ (by omega)) ?_ ?_ ?_ ?_) ?_
   iterate 4 first | assumption | rfl | omega | decide | exact hb8 | exact hq8 | exact hbr | exact hqr | exact (lib_lent hl9 (by assumption) hfar).1 | exact lib_lent hl9 (by assumption) hfar | exact Nat.le_trans hlz (by decide) | exact Nat.le_trans hsz (by decide) | exact Nat.le_trans hz9 (by decide) | exact hz9 | exact Nat.zero_le _
   rintro _ whs74 ⟨r75, L76, rfl, hs74, ho77, hd78⟩
   replace hs74 := St.lendP hF73 hs74
   refine ⟨_, rfl, ?_⟩
   have hs79 := ((hs74.fb b68).fb b_s)
   have hnx : starterR.dat r75 = setS s.dat (sweepS (tail1 (fillS (stp (gone (gone (stp (sd s.dat) opY) tempP) (logName g1)) opY) data) g1) g1 ((dirD (DiskR.dat (starterR.depot r49).Disk)).take (i + 1))) := hd78.trans ((congrArg (a₂ := setS s.dat (sweepS (tail1 (fillS (stp (gone (gone (stp (sd s.dat) opY) tempP) (logName g1)) opY) data) g1) g1 ((dirD (DiskR.dat (starterR.depot r49).Disk)).take i))) (fun q => setS q (stp (sd q) (opR (gat encLink (dirD (DiskR.dat (starterR.depot r49).Disk)) i).Name))) (by exact p1)).trans (by rw [sweep_take hi9]; unfold sweep1; rw [if_pos hcx]; rfl))
   refine WL.nil (hK67 _ _ (WC.region (WL.r 2 hs79 [] rfl (WL.nil (tkN ?_)))))
   replace hs79 := (hs79.fb b68).d1
   have hF80 := (St.grp1 (L1 := L76) [_] (((hs79.fr L1_57).fr L76).fb b_s))
   refine ⟨sbF rfl, _, hF80, _, ?_, i + 1, r75, L76, rfl, rfl, ?_, ?_, ho77, ⟨rfl, trivial⟩⟩
   · omega
   · omega
   · exact hnx
  have hcx : ¬ (genOk (gat encLink (dirD (DiskR.dat (starterR.depot r49).Disk)) i).Name && !decide (genV (gat encLink (dirD (DiskR.dat (starterR.depot r49).Disk)) i).Name = g1)) = true := by have h9 := h72; rw [h9]; decide
  have hnx : starterR.dat r = setS s.dat (sweepS (tail1 (fillS (stp (gone (gone (stp (sd s.dat) opY) tempP) (logName g1)) opY) data) g1) g1 ((dirD (DiskR.dat (starterR.depot r49).Disk)).take (i + 1))) := p1.trans (by rw [sweep_take hi9]; unfold sweep1; rw [if_neg hcx])
  refine WC.skip (hK67 _ _ (WC.region (WL.r 2 hs71 [] rfl (WL.nil (tkN ?_)))))
  replace hs71 := hs71.d1
  have hF81 := (St.grp1 (L1 := L61) [_] (((hs71.fr L1_57).fr L61).fb b_s))
  refine ⟨sbF rfl, _, hF81, _, ?_, i + 1, r, L61, rfl, rfl, ?_, ?_, ho62, ⟨rfl, trivial⟩⟩
  · omega
  · omega
  · exact hnx
 refine WC.exit (hK53 _ _ (WC.region (WL.r 1 hs64 [] rfl ?_)))
 have hF82 := ((hs64.fr L61).fb b_s)
 refine WL.cl Tryz.call130 rfl (k110_ _ r _ _ (St.headP hF82) ho62 (St.ownP hF82) (St.nodupP hF82) ?_) ?_
 · first | assumption | rfl | omega | decide | exact hb8 | exact hq8 | exact hbr | exact hqr | exact (lib_lent hl9 (by assumption) hfar).1 | exact lib_lent hl9 (by assumption) hfar | exact Nat.le_trans hlz (by decide) | exact Nat.le_trans hsz (by decide) | exact Nat.le_trans hz9 (by decide) | exact hz9 | exact Nat.zero_le _
 rintro _ whs83 ⟨r84, L85, rfl, hs83, ho86, hd87⟩
 replace hs83 := St.lendP hF82 hs83
 refine ⟨_, rfl, ?_⟩
 have hfin : starterR.dat r84 = setS s.dat (stp (sweepS (tail1 (fillS (stp (gone (gone (stp (sd s.dat) opY) tempP) (logName g1)) opY) data) g1) g1 (dirD (tail1 (fillS (stp (gone (gone (stp (sd s.dat) opY) tempP) (logName g1)) opY) data) g1).1)) opY) := hd87.trans (congrArg (a₂ := setS s.dat (sweepS (tail1 (fillS (stp (gone (gone (stp (sd s.dat) opY) tempP) (logName g1)) opY) data) g1) g1 (dirD (tail1 (fillS (stp (gone (gone (stp (sd s.dat) opY) tempP) (logName g1)) opY) data) g1).1))) (fun q => setS q (stp (sd q) opY)) (by rw [p1, List.take_of_length_le (by omega), eD]))
 refine WL.nil (retK0 rfl (⟨r84, _, rfl, St.keepP (L1 := L85) ((hs83.fr L85).fb b_s), ho86, ?_⟩))
 · exact hfin
end Go.Proofs.YtcpnlodkmkfplaaGreatDoor
