/-
  What the proof stands on, part 4.
-/
import Derived.Test.YtcpnlodkmkfplaaGreatDoorKP3
namespace Go.Proofs.YtcpnlodkmkfplaaGreatDoor
open Go Go.RowKit
set_option linter.unusedVariables false
set_option linter.unusedSimpArgs false
theorem k92_ (d : DiskR) (name : ByteArray) (w : World) (f_d : okDiskR 549755813888 w d) (hb : totDisk d.dat ≤ 1048576) :
    Calls Tryz.prog 58 #[.agg #[i64 d.Room, i64 d.Fuse, i64 d.Next, .slice d.Files.A d.Files.n d.Files.c, .slice d.Kept.A d.Kept.n d.Kept.c, .slice d.Turns.A d.Turns.n d.Turns.c], .string name] w fun e w' => ∃ A c L1, e = .returned (.tuple #[.slice A (readB d.dat name).length c, .bool (readOk d.dat name)]) ∧ St w [] L1 w' ∧ OwnF encB 5 (.slice A (readB d.dat name).length c) (readB d.dat name) L1 := by
 have nb_d_Files := f_d.Files_n
 have nl_d_Files := f_d.Files.sl.len
 have nb_d_Kept := f_d.Kept_n
 have nl_d_Kept := f_d.Kept.len
 have nb_d_Turns := f_d.Turns_n
 have nl_d_Turns := f_d.Turns.len
 refine enter 22 Tryz.func58 rfl Tryz.ntmps58 rfl rfl ?_
 have hs1 := St.init w
 refine WC.sr (WL.bx hs1 rfl (fun b2 _ hs3 => WL.r 2 hs3 [] rfl (WL.nil (WC.seq (fun K4 hK4 => WC.sr (WL.r 1 hs3 [0] rfl ?_))))))
 refine WL.cl Tryz.call56 rfl (k82_ d _ (okDiskR.st0 f_d hs3) ?_) ?_
 · first | assumption | rfl | omega
 rintro _ whs5 ⟨rfl, hs5⟩
 replace hs5 := hs3.call0 hs5
 refine ⟨_, rfl, WL.r 1 hs5 [] rfl (WL.nil (WC.cq rfl (fun h6 qh6 => ?_) (fun h6 qh6 => ?_)))⟩
 ·have hok : diskOk d.dat = false := by have h9 := h6; simpa using h9
  have hf : readOk d.dat name = false := by unfold readOk; rw [hok]; simp
  have hB : readB d.dat name = [] := if_neg (by rw [hf]; decide)
  refine WC.r1 hs5 [] rfl (WC.ret (tkR ?_))
  clear hK4
  refine retV2 rfl (resV.tmp rfl) (resV.tmp rfl) ?_
  rw [hf]
  have hx_ := OwnF.eqOf (xs := readB d.dat name) (OwnF.nil encB 5) (by rw [hB])
  rw [← hx_]
  exact ⟨_, _, _, rfl, hs5.nil, (OwnF.nil encB 5)⟩
 have hok : diskOk d.dat = true := by have h9 := h6; simpa using h9
 have hD := diskOk_P hok
 refine WC.skip (hK4 _ _ (WC.sr (WL.r 2 hs5 [0] rfl ?_)))
 refine WL.cl Tryz.call117 rfl (k87_ d _ _ (okDiskR.st0 f_d hs5) ?_) ?_
 · first | assumption | rfl | omega
 rintro _ whs7 ⟨rfl, hs7⟩
 replace hs7 := hs5.call0 hs7
 refine ⟨_, rfl, WL.r 1 hs7 [] rfl (WL.nil (WC.seq (fun K8 hK8 => WC.r1 hs7 [] rfl ?_)))⟩
 refine WC.cq rfl (fun h9 qh9 => ?_) (fun h9 qh9 => ?_)
 ·have hh : hasN (dirD d.dat) name = false := by
    cases hh : hasN (dirD d.dat) name with
    | false => rfl
    | true => have h9 := h9; rw [fileI_y hh] at h9; simp at h9; omega
  have hf : readOk d.dat name = false := by unfold readOk; rw [hh]; simp
  have hB : readB d.dat name = [] := if_neg (by rw [hf]; decide)
  refine WC.r1 hs7 [] rfl (WC.ret (tkR ?_))
  clear hK8
  refine retV2 rfl (resV.tmp rfl) (resV.tmp rfl) ?_
  rw [hf]
  have hx_ := OwnF.eqOf (xs := readB d.dat name) (OwnF.nil encB 5) (by rw [hB])
  rw [← hx_]
  exact ⟨_, _, _, rfl, hs7.nil, (OwnF.nil encB 5)⟩
 have hh : hasN (dirD d.dat) name = true := by
   cases hh : hasN (dirD d.dat) name with
   | true => rfl
   | false => have h9 := h9; rw [fileI_n hh] at h9; simp at h9
 have hf : readOk d.dat name = true := by unfold readOk; rw [hok, hh]; rfl
 have hfn := (hD.at hh).1
 have hfn2 : fileN d.dat name < d.Files.xs.length := by rw [← List.length_map (f := FileR.dat)]; exact hfn
 have hB : readB d.dat name = (gat encFileR d.Files.xs (fileN d.dat name)).Body.xs := by unfold readB; rw [if_pos hf, show fAt d.dat.Files (fileN d.dat name) = FileR.dat (gat encFileR d.Files.xs (fileN d.dat name)) from fAt_dat hfn2]; rfl
 have hyb := (f_d.Files.all _ (gat_mem (F := encFileR) (xs := d.Files.xs) (k := fileN d.dat name) hfn2)).Body.len
 have hyu : (gat encFileR d.Files.xs (fileN d.dat name)).Body.xs.length ≤ usedF d.dat.Files := usedF_gat hfn2
 have hul := hD.room.2.1
 have hfl9 := f_d.Files.sl.len
 have hfi := fileI_y hh
 refine WC.skip (hK8 _ _ (WC.sr (WL.r 3 hs7 [0] rfl ?_)))
 refine WL.val rfl rfl rfl (Run.idxK ((fileN d.dat name)) Tryz.runUnderlying30 Tryz.sizeOf123 rfl rfl rfl ?_ ?_ ?_) ?_
 · exact SlF.some_ (SlF.st0 f_d.Files.sl hs7)
 · omega
 · omega
 refine WL.val rfl rfl rfl (Run.fieldO Tryz.runUnderlying123 rfl rfl rfl Tryz.sizeOf43 rfl) (WL.val rfl rfl rfl (Run.load Tryz.isAgg43 rfl rfl (SlF.fld (SlF.st0 f_d.Files.sl hs7) ?_ rfl)) ?_)
 · omega
 refine WL.cl Tryz.call118 rfl (k90_ _ _ _ _ _ (SlF.st0 (SlN.nth f_d.Files (by omega)).Body hs7) ?_) ?_
 · first | assumption | rfl | omega
 rintro _ whs10 ⟨A11, c12, L1_13, rfl, hs10, ho14⟩
 replace hs10 := hs7.callF hs10
 refine ⟨_, rfl, ?_⟩
 replace hs10 := St.back [_] hs10
 refine WL.r 2 hs10 [] rfl (WL.nil (WC.ret (retV2 rfl (resV.tmp rfl) (resV.tmp rfl) ?_)))
 rw [hf]
 have hx_ := OwnF.eqOf (xs := readB d.dat name) ho14 (by rw [hB]; first | done | rfl | simp)
 rw [← hx_]
 first | exact ⟨_, _, _, rfl, (St.keep1 (hs10.fr L1_13)), ho14⟩ | exact ⟨A11, c12, _, by rw [OwnF.len_ ho14], (St.keep1 (hs10.fr L1_13)), by rw [OwnF.len_ ho14]; exact ho14⟩
theorem built_123_0_1_2 (x0 : Int) (x1 : Option Addr) (x2 : Nat) (x3 : Nat) (x4 : Int) : Tryz.prog.built 123 [(0, .int .i64 x0), (1, .slice x1 x2 x3), (2, .int .i64 x4)] = some (List.toArray [.int .i64 x0, .slice x1 x2 x3, .int .i64 x4]) := by kernel_rfl
set_option maxHeartbeats 4000000 in
theorem k93_ (d : DiskR) (w : World) (f_d : okDiskR 549755813888 w d) (hsm : smDisk 1048576 d.dat) :
    Calls Tryz.prog 75 #[.agg #[i64 d.Room, i64 d.Fuse, i64 d.Next, .slice d.Files.A d.Files.n d.Files.c, .slice d.Kept.A d.Kept.n d.Kept.c, .slice d.Turns.A d.Turns.n d.Turns.c]] w fun e w' => ∃ r L1, e = .returned (.agg #[i64 r.Room, i64 r.Fuse, i64 r.Next, .slice r.Files.A r.Files.n r.Files.c, .slice r.Kept.A r.Kept.n r.Kept.c, .slice r.Turns.A r.Turns.n r.Turns.c]) ∧ St w [] L1 w' ∧ ownDiskR r L1 ∧ r.dat = d.dat := by
 have nb_d_Files := f_d.Files_n
 have nl_d_Files := f_d.Files.sl.len
 have nb_d_Kept := f_d.Kept_n
 have nl_d_Kept := f_d.Kept.len
 have nb_d_Turns := f_d.Turns_n
 have nl_d_Turns := f_d.Turns.len
 have hF9 : d.Files.xs.length ≤ 1048576 := by have h_ := hsm.1; simpa [DiskR.dat] using h_
 have hl1 := f_d.Files.sl.len
 have hl2 := f_d.Kept.len
 have hl3 := f_d.Turns.len
 have hm2 : d.Kept.xs.length ≤ 1048576 := hsm.2.2.1
 have hm3 : d.Turns.xs.length ≤ 1048576 := hsm.2.2.2.2.1
 refine enter 37 Tryz.func75 rfl Tryz.ntmps75 rfl rfl ?_
 have hs1 := St.init w
 refine WC.sr (WL.bx hs1 rfl (fun b2 _ hs3 => WL.al hs3 Tryz.zeroValue34 rfl rfl (fun b4 _ hs5 => WL.nil (WC.sr (WL.buildF (F := encFileR) hs5 ([]) Tryz.runUnderlying30 Tryz.sizeOf123 Tryz.zeroValue123 rfl rfl rfl rfl rfl rfl rfl rfl rfl rfl rfl rfl (fun A9 c10 L6 whs7 hs7 ho8 => ?_))))))
 replace hs7 := St.back [_, _] hs7
 obtain ⟨L11, hs12, ho13⟩ := OwnN.fresh (own := ownFileR) (hs7.fr L6) ho8 Bag.nil
 have hs14 := ((hs12.fb b2).fb b4)
 refine WL.r 1 hs14 [] rfl (WL.nil (WC.seq (fun K15 hK15 => WC.r1 hs14 [1] rfl (WC.block ?_))))
 have hM20 := (St.grp1 (L1 := L11) [] (((hs14.fb b2).fb b4).fr L11))
 refine WC.lV [1, 2, 8, 9] rfl hM20 (fun k_ (a_ : Hp) f => ∃ (i : Nat) (fs : List FileR) (A16 : Option Addr) (c17 : Nat) (L18 : Hp), k_ = d.Files.n - i ∧ a_ = L18 ∧ (i ≤ d.Files.n) ∧ (fs.map FileR.dat = (d.Files.xs.take i).map FileR.dat) ∧ (fs.length = i) ∧ OwnN encFileR ownFileR 123 (.slice A16 (fs).length c17) (fs) L18 ∧ Sub [(3, .slice A16 (fs).length c17), (10, .int .i64 i)] f) (d.Files.n) ?_ ?_
 ·refine ⟨0, [], A9, c10, L11, rfl, rfl, ?_, ?_, ?_, ho13, ⟨rfl, rfl, trivial⟩⟩
  · exact Nat.zero_le _
  · rfl
  · rfl
 rintro _ L18 f w ⟨i, fs, A16, c17, _, rfl, rfl, p0, p1, p2, ho19, hG⟩ hF hs21
 refine WC.sub _ (hG.app hF) ?_
 clear hG hF
 replace hs21 := St.ungrp1 [] hs21
 have hs22 := ((hs21.fb b2).fb b4)
 refine WC.r1 hs22 [] rfl (WC.seq (fun K23 hK23 => ?_))
 refine WC.cD rfl (fun qh24 => ?_) (fun qh24 => ?_)
 ·have hbl := (SlN.nth f_d.Files (show i < d.Files.n by omega)).Body.len
  have hbn : (gat encFileR d.Files.xs i).Body.xs.length ≤ 1048576 := hsm.2.1 _ (List.mem_map_of_mem (f := FileR.dat) (gat_mem (F := encFileR) (xs := d.Files.xs) (k := i) (by omega)))
  refine WC.skip (hK23 _ _ (WC.seq (fun K25 hK25 => WC.block (WC.sr ?_))))
  refine WL.val rfl rfl rfl (Run.idxN Tryz.runUnderlying30 Tryz.sizeOf123 rfl rfl rfl ?_ ?_ ?_) ?_
  · exact SlF.some_ (SlF.st0 f_d.Files.sl hs22)
  · omega
  · omega
  refine WL.val rfl rfl rfl (Run.loadA Tryz.isAgg123 Tryz.sizeOf123 rfl rfl (SlF.whole (SlF.st0 f_d.Files.sl hs22) ?_)) ?_
  · omega
  refine WL.al hs22 Tryz.zeroValue123 rfl rfl (fun b26 _ hs27 => WL.st tbk hs27 0 rfl rfl (fun _ hs28 => WL.nil (WC.rH (hs28.rm L18) hs28 (fun _ hs29 => ?_))))
  refine WH.rn [0, 1, 2, 3, 4, 6, 7] (hs29.rm L18) [0, 0, 0] rfl rfl (WH.o1 5 rfl (WL.cl Tryz.call118 rfl (k90_ _ _ _ _ _ (SlF.st0 (SlN.nth f_d.Files (by omega)).Body hs29) ?_) ?_))
  · first | assumption | rfl | omega
  rintro _ whs30 ⟨A31, c32, L1_33, rfl, hs30, ho34⟩
  replace hs30 := hs29.callF hs30
  refine ⟨_, rfl, ?_⟩
  replace hs30 := St.back [_, _, _] hs30
  refine WL.nil ⟨((hs30.rm L1_33).rm L18), ?_⟩
  refine WH.take 8 rfl (by kernel_rfl) rfl rfl rfl ((hs30.rm L1_33).rm L18) (fun w_ hs_ => (Run.build rfl rfl rfl rfl (built_123_0_1_2 _ _ _ _ _))) ?_
  refine WH.o1 9 rfl (WL.buildSlice hs30 Tryz.runUnderlying30 Tryz.sizeOf123 Tryz.zeroValue123 rfl rfl rfl rfl rfl rfl rfl rfl rfl rfl (fun b35 whs36 hs36 => WL.nil ⟨((hs36.d1.rm L1_33).rm L18), WH.o1 10 rfl ?_⟩))
  obtain ⟨L37, L38, hs41, ho39, ho40⟩ := OwnN.open_ (hs36.fr L18) ho19
  have hs42 := ((((hs41.fb b2).fb b4).fb b26).fb b35)
  refine WL.appendG (hs42.fr L37) ho39 (srcF (F := encFileR) (ys := [(⟨(gat encFileR d.Files.xs i).Id, SlD.of ho34, (gat encFileR d.Files.xs i).Safe⟩ : FileR)]) Tryz.underlying30 rfl rfl (hs42.own _ (nthL_mem (i := 0) rfl)).1) Tryz.underlying30 inf123 rfl rfl rfl rfl rfl rfl rfl rfl rfl rfl ?_ (fun A46 c47 L43 whs44 hs44 ho45 => ?_)
  · (try simp only [List.length_append, List.length_singleton, List.nil_append, List.length_nil]); first | omega
  replace hs44 := St.back [_, _, _, _] hs44
  obtain ⟨L48, hs49, hb50⟩ := Bag.put (x := (⟨(gat encFileR d.Files.xs i).Id, SlD.of ho34, (gat encFileR d.Files.xs i).Safe⟩ : FileR)) ((hs44.fr L1_33).fr L38) ho40 ho34
  have hs51 := ((((hs49.fb b2).fb b4).fb b26).fb b35)
  obtain ⟨L53, hs52, ho54⟩ := OwnN.fold ((hs51.fr L48).fr L43) ho45 hb50
  have hs55 := ((((hs52.fb b2).fb b4).fb b26).fb b35)
  refine WL.nil ⟨(hs55.d1.rm L53), WH.rn [11] (hs55.d1.rm L53) [] rfl rfl (WH.dn (hK25 _ _ (WC.region (WL.r 2 hs55 [] rfl (WL.nil (tkN ?_))))))⟩
  replace hs55 := hs55.d1.d1
  have hF56 := (St.grp1 (L1 := L53) [] (((hs55.fb b2).fb b4).fr L53))
  refine ⟨sbF rfl, _, hF56, _, ?_, i + 1, ((fs) ++ [(⟨(gat encFileR d.Files.xs i).Id, SlD.of ho34, (gat encFileR d.Files.xs i).Safe⟩ : FileR)]), A46, c47, L53, rfl, rfl, ?_, ?_, ?_, ho54, ⟨rfl, rfl, trivial⟩⟩
  · omega
  · omega
  · rw [List.map_append, p1, map_take_succ (F := encFileR) (by omega)]; rfl
  · simp only [List.length_append, List.length_singleton]; omega
 refine WC.exit (hK15 _ _ (WC.seq (fun K57 hK57 => WC.rG 8 (hs22.fb b2).d1 hs22 hs22 (fun _ hs58 => ?_))))
 refine WG.rn [0, 1, 2, 4, 5, 7] hs58 [1, 1] rfl rfl (WG.o1 3 rfl rfl (WL.cl Tryz.call128 rfl (k49_ _ _ _ _ _ (SlF.st0 f_d.Kept hs58) ?_) ?_))
 · first | assumption | rfl | omega
 rintro _ whs59 ⟨A60, c61, L1_62, rfl, hs59, ho63⟩
 replace hs59 := hs58.callF hs59
 refine ⟨_, rfl, ?_⟩
 replace hs59 := St.back [_, _] hs59
 refine WL.nil ⟨(hs59.rm L1_62), WG.o1 6 rfl rfl (WL.cl Tryz.call129 rfl (k91_ _ _ _ _ _ (SlF.st0 f_d.Turns hs59) ?_) ?_)⟩
 · first | assumption | rfl | omega
 rintro _ whs64 ⟨A65, c66, L1_67, rfl, hs64, ho68⟩
 replace hs64 := hs59.callF hs64
 refine ⟨_, rfl, ?_⟩
 replace hs64 := St.back [_, _] hs64
 refine WL.nil ⟨((hs64.rm L1_67).rm L1_62), WG.oK rfl (WL.st tbk hs64 1 rfl rfl (fun _ hs69 => WL.nil ⟨(((hs69.fb b2).d1.rm L1_67).rm L1_62), WH.rn [9] (((hs69.fb b2).d1.rm L1_67).rm L1_62) [] rfl rfl (WH.o1 10 rfl (WL.st tbk hs69 1 rfl rfl (fun _ hs70 => WL.nil ⟨(((hs70.fb b2).d1.rm L1_67).rm L1_62), ?_⟩)))⟩))⟩
 refine WH.rn [11] (((hs70.fb b2).d1.rm L1_67).rm L1_62) [] rfl rfl (WH.o1 12 rfl (WL.st tbk hs70 1 rfl rfl (fun _ hs71 => WL.nil ⟨(((hs71.fb b2).d1.rm L1_67).rm L1_62), WH.dn (hK57 _ _ (WC.sr (WL.r 1 hs71 [1] rfl ?_)))⟩)))
 refine WL.st tbk hs71 0 rfl rfl (fun _ hs72 => WL.nil (WC.ret (retV1 rfl (resV.cellA tbk hs72 0 rfl rfl rfl rfl) ?_)))
 have hb_ : fs.map FileR.dat = d.dat.Files := by rw [p1, List.take_of_length_le (by omega)]; rfl
 obtain ⟨L74, hs73, ho75⟩ := ownDiskR.fl hs72 ho19 ho63 ho68
 have hs76 := ((hs73.fb b2).fb b4)
 refine ownDiskR.ret rfl (St.keep1 (hs76.fr L74)) ho75 ?_
 · exact DiskD.ext' rfl rfl rfl hb_ rfl rfl
theorem k94_ (d : DiskR) (op : DiskOpR) (w : World) (f_d : okDiskR 549755813888 w d) (f_op : okDiskOpR 549755813888 w op) (hok : diskOk d.dat = true) :
    Calls Tryz.prog 89 #[.agg #[i64 d.Room, i64 d.Fuse, i64 d.Next, .slice d.Files.A d.Files.n d.Files.c, .slice d.Kept.A d.Kept.n d.Kept.c, .slice d.Turns.A d.Turns.n d.Turns.c], .agg #[i64 op.Kind, .string op.Name, .string op.To, .slice op.Data.A op.Data.n op.Data.c]] w fun e w' => e = .returned (.int .i64 (refuse d.dat op.dat)) ∧ St w [] [] w' := by
 have nb_d_Files := f_d.Files_n
 have nl_d_Files := f_d.Files.sl.len
 have nb_d_Kept := f_d.Kept_n
 have nl_d_Kept := f_d.Kept.len
 have nb_d_Turns := f_d.Turns_n
 have nl_d_Turns := f_d.Turns.len
 have nz_op_Name := f_op.Name_z
 have nz_op_To := f_op.To_z
 have nb_op_Data := f_op.Data_n
 have nl_op_Data := f_op.Data.len
 have hD := diskOk_P hok
 obtain ⟨hs1, hs2, hs3, hs4, hs5, hs6, hs7, hs8⟩ := hD.small
 have hl1 := f_d.Files.sl.len
 have hl2 := f_d.Kept.len
 have hl3 := f_d.Turns.len
 have hm1 : d.Files.n ≤ 10 := by rw [← hl1, ← List.length_map (f := FileR.dat)]; exact hs1
 have hm2 : d.Kept.n ≤ 10 := by rw [← hl2]; exact hs2
 have hm3 : d.Turns.n ≤ 30 := by rw [← hl3]; exact hs3
 have hdl : (dirD d.dat).length ≤ 40 := Nat.le_trans turnsL_len (by show d.Kept.xs.length + d.Turns.xs.length ≤ 40; omega)
 have hfl : d.dat.Files.length = d.Files.n := by rw [← hl1]; exact List.length_map _
 have htl : d.dat.Turns.length = d.Turns.n := hl3
 refine enter 63 Tryz.func89 rfl Tryz.ntmps89 rfl rfl ?_
 have hs1 := St.init w
 refine WC.sr (WL.bx hs1 rfl (fun b2 _ hs3 => WL.bx hs3 rfl (fun b4 _ hs5 => WL.r 1 hs5 [] rfl (WL.nil (WC.seq (fun K6 hK6 => WC.rH hs5 hs5 (fun _ hs7 => ?_)))))))
 refine WH.rn [0, 2, 3] hs7 [1, 0] rfl rfl (WH.o1 1 rfl (WL.cl Tryz.call134 rfl (k84_ d _ (okDiskR.st0 f_d hs7) ?_) ?_))
 · first | assumption | rfl | omega
 rintro _ whs8 ⟨A9, c10, L1_11, rfl, hs8, ho12⟩
 replace hs8 := hs7.callF hs8
 refine ⟨_, rfl, ?_⟩
 replace hs8 := St.back [_, _] hs8
 refine WL.nil ⟨(hs8.rm L1_11), WH.o1 4 rfl (WL.cl Tryz.call150 rfl (k48_ _ _ _ _ _ _ (SlF.ofOwn ho12 (hs8.ow L1_11)) ?_) ?_)⟩
 · first | assumption | rfl | omega
 rintro _ whs13 ⟨rfl, hs13⟩
 replace hs13 := hs8.call0 hs13
 refine ⟨_, rfl, WL.nil ⟨(hs13.rm L1_11), WH.rn [5, 6] (hs13.rm L1_11) [] rfl rfl (WH.dn (hK6 _ _ (WC.seq (fun K14 hK14 => WC.block (WC.r1 hs13 [1] rfl ?_)))))⟩⟩
 refine WC.cq rfl (fun h15 qh15 => ?_) (fun h15 qh15 => ?_)
 ·have hf : d.dat.Fuse = 0 := by show d.Fuse = 0; have h9 := h15; simpa using h9
  refine WC.r1 hs13 [] rfl (WC.ret (ibR (tkR ?_)))
  clear hK14
  refine rtv rfl rfl hs13 ?_
  rw [refuse_2 hf]
 have hf : ¬ d.dat.Fuse = 0 := by show ¬ d.Fuse = 0; have h9 := h15; simpa using h9
 refine WC.sr (WL.r 4 hs13 [0] rfl (WL.pA tbk 5 Acts.nil hs13 [0] rfl rfl rfl rfl (fun g_ => ⟨rfl, trivial⟩) (WL.r 1 hs13 [] rfl (WL.nil (WC.cq rfl (fun h16 qh16 => ?_) (fun h16 qh16 => ?_))))))
 ·have h3 : op.dat.Kind ≠ 6 ∧ hasN (dirD d.dat) op.dat.Name = decide (op.dat.Kind = 1) := by have h9 := h16; rw [has_dec] at h9; show op.Kind ≠ 6 ∧ hasN (dirD d.dat) op.Name = decide (op.Kind = 1); simpa using h9
  refine WC.r1 hs13 [] rfl (WC.ret (ibR (tkR ?_)))
  clear hK14
  refine rtv rfl rfl hs13 ?_
  rw [refuse_3 hf h3]
 have h3 : ¬ (op.dat.Kind ≠ 6 ∧ hasN (dirD d.dat) op.dat.Name = decide (op.dat.Kind = 1)) := by have h9 := h16; rw [has_dec] at h9; show ¬ (op.Kind ≠ 6 ∧ hasN (dirD d.dat) op.Name = decide (op.Kind = 1)); simpa using h9
 refine WC.sr (WL.r 4 hs13 [0] rfl ?_)
 apply WL.gA 9 Acts.nil hs13 rfl
 ·intro g17 J18
  have qg17 := g17
  try simp only [bf, within_iff, within_not] at qg17
  refine WL.runA tbk 5 (Acts.nil.cons (j := 3) rfl g17) hs13 [1] rfl ⟨rfl, trivial⟩ (WL.pO tbk 3 (Acts.nil.cons (j := 3) rfl g17) hs13 [1] rfl rfl rfl rfl (fun g_ => ⟨rfl, trivial⟩) (WL.eA 6 Acts.nil J18 hs13 g17 rfl rfl))
 intro _ hs19
 refine WL.r 1 hs19 [] rfl (WL.nil (WC.cq rfl (fun h20 qh20 => ?_) (fun h20 qh20 => ?_)))
 ·have h4 : fourD d.dat op.dat := .inl (by show op.Kind = 1 ∧ (d.dat.Files.length = 10 ∨ d.Next = 1000000); have h9 := h20; simp only [Bool.and_eq_true, Bool.or_eq_true, decide_eq_true_eq] at h9; rw [hfl]; omega)
  refine WC.r1 hs19 [] rfl (WC.ret (ibR (tkR ?_)))
  clear hK14
  refine rtv rfl rfl hs19 ?_
  rw [refuse_4 hf h3 h4]
 have n27 : ¬ (op.Kind = 1 ∧ (d.dat.Files.length = 10 ∨ d.Next = 1000000)) := by have h9 := h20; simp only [Bool.and_eq_false_iff, Bool.or_eq_false_iff, decide_eq_false_iff_not] at h9; rw [hfl]; omega
 refine WC.sr (WL.r 2 hs19 [0] rfl (WL.cl Tryz.call151 rfl (k89_ _ _) ?_))
 rintro _ whs21 ⟨rfl, hs21⟩
 replace hs21 := hs19.call0 hs21
 refine ⟨_, rfl, WL.r 1 hs21 [] rfl (WL.pA tbk 4 Acts.nil hs21 [1] rfl rfl rfl rfl (fun g_ => ⟨rfl, trivial⟩) (WL.r 1 hs21 [] rfl (WL.nil (WC.cq rfl (fun h22 qh22 => ?_) (fun h22 qh22 => ?_)))))⟩
 ·have h4 : fourD d.dat op.dat := .inr (.inl (by show turnK op.Kind = true ∧ d.dat.Turns.length = 30; have h9 := h22; simp only [Bool.and_eq_true, Bool.or_eq_true, decide_eq_true_eq] at h9; rw [htl]; exact ⟨h9.1, by have := h9.2; omega⟩))
  refine WC.r1 hs21 [] rfl (WC.ret (ibR (tkR ?_)))
  clear hK14
  refine rtv rfl rfl hs21 ?_
  rw [refuse_4 hf h3 h4]
 have n42 : ¬ (turnK op.Kind = true ∧ d.dat.Turns.length = 30) := by
   have h9 := h22
   simp only [Bool.and_eq_false_iff, Bool.or_eq_false_iff, decide_eq_false_iff_not] at h9
   rw [htl]; rintro ⟨a, b⟩
   rcases h9 with h | h
   · rw [a] at h; cases h
   · omega
 refine WC.sr (WL.r 4 hs21 [0] rfl (WL.pA tbk 5 Acts.nil hs21 [0, 0] rfl rfl rfl rfl (fun g_ => ⟨rfl, rfl, trivial⟩) (WL.r 1 hs21 [] rfl (WL.nil (WC.cq rfl (fun h23 qh23 => ?_) (fun h23 qh23 => ?_))))))
 ·have h4 : fourD d.dat op.dat := .inr (.inr (by show op.Kind = 4 ∧ op.To = op.Name; have h9 := h23; simp only [Bool.and_eq_true, Bool.or_eq_true, decide_eq_true_eq] at h9; exact h9))
  refine WC.r1 hs21 [] rfl (WC.ret (ibR (tkR ?_)))
  clear hK14
  refine rtv rfl rfl hs21 ?_
  rw [refuse_4 hf h3 h4]
 have n52 : ¬ (op.Kind = 4 ∧ op.To = op.Name) := by
   have h9 := h23
   simp only [Bool.and_eq_false_iff, Bool.or_eq_false_iff, decide_eq_false_iff_not] at h9
   rintro ⟨a, b⟩
   rcases h9 with h | h
   · exact h a
   · exact h b
 have h4 : ¬ fourD d.dat op.dat := fun h => h.elim n27 (fun h => h.elim n42 n52)
 refine WC.skip (hK14 _ _ (WC.r1 hs21 [] rfl (WC.ret (rtv rfl rfl hs21 ?_))))
 rw [refuse_0 hf h3 h4]
theorem k95_ (p : DepotR) (w : World) (f_p : okDepotR 549755813888 w p) (hb : totDisk p.dat.Disk ≤ 1048576) (ht : TabOk w) :
    Calls Tryz.prog 25 #[.agg #[i64 p.Disk.Room, i64 p.Disk.Fuse, i64 p.Disk.Next, .slice p.Disk.Files.A p.Disk.Files.n p.Disk.Files.c, .slice p.Disk.Kept.A p.Disk.Kept.n p.Disk.Kept.c, .slice p.Disk.Turns.A p.Disk.Turns.n p.Disk.Turns.c, i64 p.Gen, i64 p.Seq, i64 p.Size, .bool p.Stuck]] w fun e w' => e = .returned (.bool (depotOk p.dat)) ∧ St w [] [] w' := by
 have nb_p_Disk_Files := f_p.Disk.Files_n
 have nl_p_Disk_Files := f_p.Disk.Files.sl.len
 have nb_p_Disk_Kept := f_p.Disk.Kept_n
 have nl_p_Disk_Kept := f_p.Disk.Kept.len
 have nb_p_Disk_Turns := f_p.Disk.Turns_n
 have nl_p_Disk_Turns := f_p.Disk.Turns.len
 refine enter 51 Tryz.func25 rfl Tryz.ntmps25 rfl rfl ?_
 have hs1 := St.init w
 refine WC.sr (WL.bx hs1 rfl (fun b2 _ hs3 => WL.r 1 hs3 [] rfl (WL.nil (WC.seq (fun K4 hK4 => WC.sr (WL.r 2 hs3 [0] rfl ?_))))))
 refine WL.cl Tryz.call56 rfl (k82_ p.Disk _ (okDiskR.st0 f_p.Disk hs3) ?_) ?_
 · first | assumption | rfl | omega | exact tab_st ht (by assumption) | exact hb
 rintro _ whs5 ⟨rfl, hs5⟩
 replace hs5 := hs3.call0 hs5
 refine ⟨_, rfl, WL.r 2 hs5 [] rfl ?_⟩
 apply WL.gO 4 Acts.nil hs5 rfl
 ·intro g6 J7
  have qg6 := g6
  try simp only [bf, within_iff, within_not] at qg6
  refine WL.runA tbk 2 (Acts.nil.cons (j := 4) rfl g6) hs5 [0] rfl ⟨rfl, trivial⟩ (WL.call (wantF rfl g6) rfl rfl (Run.call Tryz.call60 rfl rfl rfl) (k18_ _ _) ?_)
  rintro _ whs8 ⟨rfl, hs8⟩
  replace hs8 := hs5.call0 hs8
  refine ⟨_, rfl, WL.runA tbk 1 (Acts.nil.cons (j := 4) rfl g6) hs8 [] rfl trivial (WL.eO 4 Acts.nil J7 hs8 g6 rfl rfl)⟩
 intro _ hs9
 refine WL.r 1 hs9 [] rfl ?_
 apply WL.gO 4 Acts.nil hs9 rfl
 ·intro g10 J11
  have qg10 := g10
  try simp only [bf, within_iff, within_not] at qg10
  refine WL.runA tbk 2 (Acts.nil.cons (j := 10) rfl g10) hs9 [0] rfl ⟨rfl, trivial⟩ (WL.call (wantF rfl g10) rfl rfl (Run.call Tryz.call61 rfl rfl rfl) (k0_ _ _ _ _) ?_)
  rintro _ whs12 ⟨rfl, hs12⟩
  replace hs12 := hs9.call0 hs12
  refine ⟨_, rfl, WL.runA tbk 1 (Acts.nil.cons (j := 10) rfl g10) hs12 [] rfl trivial (WL.eO 4 Acts.nil J11 hs12 g10 rfl rfl)⟩
 intro _ hs13
 refine WL.r 1 hs13 [] rfl (WL.pO tbk 3 Acts.nil hs13 [0] rfl rfl rfl rfl (fun g_ => ⟨rfl, trivial⟩) (WL.nil (WC.cq rfl (fun h14 qh14 => ?_) (fun h14 qh14 => ?_))))
 ·have hA : depA p.dat = false := by rw [depA_i, h14]; rfl
  refine WC.r1 hs13 [] rfl (WC.ret (tkR ?_))
  clear hK4
  refine rtv rfl rfl hs13 ?_
  rw [depotOk_n hA]
 have hA : depA p.dat = true := by rw [depA_i, h14]; rfl
 refine WC.skip (hK4 _ _ (WC.seq (fun K15 hK15 => WC.sr (WL.r 5 hs13 [0] rfl (WL.pO tbk 2 Acts.nil hs13 [0] rfl rfl rfl rfl (fun g_ => ⟨rfl, trivial⟩) (WL.nil ?_))))))
 refine WC.cq rfl (fun h16 qh16 => ?_) (fun h16 qh16 => ?_)
 ·have hB : depB p.dat = true := h16
  refine WC.r1 hs13 [] rfl (WC.ret (tkR ?_))
  clear hK15
  refine rtv rfl rfl hs13 ?_
  rw [depotOk_b hA hB]
 have hB : depB p.dat = false := h16
 refine WC.skip (hK15 _ _ (WC.seq (fun K17 hK17 => WC.rH hs13 hs13 (fun _ hs18 => ?_))))
 refine WH.rn [0, 1, 2, 3] hs18 [0, 0] rfl rfl (WH.o1 4 rfl (WL.cl Tryz.call44 rfl (k19_ _ _ ?_) ?_))
 · first | assumption | rfl | omega | exact tab_st ht (by assumption) | exact hb
 rintro _ whs19 ⟨rfl, hs19⟩
 replace hs19 := hs18.call0 hs19
 refine ⟨_, rfl, WL.nil ⟨hs19, WH.o1 5 rfl (WL.cl Tryz.call58 rfl (k92_ p.Disk _ _ (okDiskR.st0 f_p.Disk hs19) ?_) ?_)⟩⟩
 · first | assumption | rfl | omega | exact tab_st ht (by assumption) | exact hb
 rintro _ whs20 ⟨A21, c22, L1_23, rfl, hs20, ho24⟩
 replace hs20 := hs19.callF hs20
 refine ⟨_, rfl, ?_⟩
 replace hs20 := St.back [_] hs20
 refine WL.nil ⟨(hs20.rm L1_23), WH.rn [6, 7, 8, 9, 10] (hs20.rm L1_23) [] rfl rfl (WH.dn (hK17 _ _ (WC.sr (WL.r 2 hs20 [] rfl (WL.pA tbk 5 Acts.nil hs20 [0] rfl rfl rfl rfl (fun g_ => ⟨rfl, trivial⟩) (WL.r 1 hs20 [] rfl ?_))))))⟩
 refine WL.nil (WC.ret (rtv rfl rfl hs20 ?_))
 rw [depotOk_c hA hB]; rfl
theorem k96_ (p : DepotR) (w : World) (f_p : okDepotR 549755813888 w p) (hb : totDisk p.dat.Disk ≤ 1048576) :
    Calls Tryz.prog 42 #[.agg #[i64 p.Disk.Room, i64 p.Disk.Fuse, i64 p.Disk.Next, .slice p.Disk.Files.A p.Disk.Files.n p.Disk.Files.c, .slice p.Disk.Kept.A p.Disk.Kept.n p.Disk.Kept.c, .slice p.Disk.Turns.A p.Disk.Turns.n p.Disk.Turns.c, i64 p.Gen, i64 p.Seq, i64 p.Size, .bool p.Stuck]] w fun e w' => ∃ r L1, e = .returned (.agg #[i64 r.Disk.Room, i64 r.Disk.Fuse, i64 r.Disk.Next, .slice r.Disk.Files.A r.Disk.Files.n r.Disk.Files.c, .slice r.Disk.Kept.A r.Disk.Kept.n r.Disk.Kept.c, .slice r.Disk.Turns.A r.Disk.Turns.n r.Disk.Turns.c, i64 r.Gen, i64 r.Seq, i64 r.Size, .bool r.Stuck]) ∧ St w [] L1 w' ∧ ownDepotR r L1 ∧ r.dat = p.dat := by
 have nb_p_Disk_Files := f_p.Disk.Files_n
 have nl_p_Disk_Files := f_p.Disk.Files.sl.len
 have nb_p_Disk_Kept := f_p.Disk.Kept_n
 have nl_p_Disk_Kept := f_p.Disk.Kept.len
 have nb_p_Disk_Turns := f_p.Disk.Turns_n
 have nl_p_Disk_Turns := f_p.Disk.Turns.len
 have hsm : smDisk 1048576 p.dat.Disk := totDisk_sm hb
 refine enter 8 Tryz.func42 rfl Tryz.ntmps42 rfl rfl ?_
 have hs1 := St.init w
 refine WC.sr (WL.bx hs1 rfl (fun b2 _ hs3 => WL.al hs3 Tryz.zeroValue36 rfl rfl (fun b4 _ hs5 => WL.nil (WC.sr (WL.r 2 hs5 [1] rfl ?_)))))
 refine WL.cl Tryz.call75 rfl (k93_ p.Disk _ (okDiskR.st0 f_p.Disk hs5) ?_) ?_
 · first | assumption | rfl | omega | exact hsm
 rintro _ whs6 ⟨r7, L1_8, rfl, hs6, ho9, hd10⟩
 replace hs6 := hs5.callF hs6
 refine ⟨_, rfl, ?_⟩
 replace hs6 := St.back [_, _] hs6
 have hcp := hd10
 refine WL.r 1 hs6 [] rfl (WL.st tbk hs6 1 rfl rfl (fun _ hs11 => WL.nil (WC.sr (WL.r 1 hs11 [1] rfl (WL.st tbk hs11 0 rfl rfl (fun _ hs12 => WL.nil (WC.ret ?_)))))))
 refine retV1 rfl (resV.cellA tbk hs12 0 rfl rfl rfl rfl) ?_
 obtain ⟨L13, L14, L15, hs19, ho16, ho17, ho18⟩ := ownDiskR.op hs12 ho9
 have hs20 := ((hs19.fb b2).fb b4)
 obtain ⟨L22, hs21, ho23⟩ := ownDepotR.fl hs20 ho16 ho17 ho18
 have hs24 := ((hs21.fb b2).fb b4)
 refine ownDepotR.ret rfl (St.keep1 (hs24.fr L22)) ho23 ?_
 · exact DepotD.ext' hcp rfl rfl rfl rfl
theorem k97_ (l_Name : ByteArray) (l_Id : Int) (b_f : Nat) (f : FileR) (w : World) (f_f : SlF encFileR w (some ⟨b_f, 0, none⟩) 1 [f]) :
    Calls Tryz.prog 144 #[.agg #[.string l_Name, i64 l_Id], .pointer (some ⟨b_f, 0, none⟩)] w fun e w' => e = .returned (.bool (decide (l_Id = f.Id))) ∧ St w [] [] w' := by
 refine enter 9 Tryz.func144 rfl Tryz.ntmps144 rfl rfl ?_
 have hs1 := St.init w
 refine WC.sr (WL.bx hs1 rfl (fun b2 _ hs3 => WL.r 1 hs3 [] rfl (WL.nil (WC.sr (WL.r 2 hs3 [0] rfl ?_)))))
 refine WL.val rfl rfl rfl (Run.field Tryz.runUnderlying123 rfl rfl rfl Tryz.sizeOf3 rfl) ?_
 refine WL.val rfl rfl rfl (Run.load Tryz.isAgg3 rfl rfl (SlF.varF (off := 0) (SlF.st0 f_f hs3) rfl)) (WL.r 2 hs3 [] rfl (WL.nil (WC.ret (rtv rfl rfl hs3 ?_))))
 rfl
theorem k98_ (A_s : Option Addr) (n_s c_s : Nat) (s : List LinkD) (b_f : Nat) (fq : FileR) (w : World) (f_s : SlF encLink w A_s n_s s) (f_f : SlF encFileR w (some ⟨b_f, 0, none⟩) 1 [fq]) (hn : n_s ≤ 1099511627776) :
    Calls Tryz.prog 175 #[.slice A_s n_s c_s, .func (.func 144) #[] #[.pointer (some ⟨b_f, 0, none⟩)]] w fun e w' => e = .returned (.int .i64 (findI (fun l : LinkD => decide (l.Id = fq.Id)) s)) ∧ St w [] [] w' := by
 have hl := f_s.len
 refine enter 19 Tryz.func175 rfl Tryz.ntmps175 rfl rfl ?_
 have hs1 := St.init w
 refine WC.r1 hs1 [] rfl (WC.seq (fun K2 hK2 => WC.r1 hs1 [] rfl (WC.block ?_)))
 refine WC.lS [0, 1, 7] rfl hs1 (fun k_ f w' => ∃ (i : Nat), k_ = n_s - i ∧ (i ≤ n_s) ∧ (∀ j, j < i → (fun l : LinkD => decide (l.Id = fq.Id)) (gat encLink s j) = false) ∧ Sub [(8, .int .i64 i)] f) ((fun (i : Nat) => n_s - i) (0)) ?_ ?_
 ·refine ⟨0, rfl, ?_, ?_, ⟨rfl, trivial⟩⟩
  · exact Nat.zero_le _
  · exact fun j hj => absurd hj (by omega)
 clear hs1
 rintro _ f w ⟨i, rfl, p0, p1, hG⟩ hF hs3
 refine WC.sub _ (hG.app hF) ?_
 clear hG hF
 refine WC.r1 hs3 [] rfl (WC.seq (fun K4 hK4 => ?_))
 refine WC.cq rfl (fun h5 qh5 => ?_) (fun h5 qh5 => ?_)
 ·refine WC.skip (hK4 _ _ (WC.seq (fun K6 hK6 => WC.block (WC.r1 hs3 [] rfl (WC.sr (WL.r 3 hs3 [] rfl ?_))))))
  refine WL.val rfl rfl rfl (Run.idxN Tryz.runUnderlying31 Tryz.sizeOf101 rfl rfl rfl ?_ ?_ ?_) ?_
  · exact SlF.some_ (SlF.st0 f_s hs3)
  · omega
  · omega
  refine WL.val rfl rfl rfl (Run.loadA Tryz.isAgg101 Tryz.sizeOf101 rfl rfl (SlF.whole (SlF.st0 f_s hs3) ?_)) ?_
  · omega
  refine WL.call rfl rfl rfl (Run.callC Tryz.call144 rfl rfl rfl) (k97_ _ _ _ _ _ (SlF.st0 f_f hs3)) ?_
  rintro _ whs7 ⟨rfl, hs7⟩
  replace hs7 := hs3.call0 hs7
  refine ⟨_, rfl, WL.nil (WC.cq rfl (fun h8 qh8 => ?_) (fun h8 qh8 => ?_))⟩
  ·refine WC.r1 hs7 [] rfl (WC.ret (ibR (tkR (tkR (ibR (tkR ?_))))))
   clear hK6 hK2
   refine rtv rfl rfl hs7 ?_
   rw [findI_some (F := encLink) (i := i) (by omega) p1 h8]
  refine WC.skip (hK6 _ _ (WC.region (WL.r 2 hs7 [] rfl (WL.nil (tkN ?_)))))
  refine ⟨sbF rfl, hs7, _, ?_, i + 1, rfl, ?_, ?_, ⟨rfl, trivial⟩⟩
  · omega
  · omega
  · intro j hj; rcases Nat.lt_or_ge j i with h_ | h_
    · exact p1 j h_
    · obtain rfl : j = i := by omega
      exact h8
 refine WC.exit (hK2 _ _ (WC.r1 hs3 [] rfl (WC.ret (rtv rfl rfl hs3 ?_))))
 rw [findI_none (F := encLink) (fun j hj => p1 j (by omega))]
theorem k99_ (A_s : Option Addr) (n_s c_s : Nat) (s : List LinkD) (b_f : Nat) (fq : FileR) (w : World) (f_s : SlF encLink w A_s n_s s) (f_f : SlF encFileR w (some ⟨b_f, 0, none⟩) 1 [fq]) (hn : n_s ≤ 1099511627776) :
    Calls Tryz.prog 143 #[.slice A_s n_s c_s, .func (.func 144) #[] #[.pointer (some ⟨b_f, 0, none⟩)]] w fun e w' => e = .returned (.bool (linkd s fq.Id)) ∧ St w [] [] w' := by
 refine enter 9 Tryz.func143 rfl Tryz.ntmps143 rfl rfl ?_
 have hs1 := St.init w
 refine WC.r1 hs1 [] rfl (WC.sr (WL.r 2 hs1 [] rfl (WL.cl Tryz.call175 rfl (k98_ _ _ _ _ _ _ _ (SlF.st0 f_s hs1) (SlF.st0 f_f hs1) ?_) ?_)))
 · first | assumption | rfl | omega
 rintro _ whs2 ⟨rfl, hs2⟩
 replace hs2 := hs1.call0 hs2
 refine ⟨_, rfl, WL.r 2 hs2 [] rfl (WL.nil (WC.ret (rtv rfl rfl hs2 ?_)))⟩
 rw [linkd_find]
theorem k100_ (f : FileR) (b_p b_d : Nat) (d : DiskR) (w : World) (f_p : SlF encP w (some ⟨b_p, 0, none⟩) 1 [b_d]) (f_b : SlF encDiskR w (some ⟨b_d, 0, none⟩) 1 [d]) (f_K : SlF encLink w d.Kept.A d.Kept.n d.Kept.xs) (hn : d.Kept.n ≤ 1099511627776) :
    Calls Tryz.prog 142 #[.agg #[i64 f.Id, .slice f.Body.A f.Body.n f.Body.c, i64 f.Safe], .pointer (some ⟨b_p, 0, none⟩)] w fun e w' => e = .returned (.bool (!linkd d.Kept.xs f.Id)) ∧ St w [] [] w' := by
 refine enter 11 Tryz.func142 rfl Tryz.ntmps142 rfl rfl ?_
 have hs1 := St.init w
 refine WC.sr (WL.bx hs1 rfl (fun b2 _ hs3 => WL.r 1 hs3 [] rfl (WL.nil (WC.sr (WL.val rfl rfl rfl (Run.load Tryz.isAgg168 rfl rfl (SlF.var (SlF.st0 f_p hs3) rfl)) (WL.r 1 hs3 [] rfl ?_))))))
 refine WL.val rfl rfl rfl (Run.field Tryz.runUnderlying34 rfl rfl rfl Tryz.sizeOf31 rfl) ?_
 refine WL.val rfl rfl rfl (Run.load Tryz.isAgg31 rfl rfl (SlF.varF (off := 4) (SlF.st0 f_b hs3) rfl)) (WL.val rfl rfl rfl (Run.makeFunc rfl rfl) (WL.cl Tryz.call143 rfl (k99_ _ _ _ _ _ _ _ (SlF.st0 f_K hs3) (SlF.own1 (hs3.own _ (nthL_mem (i := 0) rfl)).1) ?_) ?_))
 · first | assumption | rfl | omega
 rintro _ whs4 ⟨rfl, hs4⟩
 replace hs4 := hs3.call0 hs4
 refine ⟨_, rfl, WL.r 2 hs4 [] rfl (WL.nil (WC.ret (rtv rfl rfl hs4 ?_)))⟩
 rfl
theorem k101_ (A_s : Option Addr) (n_s c_s : Nat) (s : List FileR) (b_p b_d : Nat) (d : DiskR) (w : World) (f_s : SlF encFileR w A_s n_s s) (f_p : SlF encP w (some ⟨b_p, 0, none⟩) 1 [b_d]) (f_b : SlF encDiskR w (some ⟨b_d, 0, none⟩) 1 [d]) (f_K : SlF encLink w d.Kept.A d.Kept.n d.Kept.xs) (hn : n_s ≤ 1099511627776) (hk : d.Kept.n ≤ 1099511627776) :
    Calls Tryz.prog 170 #[.slice A_s n_s c_s, .func (.func 142) #[] #[.pointer (some ⟨b_p, 0, none⟩)]] w fun e w' => e = .returned (.int .i64 (findI (fun f : FileR => !linkd d.Kept.xs f.Id) s)) ∧ St w [] [] w' := by
 have hl := f_s.len
 refine enter 19 Tryz.func170 rfl Tryz.ntmps170 rfl rfl ?_
 have hs1 := St.init w
 refine WC.r1 hs1 [] rfl (WC.seq (fun K2 hK2 => WC.r1 hs1 [] rfl (WC.block ?_)))
 refine WC.lS [0, 1, 7] rfl hs1 (fun k_ f w' => ∃ (i : Nat), k_ = n_s - i ∧ (i ≤ n_s) ∧ (∀ j, j < i → (fun f : FileR => !linkd d.Kept.xs f.Id) (gat encFileR s j) = false) ∧ Sub [(8, .int .i64 i)] f) ((fun (i : Nat) => n_s - i) (0)) ?_ ?_
 ·refine ⟨0, rfl, ?_, ?_, ⟨rfl, trivial⟩⟩
  · exact Nat.zero_le _
  · exact fun j hj => absurd hj (by omega)
 clear hs1
 rintro _ f w ⟨i, rfl, p0, p1, hG⟩ hF hs3
 refine WC.sub _ (hG.app hF) ?_
 clear hG hF
 refine WC.r1 hs3 [] rfl (WC.seq (fun K4 hK4 => ?_))
 refine WC.cq rfl (fun h5 qh5 => ?_) (fun h5 qh5 => ?_)
 ·refine WC.skip (hK4 _ _ (WC.seq (fun K6 hK6 => WC.block (WC.r1 hs3 [] rfl (WC.sr (WL.r 3 hs3 [] rfl ?_))))))
  refine WL.val rfl rfl rfl (Run.idxN Tryz.runUnderlying30 Tryz.sizeOf123 rfl rfl rfl ?_ ?_ ?_) ?_
  · exact SlF.some_ (SlF.st0 f_s hs3)
  · omega
  · omega
  refine WL.val rfl rfl rfl (Run.loadA Tryz.isAgg123 Tryz.sizeOf123 rfl rfl (SlF.whole (SlF.st0 f_s hs3) ?_)) ?_
  · omega
  refine WL.call rfl rfl rfl (Run.callC Tryz.call142 rfl rfl rfl) (k100_ _ _ _ _ _ (SlF.st0 f_p hs3) (SlF.st0 f_b hs3) (SlF.st0 f_K hs3) ?_) ?_
  · first | assumption | rfl | omega
  rintro _ whs7 ⟨rfl, hs7⟩
  replace hs7 := hs3.call0 hs7
  refine ⟨_, rfl, WL.nil (WC.cq rfl (fun h8 qh8 => ?_) (fun h8 qh8 => ?_))⟩
  ·refine WC.r1 hs7 [] rfl (WC.ret (ibR (tkR (tkR (ibR (tkR ?_))))))
   clear hK6 hK2
   refine rtv rfl rfl hs7 ?_
   rw [findI_some (F := encFileR) (i := i) (by omega) p1 h8]
  refine WC.skip (hK6 _ _ (WC.region (WL.r 2 hs7 [] rfl (WL.nil (tkN ?_)))))
  refine ⟨sbF rfl, hs7, _, ?_, i + 1, rfl, ?_, ?_, ⟨rfl, trivial⟩⟩
  · omega
  · omega
  · intro j hj; rcases Nat.lt_or_ge j i with h_ | h_
    · exact p1 j h_
    · obtain rfl : j = i := by omega
      exact h8
 refine WC.exit (hK2 _ _ (WC.r1 hs3 [] rfl (WC.ret (rtv rfl rfl hs3 ?_))))
 rw [findI_none (F := encFileR) (fun j hj => p1 j (by omega))]
theorem k102_ (v_s : Value) (s : List FileR) (L_s : Hp) (b_p b_d : Nat) (d : DiskR) (w : World) (o_s : OwnF encFileR 123 v_s s L_s) (h_s : Hh w L_s) (f_p : SlF encP w (some ⟨b_p, 0, none⟩) 1 [b_d]) (f_b : SlF encDiskR w (some ⟨b_d, 0, none⟩) 1 [d]) (f_K : SlF encLink w d.Kept.A d.Kept.n d.Kept.xs) (s_p : b_p ∉ L_s.map (·.1)) (s_b : b_d ∉ L_s.map (·.1)) (s_K : 0 < d.Kept.n → (adr d.Kept.A).block ∉ L_s.map (·.1)) (hn : s.length ≤ 268435456) (hk : d.Kept.n ≤ 1099511627776) :
    Calls Tryz.prog 141 #[v_s, .func (.func 142) #[] #[.pointer (some ⟨b_p, 0, none⟩)]] w fun e w' => ∃ A c L1, e = .returned (.slice A (s.filter (fun f : FileR => linkd d.Kept.xs f.Id)).length c) ∧ St w (L_s.map (·.1)) L1 w' ∧ OwnF encFileR 123 (.slice A (s.filter (fun f : FileR => linkd d.Kept.xs f.Id)).length c) (s.filter (fun f : FileR => linkd d.Kept.xs f.Id)) L1 := by
 obtain ⟨A_s, c_s, rfl⟩ := o_s.shape
 refine enter 42 Tryz.func141 rfl Tryz.ntmps141 rfl rfl ?_
 have hs1 := St.lent1 w L_s o_s h_s
 refine WC.r1 hs1 [] rfl ?_
 refine WC.sr ?_
 refine WL.r 2 hs1 [] rfl ?_
 refine WL.cl Tryz.call170 rfl (k101_ _ _ _ _ _ _ _ _ (SlF.ofOwn o_s (hs1.ow L_s)) (SlF.st f_p hs1 (fun _ => s_p)) (SlF.st f_b hs1 (fun _ => s_b)) (SlF.st f_K hs1 s_K) ?_ ?_) ?_
 iterate 2 first | assumption | rfl | omega
 rintro _ whs2 ⟨rfl, hs2⟩
 replace hs2 := hs1.call0 hs2
 refine ⟨_, rfl, ?_⟩
 refine WL.r 1 hs2 [] rfl ?_
 refine WL.nil ?_
 refine WC.seq (fun K3 hK3 => ?_)
 refine WC.r1 hs2 [] rfl ?_
 refine WC.cq rfl (fun h4 qh4 => ?_) (fun h4 qh4 => ?_)
 ·have hall : s.filter (fun f : FileR => linkd d.Kept.xs f.Id) = s := by
    rcases findI_cases (p := (fun f : FileR => !linkd d.Kept.xs f.Id)) (xs := s) with ⟨_, h1_⟩ | ⟨i1, _, h1_, _⟩
    · exact List.filter_eq_self.2 (fun x hx => by have h9 := h1_ x hx; simpa using h9)
    · omega
  refine WC.r1 hs2 [] rfl ?_
  refine WC.ret ?_
  refine tkR ?_
  clear hK3
  refine retV1 rfl (resV.tmp rfl) ?_
  have hx_ := OwnF.eqOf (xs := s.filter (fun f : FileR => linkd d.Kept.xs f.Id)) o_s (by rw [hall])
  rw [← hx_]
  first | exact ⟨_, _, _, rfl, (St.keep1 hs2), o_s⟩ | exact ⟨A_s, c_s, _, by rw [OwnF.len_ o_s], (St.keep1 hs2), by rw [OwnF.len_ o_s]; exact o_s⟩
 obtain ⟨i0, hi0, hf0, hp0, hb0⟩ : ∃ i0 : Nat, ∃ hi : i0 < s.length, findI (fun f : FileR => !linkd d.Kept.xs f.Id) s = (i0 : Int) ∧ (fun f : FileR => !linkd d.Kept.xs f.Id) s[i0] = true ∧ ∀ j (hj : j < i0), (fun f : FileR => !linkd d.Kept.xs f.Id) (s[j]'(by omega)) = false := by
   rcases findI_cases (p := (fun f : FileR => !linkd d.Kept.xs f.Id)) (xs := s) with ⟨h1_, _⟩ | ⟨i1, hi, h1_, h2_, h3_⟩
   · omega
   · exact ⟨i1, hi, h1_, h2_, h3_⟩
 rw [hf0]
 have hinit : s.take i0 = (s.take (i0 + 1)).filter (fun f : FileR => linkd d.Kept.xs f.Id) := by
   rw [filter_take (F := encFileR) hi0]
   have hg : gat encFileR s i0 = s[i0] := by have e_ := gat_get (F := encFileR) hi0; rw [List.getElem?_eq_getElem hi0] at e_; exact (Option.some.inj e_).symm
   rw [if_neg (by rw [hg]; simpa using hp0), List.append_nil]
   symm
   refine List.filter_eq_self.2 (fun x hx => ?_)
   obtain ⟨j, hj, rfl⟩ := List.mem_iff_getElem.1 hx
   rw [List.length_take] at hj
   rw [List.getElem_take]
   have h9 := hb0 j (by omega)
   simpa using h9
 refine WC.skip ?_
 refine hK3 _ _ ?_
 refine WC.seq (fun K5 hK5 => ?_)
 refine WC.r1 hs2 [] rfl ?_
 refine WC.block ?_
 refine WC.lO [1, 4, 12] rfl hs2 (fun k_ f L_ => ∃ (zs : List FileR) (i j : Nat), k_ = s.length - j ∧ (i < j) ∧ (j ≤ s.length) ∧ (zs.length = s.length) ∧ (zs.take i = (s.take j).filter (fun f : FileR => linkd d.Kept.xs f.Id)) ∧ (∀ k, j ≤ k → gat encFileR zs k = gat encFileR s k) ∧ OwnF encFileR 123 (.slice A_s (s.length) c_s) (zs) L_ ∧ Sub [(0, .slice A_s (s.length) c_s), (5, .int .i64 i), (6, .int .i64 j)] f) (((fun (zs : List FileR) (i j : Nat) => s.length - j) (s) (i0) ((i0 + 1)))) ?_ ?_
 ·refine ⟨s, i0, (i0 + 1), rfl, ?_, ?_, ?_, ?_, ?_, o_s, ⟨rfl, rfl, rfl, trivial⟩⟩
  · omega
  · omega
  · rfl
  · exact hinit
  · exact fun k _ => rfl
 clear hs2
 rintro _ f w L8 ⟨zs, i, j, rfl, p0, p1, p2, p3, p4, ho9, hG⟩ hF hs10
 refine WC.sub _ (hG.app hF) ?_
 clear hG hF
 refine WC.seq (fun K11 hK11 => ?_)
 refine WC.r1 hs10 [] rfl ?_
 refine WC.cq rfl (fun h12 qh12 => ?_) (fun h12 qh12 => ?_)
 ·refine WC.skip ?_
  refine hK11 _ _ ?_
  refine WC.seq (fun K13 hK13 => ?_)
  refine WC.block ?_
  refine WC.sr ?_
  refine WL.r 2 hs10 [] rfl ?_
  refine WL.val rfl rfl rfl (Run.idxN Tryz.runUnderlying30 Tryz.sizeOf123 rfl rfl rfl ?_ ?_ ?_) ?_
  · exact SlF.some_ (SlF.ofOwn ho9 (hs10.ow L8))
  · omega
  · omega
  refine WL.val rfl rfl rfl (Run.loadA Tryz.isAgg123 Tryz.sizeOf123 rfl rfl (SlF.whole (SlF.ofOwn ho9 (hs10.ow L8)) ?_)) ?_
  · omega
  refine WL.al hs10 Tryz.zeroValue123 rfl rfl (fun b14 _ hs15 => ?_)
  refine WL.st tbk hs15 0 rfl rfl (fun _ hs16 => ?_)
  refine WL.nil ?_
  refine WC.sr ?_
  refine WL.r 2 hs16 [0] rfl ?_
  refine WL.call rfl rfl rfl (Run.callC Tryz.call142 rfl rfl rfl) (k100_ _ _ _ _ _ (SlF.st f_p hs16 (fun _ => s_p)) (SlF.st f_b hs16 (fun _ => s_b)) (SlF.st f_K hs16 s_K) ?_) ?_
  · first | assumption | rfl | omega
  rintro _ whs17 ⟨rfl, hs17⟩
  replace hs17 := hs16.call0 hs17
  refine ⟨_, rfl, ?_⟩
  refine WL.r 1 hs17 [] rfl ?_
  refine WL.nil ?_
  refine WC.cq rfl (fun h18 qh18 => ?_) (fun h18 qh18 => ?_)
  ·refine WC.sr ?_
   refine WL.r 3 hs17 [0] rfl ?_
   refine WL.val rfl rfl rfl (Run.idxN Tryz.runUnderlying30 Tryz.sizeOf123 rfl rfl rfl ?_ ?_ ?_) ?_
   · exact SlF.some_ (SlF.ofOwn ho9 (hs17.ow L8))
   · omega
   · omega
   refine WL.storeF1 (x' := (gat encFileR zs j)) (hs17.fr L8) ho9 Tryz.sizeOf123 rfl rfl rfl rfl rfl rfl rfl rfl rfl ?_ rfl (fun L19 whs20 hs20 ho21 _ => ?_)
   · omega
   replace hs20 := St.back [_] hs20
   refine WL.nil ?_
   refine WC.region ?_
   refine WL.r 3 hs20 [] rfl ?_
   refine WL.nil ?_
   refine hK13 _ _ ?_
   refine WC.region ?_
   refine WL.r 3 hs20 [] rfl ?_
   refine WL.nil ?_
   refine tkN ?_
   replace hs20 := hs20.d1
   refine ⟨sbF rfl, _, hs20, _, ?_, _, (i + 1), (j + 1), rfl, ?_, ?_, ?_, ?_, ?_, ho21, ⟨rfl, rfl, rfl, trivial⟩⟩
   · omega
   · omega
   · omega
   · first | omega | (rw [List.length_set]; omega)
   · first | (rw [set_take (by omega), p3, filter_take (F := encFileR) (by omega), if_pos (by rw [← p4 j (Nat.le_refl _)]; simpa using h18), p4 j (Nat.le_refl _)]) | (rw [p3, filter_take (F := encFileR) (by omega), if_neg (by rw [← p4 j (Nat.le_refl _)]; simpa using h18), List.append_nil])
   · intro k hk; first | (rw [gat_set_ne (by omega)]; exact p4 k (by omega)) | exact p4 k (by omega)
  refine WC.skip ?_
  refine hK13 _ _ ?_
  refine WC.region ?_
  refine WL.r 3 hs17 [] rfl ?_
  refine WL.nil ?_
  refine tkN ?_
  replace hs17 := hs17.d1
  refine ⟨sbF rfl, _, hs17, _, ?_, _, i, (j + 1), rfl, ?_, ?_, ?_, ?_, ?_, ho9, ⟨rfl, rfl, rfl, trivial⟩⟩
  · omega
  · omega
  · omega
  · first | omega | (rw [List.length_set]; omega)
  · first | (rw [set_take (by omega), p3, filter_take (F := encFileR) (by omega), if_pos (by rw [← p4 j (Nat.le_refl _)]; simpa using h18), p4 j (Nat.le_refl _)]) | (rw [p3, filter_take (F := encFileR) (by omega), if_neg (by rw [← p4 j (Nat.le_refl _)]; simpa using h18), List.append_nil])
  · intro k hk; first | (rw [gat_set_ne (by omega)]; exact p4 k (by omega)) | exact p4 k (by omega)
 refine WC.exit ?_
 refine hK5 _ _ ?_
 refine WC.sr ?_
 refine WL.r 2 hs10 [] rfl ?_
 have hc_ := OwnF.cap ho9
 refine WL.val rfl rfl rfl (Run.sliceL (i) Tryz.runUnderlying30 Tryz.sizeOf123 rfl rfl rfl ?_ ?_) ?_
 · first | rfl | (omega)
 · refine ⟨?_, ?_, ?_⟩ <;> (omega)
 refine WL.clearF (lo := i) hs10 ho9 Tryz.underlying30 Tryz.zeroValue123 rfl rfl rfl rfl rfl ?_ (fun L22 whs23 hs23 ho24 _ => ?_)
 · omega
 refine WL.nil ?_
 refine WC.sr ?_
 refine WL.r 2 hs23 [] rfl ?_
 have ho25 := OwnF.take (k := i) ho24 (by omega)
 have hcho25 := OwnF.cap ho25
 refine WL.val rfl rfl rfl (Run.sliceH0 (i) Tryz.runUnderlying30 Tryz.sizeOf123 rfl rfl rfl ?_ ?_) ?_
 · first | rfl | (omega)
 · first | (exact Nat.zero_le _) | (omega)
 refine WL.r 1 hs23 [] rfl ?_
 refine WL.nil ?_
 refine WC.ret ?_
 refine retV1 rfl (resV.tmp rfl) ?_
 have hx_ := OwnF.eqOf (xs := s.filter (fun f : FileR => linkd d.Kept.xs f.Id)) ho25 (by first | (rw [List.take_left' (by rw [List.length_take]; omega), p3, List.take_of_length_le (by omega)]) | (rw [List.take_append_of_le_length (by rw [List.length_take]; omega), List.take_take, Nat.min_self, p3, List.take_of_length_le (by omega)]))
 rw [← hx_]
 first | exact ⟨_, _, _, rfl, (St.keep1 hs23), ho25⟩ | exact ⟨A_s, c_s, _, by rw [OwnF.len_ ho25], (St.keep1 hs23), by rw [OwnF.len_ ho25]; exact ho25⟩
theorem k103_ (b_s : Nat) (s : DiskR) (L_s : Hp) (w : World) (hb_s : w.heap[b_s]? = some (Obj.cells (List.toArray [i64 s.Room, i64 s.Fuse, i64 s.Next, .slice s.Files.A s.Files.n s.Files.c, .slice s.Kept.A s.Kept.n s.Kept.c, .slice s.Turns.A s.Turns.n s.Turns.c]) 34 (0, 0))) (o_s : ownDiskR s L_s) (h_s : Hh w L_s) (hd_ : (b_s :: L_s.map (·.1)).Nodup) (hn : s.Files.xs.length ≤ 1048576) (hk : s.Kept.n ≤ 1048576) :
    Calls Tryz.prog 85 #[.pointer (some ⟨b_s, 0, none⟩)] w fun e w' => ∃ r L1, e = .returned (.tuple #[]) ∧ St w (b_s :: L_s.map (·.1)) ([(b_s, Obj.cells (List.toArray [i64 r.Room, i64 r.Fuse, i64 r.Next, .slice r.Files.A r.Files.n r.Files.c, .slice r.Kept.A r.Kept.n r.Kept.c, .slice r.Turns.A r.Turns.n r.Turns.c]) 34 (0, 0))] ++ L1) w' ∧ ownDiskR r L1 ∧ r.dat = ({ s.dat with Files := onlyL s.dat.Kept s.dat.Files } : DiskD) := by
 refine enter 11 Tryz.func85 rfl Tryz.ntmps85 rfl rfl ?_
 have hs1 := St.takeP w b_s _ L_s hb_s h_s hd_
 refine WC.sr (WL.bx hs1 rfl (fun b2 _ hs3 => WL.nil (WC.rG 9 ((hs3.fb b_s).d1.rm L_s) (hs3.rm L_s) hs3 (fun _ hs4 => ?_))))
 refine WG.rn [0, 1, 2, 3, 4] (hs4.rm L_s) [0, 0, 1] rfl rfl ?_
 refine WG.tk 5 rfl (by kernel_rfl) rfl rfl rfl (hs4.rm L_s) (fun w_ hs_ => (Run.makeFunc rfl rfl)) ?_
 refine WG.o1 6 rfl rfl ?_
 obtain ⟨L6, L7, L8, hs12, ho9, ho10, ho11⟩ := ownDiskR.op hs4 o_s
 have hs13 := ((hs12.fb b_s).fb b2)
 obtain ⟨L14, L15, hs18, ho16, ho17⟩ := OwnN.open_ (hs13.fr L6) ho9
 have hs19 := ((hs18.fb b_s).fb b2)
 refine WL.cl Tryz.call141 rfl (k102_ _ _ _ _ _ _ _ ho16 (hs19.ow L14) (SlF.own1 (hs19.own _ (nthL_mem (i := 0) rfl)).1) (SlF.own1 (hs19.own _ (nthL_mem (i := 1) rfl)).1) (SlF.ofOwn ho10 (hs19.ow L7)) (St.sepOwn (hs19.fr L14) (nthL_mem (i := 0) rfl)) (St.sepOwn (hs19.fr L14) (nthL_mem (i := 1) rfl)) (OwnF.sep (hs19.fr L14) (fun p_ hp_ => (List.mem_append_right [_, _] (List.mem_append_right _ (List.mem_append_left _ hp_)))) ho10) ?_ ?_) ?_
 iterate 2 first | assumption | rfl | omega
 rintro _ whs5 ⟨A20, c21, L1_22, rfl, hs5, ho23⟩
 replace hs5 := St.lend (hs19.fr L14) hs5
 refine ⟨_, rfl, ?_⟩
 replace hs5 := St.back [_, _] hs5
 obtain ⟨L24, hs25, hb26⟩ := Bag.keep (fun f : FileR => linkd s.Kept.xs f.Id) (hs5.fr L15) ho17
 have hs27 := ((hs25.fb b_s).fb b2)
 obtain ⟨L29, hs28, ho30⟩ := OwnN.fold ((hs27.fr L24).fr L1_22) ho23 hb26
 have hs31 := ((hs28.fb b_s).fb b2)
 skip
 refine WL.nil ⟨(((hs31.rm L29).rm L7).rm L8), WG.rn [7, 8] (((hs31.rm L29).rm L7).rm L8) [] rfl rfl (WG.oK rfl (WL.st tbk hs31 1 rfl rfl (fun _ hs32 => WL.nil ⟨((((hs32.fb b_s).d1.rm L29).rm L7).rm L8), WH.dn (retK0 rfl ?_)⟩)))⟩
 obtain ⟨L34, hs33, ho35⟩ := ownDiskR.fl hs32 ho30 ho10 ho11
 have hs36 := ((hs33.fb b_s).fb b2)
 refine ownDiskR.retp rfl ((hs36.fr L34).fb b_s) ho35 ?_
 · exact DiskD.ext' rfl rfl rfl onlyL_dat rfl rfl
theorem built_123_0 (x0 : Int) : Tryz.prog.built 123 [(0, .int .i64 x0)] = some (List.toArray [.int .i64 x0, .slice none 0 0, .int .i64 0]) := by kernel_rfl
theorem built_137_0_1_3 (x0 : Int) (x1 : ByteArray) (x2 : Int) : Tryz.prog.built 137 [(0, .int .i64 x0), (1, .string x1), (3, .int .i64 x2)] = some (List.toArray [.int .i64 x0, .string x1, .string ⟨#[]⟩, .int .i64 x2]) := by kernel_rfl
theorem built_137_0_1_2 (x0 : Int) (x1 : ByteArray) (x2 : ByteArray) : Tryz.prog.built 137 [(0, .int .i64 x0), (1, .string x1), (2, .string x2)] = some (List.toArray [.int .i64 x0, .string x1, .string x2, .int .i64 0]) := by kernel_rfl
set_option maxHeartbeats 8000000 in
theorem k104_ (b_s : Nat) (s : DiskR) (L_s : Hp) (op_Kind : Int) (op_Name : ByteArray) (op_To : ByteArray) (A_op_Data : Option Addr) (n_op_Data c_op_Data : Nat) (op_Data : List UInt8) (w : World) (hb_s : w.heap[b_s]? = some (Obj.cells (List.toArray [i64 s.Room, i64 s.Fuse, i64 s.Next, .slice s.Files.A s.Files.n s.Files.c, .slice s.Kept.A s.Kept.n s.Kept.c, .slice s.Turns.A s.Turns.n s.Turns.c]) 34 (0, 0))) (o_s : ownDiskR s L_s) (h_s : Hh w L_s) (f_op_Data : SlF encB w A_op_Data n_op_Data op_Data) (hcd : n_op_Data ≤ c_op_Data) (hd_ : (b_s :: L_s.map (·.1)).Nodup) (s_op_Data : 0 < n_op_Data → (adr A_op_Data).block ∉ (b_s :: L_s.map (·.1))) (hok : diskOk s.dat = true) (hr : refuse s.dat (⟨op_Kind, op_Name, op_To, op_Data⟩ : DiskOpD) = 0) (ho : dopOk (⟨op_Kind, op_Name, op_To, op_Data⟩ : DiskOpD) = true) (hsm : smDisk 549755813888 s.dat) :
    Calls Tryz.prog 90 #[.pointer (some ⟨b_s, 0, none⟩), .agg #[i64 op_Kind, .string op_Name, .string op_To, .slice A_op_Data n_op_Data c_op_Data]] w fun e w' => ∃ r L1, e = .returned (.int .i64 (doC s.dat (⟨op_Kind, op_Name, op_To, op_Data⟩ : DiskOpD))) ∧ St w (b_s :: L_s.map (·.1)) ([(b_s, Obj.cells (List.toArray [i64 r.Room, i64 r.Fuse, i64 r.Next, .slice r.Files.A r.Files.n r.Files.c, .slice r.Kept.A r.Kept.n r.Kept.c, .slice r.Turns.A r.Turns.n r.Turns.c]) 34 (0, 0))] ++ L1) w' ∧ ownDiskR r L1 ∧ r.dat = doD (fuse1 s.dat) (⟨op_Kind, op_Name, op_To, op_Data⟩ : DiskOpD) := by
 have hD := diskOk_P hok
 have hsmF : smDisk 549755813888 (fuse1 s.dat) := hsm
 have nl9 := f_op_Data.len
 have hn9 : n_op_Data ≤ 400000 := by have h9 := dop_len ho; simp only at h9; omega
 refine enter 158 Tryz.func90 rfl Tryz.ntmps90 rfl rfl ?_
 have hs1 := St.takeP w b_s _ L_s hb_s h_s hd_
 refine WC.sr (WL.bx hs1 rfl (fun b2 _ hs3 => WL.r 1 hs3 [] rfl (WL.nil (WC.seq (fun K4 hK4 => WC.r1 hs3 [1] rfl ?_)))))
 refine WC.jPK [0, 1, 3, 4, 8, 9, 10, 11, 12] rfl ((hs3.fr L_s).fb b_s) (fun o_ L_ => ∃ r : DiskR, o_ = Obj.cells (List.toArray [i64 r.Room, i64 r.Fuse, i64 r.Next, .slice r.Files.A r.Files.n r.Files.c, .slice r.Kept.A r.Kept.n r.Kept.c, .slice r.Turns.A r.Turns.n r.Turns.c]) 34 (0, 0) ∧ ownDiskR r L_ ∧ r.dat = fuse1 s.dat) ?_ ?_
 ·refine WC.cq rfl (fun h5 qh5 => ?_) (fun h5 qh5 => ?_)
  ·have hfu := h5
   have hfu2 := hD.small.2.2.2.2.2.2.1
   have hfu3 : s.Fuse ≤ 1000 := hfu2
   have hfu4 : 0 < s.Fuse := by simpa using hfu
   refine WC.region (WL.r 7 hs3 [1] rfl (WL.st tbk hs3 1 rfl rfl (fun _ hs6 => WL.nil ?_)))
   obtain ⟨L7, L8, L9, hs13, ho10, ho11, ho12⟩ := ownDiskR.op hs6 o_s
   have hs14 := ((hs13.fb b_s).fb b2)
   obtain ⟨L16, hs15, ho17⟩ := ownDiskR.fl hs14 ho10 ho11 ho12
   have hs18 := ((hs15.fb b_s).fb b2)
   refine tkN ⟨_, _, ((hs18.fr L16).fb b_s), ⟨⟨s.Room, (s.Fuse - (1)), s.Next, SlD.ofN ho10, SlD.of ho11, SlD.of ho12⟩, rfl, (by exact ho17), ?_⟩, sbF rfl⟩
   · unfold fuse1; rw [if_pos (show 0 < s.dat.Fuse from by show 0 < s.Fuse; simpa using hfu)]; first | done | rfl
  have hfu := h5
  refine WC.skip (tkN ⟨_, _, ((hs3.fr L_s).fb b_s), ⟨s, rfl, o_s, ?_⟩, sbF rfl⟩)
  · unfold fuse1; rw [if_neg (show ¬ 0 < s.dat.Fuse from by show ¬ 0 < s.Fuse; simpa using hfu)]; first | done | rfl
 rintro _ L19 _ ⟨r20, rfl, ho21, hd22⟩ hs23 f_ hf_
 refine hK4 _ _ (WC.sub _ hf_ ?_)
 clear hf_
 have hs24 := ((hs23.fb b2).fb b_s)
 have hsmr : smDisk 549755813888 (DiskR.dat r20) := by rw [hd22]; exact hsmF
 have hro := ownDiskR.ok (B := 549755813888) ho21 (hs24.ow L19) hsmr
 have hrok : diskOk (DiskR.dat r20) = true := by rw [hd22]; exact fuse_ok hok (refuse_fuse hr)
 have hrD := diskOk_P hrok
 have hrN : r20.Next = s.Next := congrArg DiskD.Next hd22
 have hrF : (DiskR.dat r20).Files = s.dat.Files := (show _ = (fuse1 s.dat).Files from congrArg DiskD.Files hd22)
 have hrfl := hro.Files.sl.len
 have hrkl := hro.Kept.len
 have hrtl := hro.Turns.len
 obtain ⟨ks1, ks2, ks3, ks4, ks5, ks6, ks7, ks8⟩ := hrD.small
 have hrf10 : r20.Files.xs.length ≤ 10 := by rw [← List.length_map (f := FileR.dat)]; exact ks1
 have hrt30 : r20.Turns.xs.length ≤ 30 := ks3
 have hrk10 : r20.Kept.xs.length ≤ 10 := ks2
 obtain ⟨hrm1, hrm2, hrm3⟩ := hrD.room
 have hrd : dirD (DiskR.dat r20) = dirD s.dat := by rw [hd22]; rfl
 have hrdl : (dirD (DiskR.dat r20)).length ≤ 40 := Nat.le_trans turnsL_len (by show r20.Kept.xs.length + r20.Turns.xs.length ≤ 40; omega)
 have hrr : roomD (DiskR.dat r20) = roomD s.dat := by unfold roomD; rw [hrF, show (DiskR.dat r20).Room = s.dat.Room from (show _ = (fuse1 s.dat).Room from congrArg DiskD.Room hd22)]
 have hrm1' : r20.Room - ((usedF (DiskR.dat r20).Files : Nat) : Int) = (roomD (DiskR.dat r20) : Int) := hrm1
 have hrm4 : r20.Room ≤ 400000 := hrm3
 have hrn0 : r20.Next ≤ 1000000 := ks4
 have hrn1 : 1 ≤ r20.Next := ks5
 refine WC.seq (fun K25 hK25 => WC.r1 hs24 [1] rfl (WC.block (WC.r1 hs24 [] rfl ?_)))
 refine WC.cq rfl (fun h26 qh26 => ?_) (fun h26 qh26 => ?_)
 ·have k1 : op_Kind = 1 := by have h9 := h26; simpa using h9
  have hc : doC s.dat (⟨op_Kind, op_Name, op_To, op_Data⟩ : DiskOpD) = 0 := doC_0 (show ¬ op_Kind = 2 by omega)
  refine WC.seq (fun K27 hK27 => WC.rG 11 (hs24.d1.rm L19) hs24 hs24 (fun _ hs28 => ?_))
  refine WG.rn [0, 1, 2, 3, 4, 5, 6, 7, 8] hs28 [0, 0] rfl rfl ?_
  refine WG.tk 9 rfl (by kernel_rfl) rfl rfl rfl hs28 (fun w_ hs_ => (Run.build rfl rfl rfl rfl (built_123_0 _))) ?_
  refine WG.o1 10 rfl rfl (WL.buildSlice hs28 Tryz.runUnderlying30 Tryz.sizeOf123 Tryz.zeroValue123 rfl rfl rfl rfl rfl rfl rfl rfl rfl rfl (fun b29 whs30 hs30 => WL.nil ⟨hs30.d1, WG.oK rfl ?_⟩))
  obtain ⟨L31, L32, L33, hs37, ho34, ho35, ho36⟩ := ownDiskR.op hs30 ho21
  have hs38 := (((hs37.fb b2).fb b_s).fb b29)
  obtain ⟨L40, L41, hs44, ho42, ho43⟩ := OwnN.open_ (hs38.fr L31) ho34
  have hs45 := (((hs44.fb b2).fb b_s).fb b29)
  refine WL.appendG (hs45.fr L40) ho42 (srcF (F := encFileR) (ys := [(⟨r20.Next, ⟨none, 0, 0, []⟩, 0⟩ : FileR)]) Tryz.underlying30 rfl rfl (hs45.own _ (nthL_mem (i := 0) rfl)).1) Tryz.underlying30 inf123 rfl rfl rfl rfl rfl rfl rfl rfl rfl rfl ?_ (fun A49 c50 L46 whs47 hs47 ho48 => ?_)
  · (try simp only [List.length_append, List.length_singleton, List.length_take]); omega
  replace hs47 := St.back [_, _, _] hs47
  obtain ⟨L51, hs52, hb53⟩ := Bag.put (x := (⟨r20.Next, ⟨none, 0, 0, []⟩, 0⟩ : FileR)) ((hs47.fr ([] : Hp)).fr L41) ho43 (OwnF.nil _ _)
  have hs54 := (((hs52.fb b2).fb b_s).fb b29)
  obtain ⟨L56, hs55, ho57⟩ := OwnN.fold ((hs54.fr L51).fr L46) ho48 hb53
  have hs58 := (((hs55.fb b2).fb b_s).fb b29)
  refine WL.nil ⟨(((hs58.d1.d1.rm L56).rm L32).rm L33), WH.rn [12, 13] (((hs58.d1.d1.rm L56).rm L32).rm L33) [] rfl rfl (WH.o1 14 rfl (WL.st tbk hs58 1 rfl rfl (fun _ hs59 => WL.nil ⟨(((hs59.d1.d1.rm L56).rm L32).rm L33), WH.dn (hK27 _ _ (WC.seq (fun K60 hK60 => ?_)))⟩)))⟩
  refine WC.rG 13 ((hs59.fb b_s).d1.rm L33) hs59 hs59 (fun _ hs61 => ?_)
  refine WG.rn [0, 1, 2, 3, 4, 5, 6, 7, 8, 9, 10] hs61 [1, 2, 1] rfl rfl ?_
  refine WG.tk 11 rfl (by kernel_rfl) rfl rfl rfl hs61 (fun w_ hs_ => (Run.build rfl rfl rfl rfl (built_137_0_1_3 _ _ _))) ?_
  refine WG.o1 12 rfl rfl (WL.buildSlice hs61 Tryz.runUnderlying32 Tryz.sizeOf137 Tryz.zeroValue137 rfl rfl rfl rfl rfl rfl rfl rfl rfl rfl (fun b62 whs63 hs63 => WL.nil ⟨hs63.d1, WG.oK rfl ?_⟩))
  refine WL.appendG (hs63.fr L33) ho36 (srcF (F := encTurn) (ys := [⟨1, op_Name, noName, r20.Next⟩]) Tryz.underlying32 rfl rfl (hs63.own _ (nthL_mem (i := 0) rfl)).1) Tryz.underlying32 inf137 rfl rfl rfl rfl rfl rfl rfl rfl rfl rfl ?_ (fun A67 c68 L64 whs65 hs65 ho66 => ?_)
  · (try simp only [List.length_append, List.length_singleton, List.length_take]); omega
  replace hs65 := St.back [_, _, _, _] hs65
  refine WL.nil ⟨((hs65.d1.fb b_s).d1.rm L64), WH.rn [14, 15] ((hs65.d1.fb b_s).d1.rm L64) [] rfl rfl (WH.o1 16 rfl (WL.st tbk hs65 2 rfl rfl (fun _ hs69 => WL.nil ⟨((hs69.d1.fb b_s).d1.rm L64), WH.dn (hK60 _ _ (WC.region ?_))⟩)))⟩
  refine WL.r 7 hs69 [2] rfl (WL.st tbk hs69 2 rfl rfl (fun _ hs70 => WL.nil (hK25 _ _ (WC.r1 hs70 [] rfl (WC.ret (retV1 rfl (resV.tmp rfl) ?_))))))
  obtain ⟨L72, hs71, ho73⟩ := ownDiskR.fl hs70 ho57 ho35 ho66
  have hs74 := ((((hs71.fb b2).fb b_s).fb b29).fb b62)
  refine ownDiskR.retp (by rw [hc]) ((hs74.fr L72).fb b_s) ho73 ?_
  · unfold doD; rw [if_pos (show ((⟨op_Kind, op_Name, op_To, op_Data⟩ : DiskOpD)).Kind = 1 from k1), ← hd22]; exact DiskD.ext' rfl rfl rfl (by show List.map FileR.dat (_ ++ _) = _; rw [List.map_append]; rfl) rfl rfl
 have k1 : ¬ op_Kind = 1 := by have h9 := h26; simpa using h9
 refine WC.r1 hs24 [] rfl (WC.cq rfl (fun h75 qh75 => ?_) (fun h75 qh75 => ?_))
 ·have k2 : op_Kind = 2 := by have h9 := h75; simpa using h9
  have hh : hasN (dirD (DiskR.dat r20)) op_Name = true := by rw [hrd]; exact (refuse_has hr (show op_Kind ≠ 6 by omega)).trans (by rw [show decide (((⟨op_Kind, op_Name, op_To, op_Data⟩ : DiskOpD)).Kind = 1) = false from decide_eq_false (show ¬ op_Kind = 1 by omega)]; rfl)
  have hfn := (hrD.at hh).1
  have hfi := fileI_y hh
  have hfn2 : (fileN (DiskR.dat r20) op_Name) < r20.Files.xs.length := by rw [← List.length_map (f := FileR.dat)]; exact hfn
  have hyb := (hro.Files.all _ (gat_mem (F := encFileR) (xs := r20.Files.xs) (k := (fileN (DiskR.dat r20) op_Name)) hfn2)).Body.len
  have hyn := (hro.Files.all _ (gat_mem (F := encFileR) (xs := r20.Files.xs) (k := (fileN (DiskR.dat r20) op_Name)) hfn2)).Body_n
  have hyu : (gat encFileR r20.Files.xs (fileN (DiskR.dat r20) op_Name)).Body.xs.length ≤ usedF (DiskR.dat r20).Files := usedF_gat hfn2
  refine WC.sq1 hs24 (WQ.r 7 [0, 0] rfl ?_)
  refine WQ.call rfl rfl rfl (fun w_ hs_ => (Run.call Tryz.call152 rfl rfl rfl)) (fun w_ hs_ => (k68_ r20 _ (ownDiskR.ok (B := 549755813888) ho21 ((hs_ : St _ _ _ _).ow L19) hsmr) ?_).mono fun e_ w_ h_ => ⟨h_.1, (hs_ : St _ _ _ _).call0 h_.2⟩) ?_
  · first | assumption | rfl | omega
  refine WQ.r 2 [] rfl (WQ.nil (fun _ (hs76 : St _ _ _ _) => WC.sq1 hs76 (WQ.r 9 [0, 0, 1] rfl ?_)))
  refine WQ.call rfl rfl rfl (fun w_ hs_ => (Run.call Tryz.call117 rfl rfl rfl)) (fun w_ hs_ => (k87_ r20 _ _ (ownDiskR.ok (B := 549755813888) ho21 ((hs_ : St _ _ _ _).ow L19) hsmr) ?_).mono fun e_ w_ h_ => ⟨h_.1, (hs_ : St _ _ _ _).call0 h_.2⟩) ?_
  · first | assumption | rfl | omega
  refine WQ.val rfl rfl rfl (fun w_ hs_ => (Run.idxK ((fileN (DiskR.dat r20) op_Name)) Tryz.runUnderlying30 Tryz.sizeOf123 rfl rfl rfl ?_ ?_ ?_)) ?_
  · exact SlF.some_ (ownDiskR.ok (B := 549755813888) ho21 ((hs_ : St _ _ _ _).ow L19) hsmr).Files.sl
  · omega
  · omega
  refine WQ.r 1 [] rfl (WQ.nil (fun _ (hs77 : St _ _ _ _) => WC.seq (fun K78 hK78 => WC.rG 13 (hs77.rm L19) hs77 hs77 (fun _ hs79 => ?_))))
  refine WG.rn [0, 1, 2] hs79 [] rfl rfl ?_
  refine WG.tk 3 rfl (by kernel_rfl) rfl rfl rfl hs79 (fun w_ hs_ => (Run.fieldO Tryz.runUnderlying123 rfl rfl rfl Tryz.sizeOf43 rfl)) ?_
  refine WG.tk 4 rfl (by kernel_rfl) rfl rfl rfl hs79 (fun w_ hs_ => (Run.load Tryz.isAgg43 rfl rfl (SlF.fld (ownDiskR.ok (B := 549755813888) ho21 ((hs_ : St _ _ _ _).ow L19) hsmr).Files.sl ?_ rfl))) ?_
  · omega
  refine WG.rn [5, 6, 7, 8, 9, 10, 11] hs79 [1, 1] rfl rfl ?_
  refine WG.tk 12 rfl (by kernel_rfl) rfl rfl rfl hs79 (fun w_ hs_ => (Run.sliceH ((min (roomD (DiskR.dat r20)) n_op_Data)) Tryz.runUnderlying43 Tryz.sizeOf5 rfl rfl rfl ?_ ?_)) ?_
  · first | rfl | (omega)
  · refine ⟨?_, ?_, ?_⟩ <;> (omega)
  refine WG.oK rfl ?_
  obtain ⟨L80, L81, L82, hs86, ho83, ho84, ho85⟩ := ownDiskR.op hs79 ho21
  have hs87 := ((hs86.fb b2).fb b_s)
  obtain ⟨L88, L89, hs92, ho90, ho91⟩ := OwnN.open_ (hs87.fr L80) ho83
  have hs93 := ((hs92.fb b2).fb b_s)
  obtain ⟨L94, L95, L96, hs97, ho98, hp99⟩ := Bag.out (F := encFileR) (i := (fileN (DiskR.dat r20) op_Name)) (hs93.fr L89) ho91 (by omega)
  have hs100 := ((hs97.fb b2).fb b_s)
  refine WL.appendG (hs100.fr L95) ho98 (SlF.src (SlF.cutH ((min (roomD (DiskR.dat r20)) n_op_Data)) (SlF.st f_op_Data hs100 s_op_Data) (by refine ⟨?_, ?_, ?_⟩ <;> (omega))) Tryz.underlying43) Tryz.underlying43 inf5 rfl rfl rfl rfl rfl rfl rfl rfl rfl rfl ?_ (fun A104 c105 L101 whs102 hs102 ho103 => ?_)
  · (try simp only [List.length_append, List.length_singleton, List.length_take]); omega
  replace hs102 := St.back [_, _] hs102
  refine WL.nil ⟨(((((hs102.rm L101).rm (L94 ++ L96)).rm L88).rm L81).rm L82), WH.rn [14] (((((hs102.rm L101).rm (L94 ++ L96)).rm L88).rm L81).rm L82) [] rfl rfl ?_⟩
  refine WH.take 15 rfl (by kernel_rfl) rfl rfl rfl (((((hs102.rm L101).rm (L94 ++ L96)).rm L88).rm L81).rm L82) (fun w_ hs_ => (Run.fieldO Tryz.runUnderlying123 rfl rfl rfl Tryz.sizeOf43 rfl)) ?_
  refine WH.o1 16 rfl (WL.storeF (x' := ({ (gat encFileR r20.Files.xs (fileN (DiskR.dat r20) op_Name)) with Body := ⟨A104, ((gat encFileR r20.Files.xs (fileN (DiskR.dat r20) op_Name)).Body.xs ++ op_Data.take (min (roomD (DiskR.dat r20)) n_op_Data)).length, c105, ((gat encFileR r20.Files.xs (fileN (DiskR.dat r20) op_Name)).Body.xs ++ op_Data.take (min (roomD (DiskR.dat r20)) n_op_Data))⟩ } : FileR)) (hs102.fr L88) ho90 Tryz.sizeOf43 rfl rfl rfl rfl rfl rfl rfl rfl rfl ?_ rfl (fun L106 whs107 hs107 ho108 _ => ?_))
  · omega
  replace hs107 := St.back [_, _] hs107
  obtain ⟨L109, hs110, hb111⟩ := hp99 ({ (gat encFileR r20.Files.xs (fileN (DiskR.dat r20) op_Name)) with Body := ⟨A104, ((gat encFileR r20.Files.xs (fileN (DiskR.dat r20) op_Name)).Body.xs ++ op_Data.take (min (roomD (DiskR.dat r20)) n_op_Data)).length, c105, ((gat encFileR r20.Files.xs (fileN (DiskR.dat r20) op_Name)).Body.xs ++ op_Data.take (min (roomD (DiskR.dat r20)) n_op_Data))⟩ } : FileR) _ ((hs107.fr (L94 ++ L96)).fr L101) (by have h_ := ho103; exact h_)
  have hs113 := ((hs110.fb b2).fb b_s)
  have ho112 := ho108
  obtain ⟨L115, hs114, ho116⟩ := OwnN.fold ((hs113.fr L109).fr L106) ho112 hb111
  have hs117 := ((hs114.fb b2).fb b_s)
  refine WL.nil ⟨(((hs117.rm L115).rm L81).rm L82), WH.dn (hK78 _ _ (WC.r1 hs117 [1] rfl ?_))⟩
  refine WC.cq rfl (fun h118 qh118 => ?_) (fun h118 qh118 => ?_)
  ·have hc : doC s.dat (⟨op_Kind, op_Name, op_To, op_Data⟩ : DiskOpD) = 5 := if_pos ⟨k2, by have h9 := h118; rw [hrm1'] at h9; rw [← hrr]; show _ < op_Data.length; simp at h9; omega⟩
   refine WC.r1 hs117 [] rfl (WC.ret (ibR (tkR ?_)))
   clear hK25
   refine retV1 rfl (resV.tmp rfl) ?_
   obtain ⟨L120, hs119, ho121⟩ := ownDiskR.fl hs117 ho116 ho84 ho85
   have hs122 := ((hs119.fb b2).fb b_s)
   refine ownDiskR.retp (by rw [hc]) ((hs122.fr L120).fb b_s) ho121 ?_
   · unfold doD; rw [if_neg (show ¬ ((⟨op_Kind, op_Name, op_To, op_Data⟩ : DiskOpD)).Kind = 1 from (by first | assumption | (show ¬ op_Kind = 1; omega))), if_pos (show ((⟨op_Kind, op_Name, op_To, op_Data⟩ : DiskOpD)).Kind = 2 from k2), ← hd22]; exact DiskD.ext' rfl rfl rfl (files_set (by rw [show fAt (DiskR.dat r20).Files (fileN (DiskR.dat r20) op_Name) = FileR.dat (gat encFileR r20.Files.xs (fileN (DiskR.dat r20) op_Name)) from fAt_dat hfn2]; exact FileD.ext' rfl (by show _ ++ _ = _ ++ _; rw [take_min nl9]; rfl) rfl)) rfl rfl
  have hc : doC s.dat (⟨op_Kind, op_Name, op_To, op_Data⟩ : DiskOpD) = 0 := if_neg fun h_ => by have h9 := h118; rw [hrm1'] at h9; have h8 := h_.2; rw [← hrr] at h8; replace h8 : _ < op_Data.length := h8; simp at h9; omega
  refine WC.skip (hK25 _ _ (WC.r1 hs117 [] rfl (WC.ret (retV1 rfl (resV.tmp rfl) ?_))))
  obtain ⟨L124, hs123, ho125⟩ := ownDiskR.fl hs117 ho116 ho84 ho85
  have hs126 := ((hs123.fb b2).fb b_s)
  refine ownDiskR.retp (by rw [hc]) ((hs126.fr L124).fb b_s) ho125 ?_
  · unfold doD; rw [if_neg (show ¬ ((⟨op_Kind, op_Name, op_To, op_Data⟩ : DiskOpD)).Kind = 1 from (by first | assumption | (show ¬ op_Kind = 1; omega))), if_pos (show ((⟨op_Kind, op_Name, op_To, op_Data⟩ : DiskOpD)).Kind = 2 from k2), ← hd22]; exact DiskD.ext' rfl rfl rfl (files_set (by rw [show fAt (DiskR.dat r20).Files (fileN (DiskR.dat r20) op_Name) = FileR.dat (gat encFileR r20.Files.xs (fileN (DiskR.dat r20) op_Name)) from fAt_dat hfn2]; exact FileD.ext' rfl (by show _ ++ _ = _ ++ _; rw [take_min nl9]; rfl) rfl)) rfl rfl
 have k2 : ¬ op_Kind = 2 := by have h9 := h75; simpa using h9
 have hc : doC s.dat (⟨op_Kind, op_Name, op_To, op_Data⟩ : DiskOpD) = 0 := doC_0 (show ¬ op_Kind = 2 by omega)
 refine WC.r1 hs24 [] rfl (WC.cq rfl (fun h127 qh127 => ?_) (fun h127 qh127 => ?_))
 ·have k3 : op_Kind = 3 := by have h9 := h127; simpa using h9
  have hh : hasN (dirD (DiskR.dat r20)) op_Name = true := by rw [hrd]; exact (refuse_has hr (show op_Kind ≠ 6 by omega)).trans (by rw [show decide (((⟨op_Kind, op_Name, op_To, op_Data⟩ : DiskOpD)).Kind = 1) = false from decide_eq_false (show ¬ op_Kind = 1 by omega)]; rfl)
  have hfn := (hrD.at hh).1
  have hfi := fileI_y hh
  have hfn2 : (fileN (DiskR.dat r20) op_Name) < r20.Files.xs.length := by rw [← List.length_map (f := FileR.dat)]; exact hfn
  have hyb := (hro.Files.all _ (gat_mem (F := encFileR) (xs := r20.Files.xs) (k := (fileN (DiskR.dat r20) op_Name)) hfn2)).Body.len
  have hyn := (hro.Files.all _ (gat_mem (F := encFileR) (xs := r20.Files.xs) (k := (fileN (DiskR.dat r20) op_Name)) hfn2)).Body_n
  have hyu : (gat encFileR r20.Files.xs (fileN (DiskR.dat r20) op_Name)).Body.xs.length ≤ usedF (DiskR.dat r20).Files := usedF_gat hfn2
  refine WC.sq1 hs24 (WQ.r 9 [0, 0, 1] rfl ?_)
  refine WQ.call rfl rfl rfl (fun w_ hs_ => (Run.call Tryz.call117 rfl rfl rfl)) (fun w_ hs_ => (k87_ r20 _ _ (ownDiskR.ok (B := 549755813888) ho21 ((hs_ : St _ _ _ _).ow L19) hsmr) ?_).mono fun e_ w_ h_ => ⟨h_.1, (hs_ : St _ _ _ _).call0 h_.2⟩) ?_
  · first | assumption | rfl | omega
  refine WQ.val rfl rfl rfl (fun w_ hs_ => (Run.idxK ((fileN (DiskR.dat r20) op_Name)) Tryz.runUnderlying30 Tryz.sizeOf123 rfl rfl rfl ?_ ?_ ?_)) ?_
  · exact SlF.some_ (ownDiskR.ok (B := 549755813888) ho21 ((hs_ : St _ _ _ _).ow L19) hsmr).Files.sl
  · omega
  · omega
  refine WQ.r 1 [] rfl (WQ.nil (fun _ (hs128 : St _ _ _ _) => WC.region (WL.r 3 hs128 [] rfl (WL.val rfl rfl rfl (Run.fieldO Tryz.runUnderlying123 rfl rfl rfl Tryz.sizeOf43 rfl) ?_))))
  refine WL.val rfl rfl rfl (Run.load Tryz.isAgg43 rfl rfl (SlF.fld (ownDiskR.ok (B := 549755813888) ho21 (hs128.ow L19) hsmr).Files.sl ?_ rfl)) ?_
  · omega
  refine WL.r 2 hs128 [] rfl ?_
  refine WL.val rfl rfl rfl (Run.fieldO Tryz.runUnderlying123 rfl rfl rfl Tryz.sizeOf3 rfl) ?_
  obtain ⟨L129, L130, L131, hs135, ho132, ho133, ho134⟩ := ownDiskR.op hs128 ho21
  have hs136 := ((hs135.fb b2).fb b_s)
  obtain ⟨L137, L138, hs141, ho139, ho140⟩ := OwnN.open_ (hs136.fr L129) ho132
  have hs142 := ((hs141.fb b2).fb b_s)
  refine WL.storeF (x' := ({ (gat encFileR r20.Files.xs (fileN (DiskR.dat r20) op_Name)) with Safe := ((gat encFileR r20.Files.xs (fileN (DiskR.dat r20) op_Name)).Body.n : Int) } : FileR)) (hs142.fr L137) ho139 Tryz.sizeOf3 rfl rfl rfl rfl rfl rfl rfl rfl rfl ?_ rfl (fun L143 whs144 hs144 ho145 _ => ?_)
  · omega
  replace hs144 := St.back [_, _] hs144
  have hb146 := Bag.same (i := (fileN (DiskR.dat r20) op_Name)) (x := ({ (gat encFileR r20.Files.xs (fileN (DiskR.dat r20) op_Name)) with Safe := ((gat encFileR r20.Files.xs (fileN (DiskR.dat r20) op_Name)).Body.n : Int) } : FileR)) ho140 (fun y_ L_ e_ h_ => by cases (e_.symm.trans (gat_get (F := encFileR) (by (try simp only [List.length_set]); omega))); first | exact h_ | (rw [gat_set (by (try simp only [List.length_set]); omega) rfl] at h_; exact h_))
  refine WL.nil (hK25 _ _ (WC.r1 hs144 [] rfl (WC.ret (retV1 rfl (resV.tmp rfl) ?_))))
  obtain ⟨L148, hs147, ho149⟩ := OwnN.fold ((hs144.fr L138).fr L143) ho145 hb146
  have hs150 := ((hs147.fb b2).fb b_s)
  obtain ⟨L152, hs151, ho153⟩ := ownDiskR.fl hs150 ho149 ho133 ho134
  have hs154 := ((hs151.fb b2).fb b_s)
  refine ownDiskR.retp (by rw [hc]) ((hs154.fr L152).fb b_s) ho153 ?_
  · unfold doD; rw [if_neg (show ¬ ((⟨op_Kind, op_Name, op_To, op_Data⟩ : DiskOpD)).Kind = 1 from (by first | assumption | (show ¬ op_Kind = 1; omega))), if_neg (show ¬ ((⟨op_Kind, op_Name, op_To, op_Data⟩ : DiskOpD)).Kind = 2 from (by first | assumption | (show ¬ op_Kind = 2; omega))), if_pos (show ((⟨op_Kind, op_Name, op_To, op_Data⟩ : DiskOpD)).Kind = 3 from k3), ← hd22]; exact DiskD.ext' rfl rfl rfl (files_set (by rw [show fAt (DiskR.dat r20).Files (fileN (DiskR.dat r20) op_Name) = FileR.dat (gat encFileR r20.Files.xs (fileN (DiskR.dat r20) op_Name)) from fAt_dat hfn2]; exact FileD.ext' rfl rfl (by show ((_ : Nat) : Int) = ((_ : Nat) : Int); rw [← hyb]; rfl))) rfl rfl
 have k3 : ¬ op_Kind = 3 := by have h9 := h127; simpa using h9
 refine WC.seq (fun K155 hK155 => WC.r1 hs24 [] rfl ?_)
 refine WC.cq rfl (fun h156 qh156 => ?_) (fun h156 qh156 => ?_)
 ·have k45 : op_Kind = 4 ∨ op_Kind = 5 := by have h9 := h156; simp at h9; omega
  refine WC.skip (hK155 _ _ (WC.condT rfl h156 (WC.rG 13 (hs24.d1.rm L19) hs24 hs24 (fun _ hs158 => ?_))))
  refine WG.rn [0, 1, 2, 3, 4, 5, 6, 7, 8, 9, 10] hs158 [0, 1, 1, 1] rfl rfl ?_
  refine WG.tk 11 rfl (by kernel_rfl) rfl rfl rfl hs158 (fun w_ hs_ => (Run.build rfl rfl rfl rfl (built_137_0_1_2 _ _ _))) ?_
  refine WG.o1 12 rfl rfl (WL.buildSlice hs158 Tryz.runUnderlying32 Tryz.sizeOf137 Tryz.zeroValue137 rfl rfl rfl rfl rfl rfl rfl rfl rfl rfl (fun b159 whs160 hs160 => WL.nil ⟨hs160.d1, WG.oK rfl ?_⟩))
  obtain ⟨L161, L162, L163, hs167, ho164, ho165, ho166⟩ := ownDiskR.op hs160 ho21
  have hs168 := (((hs167.fb b2).fb b_s).fb b159)
  refine WL.appendG (hs168.fr L163) ho166 (srcF (F := encTurn) (ys := [⟨op_Kind, op_Name, op_To, 0⟩]) Tryz.underlying32 rfl rfl (hs168.own _ (nthL_mem (i := 0) rfl)).1) Tryz.underlying32 inf137 rfl rfl rfl rfl rfl rfl rfl rfl rfl rfl ?_ (fun A172 c173 L169 whs170 hs170 ho171 => ?_)
  · (try simp only [List.length_append, List.length_singleton, List.length_take]); omega
  replace hs170 := St.back [_, _, _] hs170
  refine WL.nil ⟨(((hs170.d1.d1.rm L169).rm L161).rm L162), WH.rn [14, 15] (((hs170.d1.d1.rm L169).rm L161).rm L162) [] rfl rfl (WH.o1 16 rfl (WL.st tbk hs170 1 rfl rfl (fun _ hs174 => WL.nil ⟨(((hs174.d1.d1.rm L169).rm L161).rm L162), WH.dn (hK25 _ _ (WC.r1 hs174 [] rfl ?_))⟩)))⟩
  refine WC.ret (retV1 rfl (resV.tmp rfl) ?_)
  obtain ⟨L176, hs175, ho177⟩ := ownDiskR.fl hs174 ho164 ho165 ho171
  have hs178 := (((hs175.fb b2).fb b_s).fb b159)
  refine ownDiskR.retp (by rw [hc]) ((hs178.fr L176).fb b_s) ho177 ?_
  · unfold doD; rw [if_neg (show ¬ ((⟨op_Kind, op_Name, op_To, op_Data⟩ : DiskOpD)).Kind = 1 from (by first | assumption | (show ¬ op_Kind = 1; omega))), if_neg (show ¬ ((⟨op_Kind, op_Name, op_To, op_Data⟩ : DiskOpD)).Kind = 2 from (by first | assumption | (show ¬ op_Kind = 2; omega))), if_neg (show ¬ ((⟨op_Kind, op_Name, op_To, op_Data⟩ : DiskOpD)).Kind = 3 from (by first | assumption | (show ¬ op_Kind = 3; omega))), if_neg (show ¬ ((⟨op_Kind, op_Name, op_To, op_Data⟩ : DiskOpD)).Kind = 6 from (by first | assumption | (show ¬ op_Kind = 6; omega))), ← hd22]; rfl
 have k45n : ¬ op_Kind = 4 := by first | assumption | (have h9 := h156; simp at h9; omega)
 refine WC.region (WL.r 2 hs24 [] rfl (WL.nil (hK155 _ _ ?_)))
 refine WC.cq rfl (fun h179 qh179 => ?_) (fun h179 qh179 => ?_)
 ·have k45 : op_Kind = 4 ∨ op_Kind = 5 := by have h9 := h179; simp at h9; omega
  refine WC.rG 13 (hs24.d1.rm L19) hs24 hs24 (fun _ hs180 => ?_)
  refine WG.rn [0, 1, 2, 3, 4, 5, 6, 7, 8, 9, 10] hs180 [0, 1, 1, 1] rfl rfl ?_
  refine WG.tk 11 rfl (by kernel_rfl) rfl rfl rfl hs180 (fun w_ hs_ => (Run.build rfl rfl rfl rfl (built_137_0_1_2 _ _ _))) ?_
  refine WG.o1 12 rfl rfl (WL.buildSlice hs180 Tryz.runUnderlying32 Tryz.sizeOf137 Tryz.zeroValue137 rfl rfl rfl rfl rfl rfl rfl rfl rfl rfl (fun b181 whs182 hs182 => WL.nil ⟨hs182.d1, WG.oK rfl ?_⟩))
  obtain ⟨L183, L184, L185, hs189, ho186, ho187, ho188⟩ := ownDiskR.op hs182 ho21
  have hs190 := (((hs189.fb b2).fb b_s).fb b181)
  refine WL.appendG (hs190.fr L185) ho188 (srcF (F := encTurn) (ys := [⟨op_Kind, op_Name, op_To, 0⟩]) Tryz.underlying32 rfl rfl (hs190.own _ (nthL_mem (i := 0) rfl)).1) Tryz.underlying32 inf137 rfl rfl rfl rfl rfl rfl rfl rfl rfl rfl ?_ (fun A194 c195 L191 whs192 hs192 ho193 => ?_)
  · (try simp only [List.length_append, List.length_singleton, List.length_take]); omega
  replace hs192 := St.back [_, _, _] hs192
  refine WL.nil ⟨(((hs192.d1.d1.rm L191).rm L183).rm L184), WH.rn [14, 15] (((hs192.d1.d1.rm L191).rm L183).rm L184) [] rfl rfl (WH.o1 16 rfl (WL.st tbk hs192 1 rfl rfl (fun _ hs196 => WL.nil ⟨(((hs196.d1.d1.rm L191).rm L183).rm L184), WH.dn (hK25 _ _ (WC.r1 hs196 [] rfl ?_))⟩)))⟩
  refine WC.ret (retV1 rfl (resV.tmp rfl) ?_)
  obtain ⟨L198, hs197, ho199⟩ := ownDiskR.fl hs196 ho186 ho187 ho193
  have hs200 := (((hs197.fb b2).fb b_s).fb b181)
  refine ownDiskR.retp (by rw [hc]) ((hs200.fr L198).fb b_s) ho199 ?_
  · unfold doD; rw [if_neg (show ¬ ((⟨op_Kind, op_Name, op_To, op_Data⟩ : DiskOpD)).Kind = 1 from (by first | assumption | (show ¬ op_Kind = 1; omega))), if_neg (show ¬ ((⟨op_Kind, op_Name, op_To, op_Data⟩ : DiskOpD)).Kind = 2 from (by first | assumption | (show ¬ op_Kind = 2; omega))), if_neg (show ¬ ((⟨op_Kind, op_Name, op_To, op_Data⟩ : DiskOpD)).Kind = 3 from (by first | assumption | (show ¬ op_Kind = 3; omega))), if_neg (show ¬ ((⟨op_Kind, op_Name, op_To, op_Data⟩ : DiskOpD)).Kind = 6 from (by first | assumption | (show ¬ op_Kind = 6; omega))), ← hd22]; rfl
 have k45n : ¬ op_Kind = 4 := by first | assumption | (have h9 := h179; simp at h9; omega)
 refine WC.r1 hs24 [] rfl (WC.cq rfl (fun h201 qh201 => ?_) (fun h201 qh201 => ?_))
 ·have k6 : op_Kind = 6 := by have h9 := h201; simpa using h9
  refine WC.sr (WL.r 5 hs24 [0] rfl (WL.cl Tryz.call134 rfl (k84_ r20 _ (ownDiskR.ok (B := 549755813888) ho21 (hs24.ow L19) hsmr) ?_) ?_))
  · first | assumption | rfl | omega | (show r20.Files.xs.length ≤ 1048576; omega) | (show (dirD (DiskR.dat r20)).length ≤ 1048576; omega)
  rintro _ whs202 ⟨A203, c204, L1_205, rfl, hs202, ho206⟩
  replace hs202 := hs24.callF hs202
  refine ⟨_, rfl, ?_⟩
  replace hs202 := St.back [_, _] hs202
  refine WL.r 2 hs202 [] rfl (WL.st tbk hs202 0 rfl rfl (fun _ hs207 => WL.r 2 hs207 [] rfl (WL.st tbk hs207 0 rfl rfl (fun _ hs208 => WL.nil (WC.region (WL.r 1 hs208 [] rfl ?_))))))
  obtain ⟨L209, L210, L211, hs215, ho212, ho213, ho214⟩ := ownDiskR.op hs208 ho21
  have hs216 := ((hs215.fb b2).fb b_s)
  obtain ⟨L219, hs218, ho220⟩ := ownDiskR.fl hs216 ho212 ho206 (OwnF.nil _ _)
  have hs221 := ((hs218.fb b2).fb b_s)
  have hF222 := ((hs221.fr L219).fb b_s)
  refine WL.cl Tryz.call85 rfl (k103_ _ ⟨r20.Room, r20.Fuse, r20.Next, SlD.ofN ho212, SlD.of ho206, ⟨none, 0, 0, []⟩⟩ _ _ (St.headP hF222) (by exact ho220) (St.ownP hF222) (St.nodupP hF222) ?_ ?_) ?_
  iterate 2 first | assumption | rfl | omega | (show r20.Files.xs.length ≤ 1048576; omega) | (show (dirD (DiskR.dat r20)).length ≤ 1048576; omega)
  rintro _ whs223 ⟨r224, L225, rfl, hs223, ho226, hd227⟩
  replace hs223 := St.lendP hF222 hs223
  refine ⟨_, rfl, ?_⟩
  have hs228 := ((hs223.fb b2).fb b_s)
  refine WL.nil (hK25 _ _ (WC.r1 hs228 [] rfl (WC.ret (retV1 rfl (resV.tmp rfl) (⟨r224, _, (by rw [hc]), St.keepP (L1 := L225) ((hs228.fr L225).fb b_s), ho226, ?_⟩)))))
  · unfold doD; rw [if_neg (show ¬ ((⟨op_Kind, op_Name, op_To, op_Data⟩ : DiskOpD)).Kind = 1 from (by first | assumption | (show ¬ op_Kind = 1; omega))), if_neg (show ¬ ((⟨op_Kind, op_Name, op_To, op_Data⟩ : DiskOpD)).Kind = 2 from (by first | assumption | (show ¬ op_Kind = 2; omega))), if_neg (show ¬ ((⟨op_Kind, op_Name, op_To, op_Data⟩ : DiskOpD)).Kind = 3 from (by first | assumption | (show ¬ op_Kind = 3; omega))), if_pos (show ((⟨op_Kind, op_Name, op_To, op_Data⟩ : DiskOpD)).Kind = 6 from k6), ← hd22]; exact hd227
 have k6 : ¬ op_Kind = 6 := by have h9 := h201; simpa using h9
 refine WC.skip (hK25 _ _ (WC.r1 hs24 [] rfl (WC.ret (retV1 rfl (resV.tmp rfl) (⟨r20, _, (by rw [hc]), St.keepP (L1 := L19) ((hs24.fr L19).fb b_s), ho21, ?_⟩)))))
 · exfalso; have h9 := dop_kind ho; simp only at h9; omega
theorem built_34 : Tryz.prog.built 34 [] = some (List.toArray [.int .i64 0, .int .i64 0, .int .i64 0, .slice none 0 0, .slice none 0 0, .slice none 0 0]) := by kernel_rfl
set_option maxHeartbeats 4000000 in
theorem k105_ (d : DiskR) (op : DiskOpR) (w : World) (f_d : okDiskR 549755813888 w d) (f_op : okDiskOpR 549755813888 w op) (hb : totDisk d.dat ≤ 1048576) :
    Calls Tryz.prog 43 #[.agg #[i64 d.Room, i64 d.Fuse, i64 d.Next, .slice d.Files.A d.Files.n d.Files.c, .slice d.Kept.A d.Kept.n d.Kept.c, .slice d.Turns.A d.Turns.n d.Turns.c], .agg #[i64 op.Kind, .string op.Name, .string op.To, .slice op.Data.A op.Data.n op.Data.c]] w fun e w' => ∃ r L1, e = .returned (.tuple #[.agg #[i64 r.Room, i64 r.Fuse, i64 r.Next, .slice r.Files.A r.Files.n r.Files.c, .slice r.Kept.A r.Kept.n r.Kept.c, .slice r.Turns.A r.Turns.n r.Turns.c], .int .i64 (doneC d.dat op.dat)]) ∧ St w [] L1 w' ∧ ownDiskR r L1 ∧ r.dat = doneD d.dat op.dat := by
 have nb_d_Files := f_d.Files_n
 have nl_d_Files := f_d.Files.sl.len
 have nb_d_Kept := f_d.Kept_n
 have nl_d_Kept := f_d.Kept.len
 have nb_d_Turns := f_d.Turns_n
 have nl_d_Turns := f_d.Turns.len
 have nz_op_Name := f_op.Name_z
 have nz_op_To := f_op.To_z
 have nb_op_Data := f_op.Data_n
 have nl_op_Data := f_op.Data.len
 have hsm : smDisk 1048576 d.dat := totDisk_sm hb
 have hsmB : smDisk 549755813888 d.dat := totDisk_sm (by omega)
 refine enter 31 Tryz.func43 rfl Tryz.ntmps43 rfl rfl ?_
 have hs1 := St.init w
 refine WC.sr (WL.bx hs1 rfl (fun b2 _ hs3 => WL.bx hs3 rfl (fun b4 _ hs5 => WL.al hs5 Tryz.zeroValue34 rfl rfl (fun b6 _ hs7 => WL.r 1 hs7 [] rfl (WL.nil (WC.seq (fun K8 hK8 => WC.sr ?_)))))))
 refine WL.r 1 hs7 [2] rfl (WL.cl Tryz.call56 rfl (k82_ d _ (okDiskR.st0 f_d hs7) ?_) ?_)
 · first | assumption | rfl | omega | exact hrf | exact hop
 rintro _ whs9 ⟨rfl, hs9⟩
 replace hs9 := hs7.call0 hs9
 refine ⟨_, rfl, WL.r 2 hs9 [] rfl ?_⟩
 apply WL.gO 3 Acts.nil hs9 rfl
 ·intro g10 J11
  have qg10 := g10
  try simp only [bf, within_iff, within_not] at qg10
  refine WL.runA tbk 1 (Acts.nil.cons (j := 3) rfl g10) hs9 [1] rfl ⟨rfl, trivial⟩ (WL.call (wantF rfl g10) rfl rfl (Run.call Tryz.call88 rfl rfl rfl) (k88_ op _ (okDiskOpR.st0 f_op hs9)) ?_)
  rintro _ whs12 ⟨rfl, hs12⟩
  replace hs12 := hs9.call0 hs12
  refine ⟨_, rfl, WL.runA tbk 1 (Acts.nil.cons (j := 3) rfl g10) hs12 [] rfl trivial (WL.eO 3 Acts.nil J11 hs12 g10 rfl rfl)⟩
 intro _ hs13
 refine WL.nil (WC.cq rfl (fun h14 qh14 => ?_) (fun h14 qh14 => ?_))
 ·have hbad : (diskOk d.dat && dopOk op.dat) = false := by have h9 := h14; revert h9; cases diskOk d.dat <;> cases dopOk op.dat <;> simp
  obtain ⟨hdn, hc⟩ := done_bad hbad
  refine WC.sr ?_
  refine WL.val rfl rfl rfl (Run.build rfl rfl rfl rfl (built_34)) (WL.st tbk hs13 0 rfl rfl (fun _ hs15 => WL.r 1 hs15 [] rfl (WL.nil (WC.ret (tkR ?_)))))
  clear hK8
  refine retV2 rfl (resV.cellA tbk hs15 0 rfl rfl rfl rfl) (resV.tmp rfl) ?_
  obtain ⟨L20, hs19, ho21⟩ := ownDiskR.fl hs15 (OwnN.nil _ _ _) (OwnF.nil _ _) (OwnF.nil _ _)
  have hs22 := (((hs19.fb b2).fb b4).fb b6)
  refine ⟨⟨0, 0, 0, ⟨none, 0, 0, []⟩, ⟨none, 0, 0, []⟩, ⟨none, 0, 0, []⟩⟩, _, (by rw [hc]; first | done | rfl), (St.keep1 (hs22.fr L20)), ?_, ?_⟩
  · exact (by exact ho21)
  · rw [hdn]; rfl
 have hgood : (diskOk d.dat && dopOk op.dat) = true := by have h9 := h14; revert h9; cases diskOk d.dat <;> cases dopOk op.dat <;> simp
 rw [Bool.and_eq_true] at hgood
 obtain ⟨hok, hop⟩ := hgood
 refine WC.skip (hK8 _ _ (WC.sr (WL.r 1 hs13 [2] rfl ?_)))
 refine WL.cl Tryz.call75 rfl (k93_ d _ (okDiskR.st0 f_d hs13) ?_) ?_
 · first | assumption | rfl | omega | exact hrf | exact hop
 rintro _ whs23 ⟨r24, L1_25, rfl, hs23, ho26, hd27⟩
 replace hs23 := hs13.callF hs23
 refine ⟨_, rfl, ?_⟩
 replace hs23 := St.back [_, _, _] hs23
 have hrok : diskOk (DiskR.dat r24) = true := by rw [hd27]; exact hok
 have hrsm : smDisk 549755813888 (DiskR.dat r24) := by rw [hd27]; exact hsmB
 have hrc : doC (DiskR.dat r24) op.dat = doC d.dat op.dat := by rw [hd27]
 refine WL.al hs23 Tryz.zeroValue34 rfl rfl (fun b28 _ hs29 => WL.st tbk hs29 0 rfl rfl (fun _ hs30 => WL.nil (WC.seq (fun K31 hK31 => WC.sr (WL.r 2 hs30 [3, 2] rfl ?_)))))
 refine WL.cl Tryz.call89 rfl (k94_ d op _ (okDiskR.st0 f_d hs30) (okDiskOpR.st0 f_op hs30) ?_) ?_
 · first | assumption | rfl | omega | exact hrf | exact hop
 rintro _ whs32 ⟨rfl, hs32⟩
 replace hs32 := hs30.call0 hs32
 refine ⟨_, rfl, WL.r 1 hs32 [] rfl (WL.nil (WC.r1 hs32 [] rfl (WC.cq rfl (fun h33 qh33 => ?_) (fun h33 qh33 => ?_))))⟩
 ·have hr0 : ¬ refuse d.dat op.dat = 0 := by have h9 := h33; simpa using h9
  obtain ⟨hdn, hc⟩ := done_ref hok hop hr0
  refine WC.sr (WL.r 2 hs32 [0] rfl (WL.st tbk hs32 1 rfl rfl (fun _ hs34 => WL.r 1 hs34 [] rfl (WL.nil (WC.ret (tkR ?_))))))
  clear hK31
  refine retV2 rfl (resV.cellA tbk hs34 1 rfl rfl rfl rfl) (resV.tmp rfl) ?_
  refine ⟨r24, _, (by rw [hc]; first | done | rfl), (St.keep1 (hs34.fr L1_25)), ?_, ?_⟩
  · exact ho26
  · rw [hdn]; exact hd27
 have hr0 : refuse d.dat op.dat = 0 := by have h9 := h33; simpa using h9
 have hrf : refuse (DiskR.dat r24) op.dat = 0 := by rw [hd27]; exact hr0
 obtain ⟨hdn, hc⟩ := done_do hok hop hr0
 rw [← hrc] at hc
 refine WC.skip (hK31 _ _ (WC.sr (WL.r 1 hs32 [2] rfl ?_)))
 have hF35 := ((hs32.fr L1_25).fb b28)
 refine WL.cl Tryz.call90 rfl (k104_ _ r24 _ _ _ _ _ _ _ _ _ (St.headP hF35) ho26 (St.ownP hF35) (SlF.st0 f_op.Data hs32) f_op.Data_c (St.nodupP hF35) (St.sepP hF35 f_op.Data) ?_ ?_ ?_ ?_) ?_
 iterate 4 first | assumption | rfl | omega | exact hrf | exact hop
 rintro _ whs36 ⟨r37, L38, rfl, hs36, ho39, hd40⟩
 replace hs36 := St.lendP hF35 hs36
 refine ⟨_, rfl, ?_⟩
 have hs41 := ((((hs36.fb b2).fb b4).fb b6).fb b28)
 refine WL.r 1 hs41 [] rfl (WL.nil (WC.sr (WL.r 2 hs41 [0] rfl (WL.st tbk hs41 1 rfl rfl (fun _ hs42 => WL.r 1 hs42 [] rfl (WL.nil (WC.ret ?_)))))))
 refine retV2 rfl (resV.cellA tbk hs42 1 rfl rfl rfl rfl) (resV.tmp rfl) ?_
 refine ⟨r37, _, (by rw [hc]; first | done | rfl), (St.keep1 (hs42.fr L38)), ?_, ?_⟩
 · exact ho39
 · rw [hdn, ← hd27]; exact hd40
theorem built_36 : Tryz.prog.built 36 [] = some (List.toArray [.int .i64 0, .int .i64 0, .int .i64 0, .slice none 0 0, .slice none 0 0, .slice none 0 0, .int .i64 0, .int .i64 0, .int .i64 0, .bool false]) := by kernel_rfl
theorem built_75_0_1_3 (x0 : Int) (x1 : ByteArray) (x2 : Option Addr) (x3 : Nat) (x4 : Nat) : Tryz.prog.built 75 [(0, .int .i64 x0), (1, .string x1), (3, .slice x2 x3 x4)] = some (List.toArray [.int .i64 x0, .string x1, .string ⟨#[]⟩, .slice x2 x3 x4]) := by kernel_rfl
theorem k106_ (p : DepotR) (A_data : Option Addr) (n_data c_data : Nat) (data : List UInt8) (w : World) (f_p : okDepotR 549755813888 w p) (f_data : SlF encB w A_data n_data data) (hb : totDisk p.dat.Disk ≤ 1048576) (ht : TabOk w) (hn : n_data ≤ 1048576) :
    Calls Tryz.prog 19 #[.agg #[i64 p.Disk.Room, i64 p.Disk.Fuse, i64 p.Disk.Next, .slice p.Disk.Files.A p.Disk.Files.n p.Disk.Files.c, .slice p.Disk.Kept.A p.Disk.Kept.n p.Disk.Kept.c, .slice p.Disk.Turns.A p.Disk.Turns.n p.Disk.Turns.c, i64 p.Gen, i64 p.Seq, i64 p.Size, .bool p.Stuck], .slice A_data n_data c_data] w fun e w' => ∃ r L1, e = .returned (.tuple #[.agg #[i64 r.Disk.Room, i64 r.Disk.Fuse, i64 r.Disk.Next, .slice r.Disk.Files.A r.Disk.Files.n r.Disk.Files.c, .slice r.Disk.Kept.A r.Disk.Kept.n r.Disk.Kept.c, .slice r.Disk.Turns.A r.Disk.Turns.n r.Disk.Turns.c, i64 r.Gen, i64 r.Seq, i64 r.Size, .bool r.Stuck], .int .i64 (putC p.dat data)]) ∧ St w [] L1 w' ∧ ownDepotR r L1 ∧ r.dat = putD p.dat data := by
 have nb_p_Disk_Files := f_p.Disk.Files_n
 have nl_p_Disk_Files := f_p.Disk.Files.sl.len
 have nb_p_Disk_Kept := f_p.Disk.Kept_n
 have nl_p_Disk_Kept := f_p.Disk.Kept.len
 have nb_p_Disk_Turns := f_p.Disk.Turns_n
 have nl_p_Disk_Turns := f_p.Disk.Turns.len
 have hsmD : smDisk 1048576 p.dat.Disk := totDisk_sm hb
 have hln := logName_size p.Gen
 have hl := f_data.len
 refine enter 69 Tryz.func19 rfl Tryz.ntmps19 rfl rfl ?_
 have hs1 := St.init w
 refine WC.sr (WL.bx hs1 rfl (fun b2 _ hs3 => WL.al hs3 Tryz.zeroValue36 rfl rfl (fun b4 _ hs5 => WL.r 1 hs5 [] rfl (WL.nil (WC.seq (fun K6 hK6 => WC.block (WC.sr ?_)))))))
 refine WL.r 1 hs5 [1] rfl (WL.cl Tryz.call25 rfl (k95_ p _ (okDepotR.st0 f_p hs5) ?_ ?_) ?_)
 iterate 2 first | assumption | rfl | omega | exact tab_st ht (by assumption) | exact hb
 rintro _ whs7 ⟨rfl, hs7⟩
 replace hs7 := hs5.call0 hs7
 refine ⟨_, rfl, WL.r 2 hs7 [] rfl (WL.pO tbk 3 Acts.nil hs7 [] rfl rfl rfl rfl (fun g_ => trivial) (WL.r 1 hs7 [] rfl (WL.nil (WC.cq rfl (fun h8 qh8 => ?_) (fun h8 qh8 => ?_)))))⟩
 ·have hk : putGood p.dat data = false := by unfold putGood; have h9 := h8; revert h9; rw [hl]; cases depotOk p.dat <;> simp
  obtain ⟨hdn, hc⟩ := put_bad hk
  refine WC.sr ?_
  refine WL.val rfl rfl rfl (Run.build rfl rfl rfl rfl (built_36)) (WL.st tbk hs7 0 rfl rfl (fun _ hs9 => WL.r 1 hs9 [] rfl (WL.nil (WC.ret (ibR (tkR ?_))))))
  clear hK6
  refine retV2 rfl (resV.cellA tbk hs9 0 rfl rfl rfl rfl) (resV.tmp rfl) ?_
  obtain ⟨L14, hs13, ho15⟩ := ownDepotR.fl hs9 (OwnN.nil _ _ _) (OwnF.nil _ _) (OwnF.nil _ _)
  have hs16 := ((hs13.fb b2).fb b4)
  refine ⟨⟨⟨0, 0, 0, ⟨none, 0, 0, []⟩, ⟨none, 0, 0, []⟩, ⟨none, 0, 0, []⟩⟩, 0, 0, 0, false⟩, _, (by rw [hc]; first | done | rfl), (St.keep1 (hs16.fr L14)), ?_, ?_⟩
  · exact (by exact ho15)
  · rw [hdn]; rfl
 have hk : putGood p.dat data = true := by unfold putGood; have h9 := h8; revert h9; rw [hl]; cases depotOk p.dat <;> simp
 obtain ⟨hdk, hdl⟩ := putGood_P hk
 refine WC.r1 hs7 [1] rfl (WC.cq rfl (fun h17 qh17 => ?_) (fun h17 qh17 => ?_))
 ·have hst : p.dat.Stuck = true := by show p.Stuck = true; have h9 := h17; simpa using h9
  obtain ⟨hdn, hc⟩ := put_st hk hst
  refine WC.sr (WL.r 1 hs7 [1] rfl (WL.cl Tryz.call42 rfl (k96_ p _ (okDepotR.st0 f_p hs7) ?_) ?_))
  · first | assumption | rfl | omega | exact tab_st ht (by assumption) | exact hb
  rintro _ whs18 ⟨r19, L1_20, rfl, hs18, ho21, hd22⟩
  replace hs18 := hs7.callF hs18
  refine ⟨_, rfl, ?_⟩
  replace hs18 := St.back [_, _] hs18
  refine WL.st tbk hs18 0 rfl rfl (fun _ hs23 => WL.r 1 hs23 [] rfl (WL.nil (WC.ret (ibR (tkR ?_)))))
  clear hK6
  refine retV2 rfl (resV.cellA tbk hs23 0 rfl rfl rfl rfl) (resV.tmp rfl) ?_
  refine ⟨r19, _, (by rw [hc]; first | done | rfl), (St.keep1 (hs23.fr L1_20)), ?_, ?_⟩
  · exact ho21
  · rw [hdn]; exact hd22
 have hst : p.dat.Stuck = false := by show p.Stuck = false; have h9 := h17; simpa using h9
 refine WC.r1 hs7 [1] rfl (WC.cq rfl (fun h24 qh24 => ?_) (fun h24 qh24 => ?_))
 ·have hsq : 1000000000 < p.dat.Seq := by show 1000000000 < p.Seq; have h9 := h24; simpa using h9
  obtain ⟨hdn, hc⟩ := put_full hk hst hsq
  refine WC.sr (WL.r 1 hs7 [1] rfl (WL.cl Tryz.call42 rfl (k96_ p _ (okDepotR.st0 f_p hs7) ?_) ?_))
  · first | assumption | rfl | omega | exact tab_st ht (by assumption) | exact hb
  rintro _ whs25 ⟨r26, L1_27, rfl, hs25, ho28, hd29⟩
  replace hs25 := hs7.callF hs25
  refine ⟨_, rfl, ?_⟩
  replace hs25 := St.back [_, _] hs25
  refine WL.st tbk hs25 0 rfl rfl (fun _ hs30 => WL.r 1 hs30 [] rfl (WL.nil (WC.ret (ibR (tkR ?_)))))
  clear hK6
  refine retV2 rfl (resV.cellA tbk hs30 0 rfl rfl rfl rfl) (resV.tmp rfl) ?_
  refine ⟨r26, _, (by rw [hc]; first | done | rfl), (St.keep1 (hs30.fr L1_27)), ?_, ?_⟩
  · exact ho28
  · rw [hdn]; exact hd29
 have hsq : ¬ 1000000000 < p.dat.Seq := by show ¬ 1000000000 < p.Seq; have h9 := h24; simpa using h9
 have hfk : frameOk p.Seq data = true := put_frame (p := p.dat) hk hsq
 have hfo : frameOut p.Seq data = frameL p.Seq data := frameOut_y hfk
 have hfl : (frameOut p.Seq data).length ≤ 60016 := by rw [hfo]; have h9 := (depA_nums (depotOk_A hdk)).2.1; have h8 : 1 ≤ p.Seq ∧ p.Seq ≤ 1000000001 := h9; have h7 := frameL_len (seq := p.Seq) (b := data) (by omega) (by omega); omega
 have hCO : doneC p.dat.Disk (⟨2, logName p.Gen, noName, frameOut p.Seq data⟩ : DiskOpD) = doneC p.dat.Disk (putOp p.dat data) := congrArg (fun l => doneC p.dat.Disk (⟨2, logName p.Gen, noName, l⟩ : DiskOpD)) hfo
 have hDO : doneD p.dat.Disk (⟨2, logName p.Gen, noName, frameOut p.Seq data⟩ : DiskOpD) = doneD p.dat.Disk (putOp p.dat data) := congrArg (fun l => doneD p.dat.Disk (⟨2, logName p.Gen, noName, l⟩ : DiskOpD)) hfo
 have hcode := put_code (p := p.dat) (b := data) hk hst hsq
 have hsq2 : p.Seq ≤ 1000000000 := by have h9 : ¬ 1000000000 < p.Seq := hsq; omega
 have hsq3 : 1 ≤ p.Seq := (depA_nums (depotOk_A hdk)).2.1.1
 refine WC.skip (hK6 _ _ (WC.sr (WL.r 3 hs7 [1] rfl ?_)))
 refine WL.cl Tryz.call47 rfl (k26_ _ _ _ _ _ _ (SlF.st0 f_data hs7) ?_) ?_
 · first | assumption | rfl | omega | exact tab_st ht (by assumption) | exact hb
 rintro _ whs31 ⟨A32, c33, L1_34, rfl, hs31, ho35⟩
 replace hs31 := hs7.callF hs31
 refine ⟨_, rfl, ?_⟩
 replace hs31 := St.back [_, _] hs31
 refine WL.r 5 hs31 [] rfl (WL.nil (WC.seq (fun K36 hK36 => ?_)))
 refine WC.jR2 8 9 (Value.int .i64 (doneC p.dat.Disk (putOp p.dat data))) [0, 1, 2, 4, 5, 6, 10, 11, 12, 13, 14, 18, 20, 21, 22, 25, 26, 27, 28, 31, 32, 33, 34, 35, 36, 37] rfl hs31 (fun o_ L_ => ∃ r : DiskR, o_ = Obj.cells (List.toArray [i64 r.Room, i64 r.Fuse, i64 r.Next, .slice r.Files.A r.Files.n r.Files.c, .slice r.Kept.A r.Kept.n r.Kept.c, .slice r.Turns.A r.Turns.n r.Turns.c]) 34 (0, 0) ∧ ownDiskR r L_ ∧ r.dat = doneD p.dat.Disk (putOp p.dat data)) ?_ ?_
 ·refine WC.rG 12 hs31 hs31 hs31 (fun _ hs37 => ?_)
  refine WG.rn [0, 1, 2, 3, 5] hs37 [1, 1] rfl rfl (WG.all [4, 11] (by kernel_rfl) rfl (WGs.cons (i := 4) rfl rfl ?_ (WGs.cons (i := 11) rfl rfl ?_ WGs.nil)))
  ·refine WL.cl Tryz.call44 rfl (k19_ _ _ ?_) ?_
   · first | assumption | rfl | omega | exact tab_st ht (by assumption) | exact hb
   rintro _ whs38 ⟨rfl, hs38⟩
   replace hs38 := hs37.call0 hs38
   refine ⟨_, rfl, WL.nil ⟨hs38, ?_⟩⟩
   refine WG.tk 6 rfl (by kernel_rfl) rfl rfl rfl hs38 (fun w_ hs_ => (Run.build rfl rfl rfl rfl (built_75_0_1_3 _ _ _ _ _))) ?_
   refine WG.all [7, 11] (by kernel_rfl) rfl (WGs.cons (i := 7) rfl rfl ?_ (WGs.cons (i := 11) rfl rfl ?_ WGs.nil))
   ·refine WL.cl Tryz.call43 rfl (k105_ p.Disk ⟨_, _, _, ⟨_, _, _, _⟩⟩ _ (okDiskR.st0 f_p.Disk hs38) ⟨(by first | assumption | omega | exact Nat.zero_le _ | exact Nat.le_trans hln (by decide)), (by first | assumption | omega | exact Nat.zero_le _ | exact Nat.le_trans hln (by decide)), (SlF.ofOwn ho35 (hs38.ow L1_34)), (OwnF.cap ho35), (by first | assumption | omega | (simp; omega) | simp)⟩ ?_) ?_
    · first | assumption | rfl | omega | exact tab_st ht (by assumption) | exact hb
    rintro _ whs39 ⟨r40, L1_41, rfl, hs39, ho42, hd43⟩
    replace hs39 := hs38.callF hs39
    refine ⟨_, rfl, ?_⟩
    replace hs39 := St.back [_, _] hs39
    refine WL.nil ⟨(hs39.rm L1_41), WG.rn [8, 9, 10] (hs39.rm L1_41) [] rfl rfl (WG.o1 11 rfl rfl (WL.al hs39 Tryz.zeroValue34 rfl rfl (fun b44 _ hs45 => WL.nil ⟨(hs45.d1.rm L1_41), WG.oK rfl (WL.st tbk hs45 0 rfl rfl (fun _ hs46 => WL.nil ⟨(hs46.d1.rm L1_41), ?_⟩))⟩)))⟩
    refine WH.rn [13] (hs46.d1.rm L1_41) [] rfl rfl (WH.dn (⟨rfl, b44, _, _, (((((hs46.fr L1_34).fb b2).fb b4).fr L1_41).fb b44), ⟨r40, rfl, ho42, by exact hd43.trans hDO⟩, ⟨rfl, by exact congrArg (fun q => some (Value.int .i64 q)) hCO, sbF rfl⟩⟩))
   refine WL.al hs38 Tryz.zeroValue34 rfl rfl (fun b47 _ hs48 => WL.nil ⟨hs48.d1, WG.o1 7 rfl rfl ?_⟩)
   refine WL.cl Tryz.call43 rfl (k105_ p.Disk ⟨_, _, _, ⟨_, _, _, _⟩⟩ _ (okDiskR.st0 f_p.Disk hs48) ⟨(by first | assumption | omega | exact Nat.zero_le _ | exact Nat.le_trans hln (by decide)), (by first | assumption | omega | exact Nat.zero_le _ | exact Nat.le_trans hln (by decide)), (SlF.ofOwn ho35 (hs48.ow L1_34)), (OwnF.cap ho35), (by first | assumption | omega | (simp; omega) | simp)⟩ ?_) ?_
   · first | assumption | rfl | omega | exact tab_st ht (by assumption) | exact hb
   rintro _ whs49 ⟨r50, L1_51, rfl, hs49, ho52, hd53⟩
   replace hs49 := hs48.callF hs49
   refine ⟨_, rfl, ?_⟩
   replace hs49 := St.back [_, _, _] hs49
   refine WL.nil ⟨(hs49.d1.rm L1_51), WG.rn [8, 9, 10] (hs49.d1.rm L1_51) [] rfl rfl (WG.oK rfl (WL.st tbk hs49 0 rfl rfl (fun _ hs54 => WL.nil ⟨(hs54.d1.rm L1_51), WH.rn [13] (hs54.d1.rm L1_51) [] rfl rfl (WH.dn (⟨rfl, b47, _, _, (((((hs54.fr L1_34).fb b2).fb b4).fr L1_51).fb b47), ⟨r50, rfl, ho52, by exact hd53.trans hDO⟩, ⟨rfl, by exact congrArg (fun q => some (Value.int .i64 q)) hCO, sbF rfl⟩⟩))⟩)))⟩
  refine WL.al hs37 Tryz.zeroValue34 rfl rfl (fun b55 _ hs56 => WL.nil ⟨hs56.d1, WG.o1 4 rfl rfl ?_⟩)
  refine WL.cl Tryz.call44 rfl (k19_ _ _ ?_) ?_
  · first | assumption | rfl | omega | exact tab_st ht (by assumption) | exact hb
  rintro _ whs57 ⟨rfl, hs57⟩
  replace hs57 := hs56.call0 hs57
  refine ⟨_, rfl, WL.nil ⟨hs57.d1, ?_⟩⟩
  refine WG.tk 6 rfl (by kernel_rfl) rfl rfl rfl hs57.d1 (fun w_ hs_ => (Run.build rfl rfl rfl rfl (built_75_0_1_3 _ _ _ _ _))) ?_
  refine WG.o1 7 rfl rfl ?_
  refine WL.cl Tryz.call43 rfl (k105_ p.Disk ⟨_, _, _, ⟨_, _, _, _⟩⟩ _ (okDiskR.st0 f_p.Disk hs57) ⟨(by first | assumption | omega | exact Nat.zero_le _ | exact Nat.le_trans hln (by decide)), (by first | assumption | omega | exact Nat.zero_le _ | exact Nat.le_trans hln (by decide)), (SlF.ofOwn ho35 (hs57.ow L1_34)), (OwnF.cap ho35), (by first | assumption | omega | (simp; omega) | simp)⟩ ?_) ?_
  · first | assumption | rfl | omega | exact tab_st ht (by assumption) | exact hb
  rintro _ whs58 ⟨r59, L1_60, rfl, hs58, ho61, hd62⟩
  replace hs58 := hs57.callF hs58
  refine ⟨_, rfl, ?_⟩
  replace hs58 := St.back [_, _, _] hs58
  refine WL.nil ⟨(hs58.d1.rm L1_60), WG.rn [8, 9, 10] (hs58.d1.rm L1_60) [] rfl rfl (WG.oK rfl (WL.st tbk hs58 0 rfl rfl (fun _ hs63 => WL.nil ⟨(hs63.d1.rm L1_60), WH.rn [13] (hs63.d1.rm L1_60) [] rfl rfl (WH.dn (⟨rfl, b55, _, _, (((((hs63.fr L1_34).fb b2).fb b4).fr L1_60).fb b55), ⟨r59, rfl, ho61, by exact hd62.trans hDO⟩, ⟨rfl, by exact congrArg (fun q => some (Value.int .i64 q)) hCO, sbF rfl⟩⟩))⟩)))⟩
 rintro b64 _ L65 _ ⟨r66, rfl, ho67, hd68⟩ hs69 _ hf70
 have hs71 := (((hs69.fb b2).fb b4).fb b64)
 have hdo := hd68
 refine hK36 _ _ (WC.sub _ hf70 (WC.sr (WL.r 2 hs71 [0] rfl (WL.st tbk hs71 2 rfl rfl (fun _ hs72 => WL.nil (WC.seq (fun K73 hK73 => WC.r1 hs72 [] rfl ?_)))))))
 refine WC.block (WC.r1 hs72 [] rfl (WC.cq rfl (fun h74 qh74 => ?_) (fun h74 qh74 => ?_)))
 ·have h0 : doneC p.dat.Disk (putOp p.dat data) = 0 := by have h9 := h74; simpa using h9
  have hdn := put_0 hk hst hsq h0
  have hc := hcode
  have hsz : p.Size ≤ 1048576 := put_size (p := p.dat) hdk hst h0 hsmD
  have hsz0 : 0 ≤ p.Size := (depA_nums (depotOk_A hdk)).2.2
  refine WC.sr (WL.r 4 hs72 [2] rfl (WL.st tbk hs72 2 rfl rfl (fun _ hs75 => WL.nil (WC.region (WL.r 6 hs75 [2] rfl (WL.st tbk hs75 2 rfl rfl (fun _ hs76 => WL.nil ?_)))))))
  refine hK73 _ _ (WC.sr (WL.r 2 hs76 [2] rfl (WL.st tbk hs76 1 rfl rfl (fun _ hs77 => WL.r 1 hs77 [] rfl (WL.nil (WC.ret (retV2 rfl (resV.cellA tbk hs77 1 rfl rfl rfl rfl) (resV.tmp rfl) ?_)))))))
  obtain ⟨L78, L79, L80, hs84, ho81, ho82, ho83⟩ := ownDiskR.op hs77 ho67
  have hs85 := (((hs84.fb b2).fb b4).fb b64)
  obtain ⟨L87, hs86, ho88⟩ := ownDepotR.fl hs85 ho81 ho82 ho83
  have hs89 := (((hs86.fb b2).fb b4).fb b64)
  refine ⟨⟨⟨r66.Room, r66.Fuse, r66.Next, SlD.ofN ho81, SlD.of ho82, SlD.of ho83⟩, p.Gen, (p.Seq + (1)), _, p.Stuck⟩, _, (by rw [hc]; first | done | rfl), (St.keep1 (hs89.fr L87)), ?_, ?_⟩
  · exact (by exact ho88)
  · rw [hdn]; exact DepotD.ext' hdo rfl rfl (congrArg (fun l : List UInt8 => p.Size + (l.length : Int)) hfo) rfl
 have h0 : ¬ doneC p.dat.Disk (putOp p.dat data) = 0 := by have h9 := h74; simpa using h9
 have hc := hcode
 refine WC.r1 hs72 [] rfl (WC.cq rfl (fun h90 qh90 => ?_) (fun h90 qh90 => ?_))
 ·have h5 : doneC p.dat.Disk (putOp p.dat data) = 5 := by have h9 := h90; simpa using h9
  have hdn := put_5 hk hst hsq h5
  refine WC.region (WL.r 1 hs72 [] rfl (WL.st tbk hs72 2 rfl rfl (fun _ hs91 => WL.nil (hK73 _ _ (WC.sr (WL.r 2 hs91 [2] rfl (WL.st tbk hs91 1 rfl rfl (fun _ hs92 => ?_))))))))
  refine WL.r 1 hs92 [] rfl (WL.nil (WC.ret (retV2 rfl (resV.cellA tbk hs92 1 rfl rfl rfl rfl) (resV.tmp rfl) ?_)))
  obtain ⟨L93, L94, L95, hs99, ho96, ho97, ho98⟩ := ownDiskR.op hs92 ho67
  have hs100 := (((hs99.fb b2).fb b4).fb b64)
  obtain ⟨L102, hs101, ho103⟩ := ownDepotR.fl hs100 ho96 ho97 ho98
  have hs104 := (((hs101.fb b2).fb b4).fb b64)
  refine ⟨⟨⟨r66.Room, r66.Fuse, r66.Next, SlD.ofN ho96, SlD.of ho97, SlD.of ho98⟩, p.Gen, p.Seq, p.Size, true⟩, _, (by rw [hc]; first | done | rfl), (St.keep1 (hs104.fr L102)), ?_, ?_⟩
  · exact (by exact ho103)
  · rw [hdn]; exact DepotD.ext' hdo rfl rfl rfl rfl
 have h5 : ¬ doneC p.dat.Disk (putOp p.dat data) = 5 := by have h9 := h90; simpa using h9
 have hdn := put_n hk hst hsq h0 h5
 refine WC.skip (hK73 _ _ (WC.sr (WL.r 2 hs72 [2] rfl (WL.st tbk hs72 1 rfl rfl (fun _ hs105 => WL.r 1 hs105 [] rfl (WL.nil (WC.ret ?_)))))))
 refine retV2 rfl (resV.cellA tbk hs105 1 rfl rfl rfl rfl) (resV.tmp rfl) ?_
 obtain ⟨L106, L107, L108, hs112, ho109, ho110, ho111⟩ := ownDiskR.op hs105 ho67
 have hs113 := (((hs112.fb b2).fb b4).fb b64)
 obtain ⟨L115, hs114, ho116⟩ := ownDepotR.fl hs113 ho109 ho110 ho111
 have hs117 := (((hs114.fb b2).fb b4).fb b64)
 refine ⟨⟨⟨r66.Room, r66.Fuse, r66.Next, SlD.ofN ho109, SlD.of ho110, SlD.of ho111⟩, p.Gen, p.Seq, p.Size, p.Stuck⟩, _, (by rw [hc]; first | done | rfl), (St.keep1 (hs117.fr L115)), ?_, ?_⟩
 · exact (by exact ho116)
 · rw [hdn]; exact DepotD.ext' hdo rfl rfl rfl rfl
set_option maxHeartbeats 4000000 in
theorem k107_ (d : DiskR) (w : World) (f_d : okDiskR 549755813888 w d) (hb : totDisk d.dat ≤ 1048576) :
    Calls Tryz.prog 52 #[.agg #[i64 d.Room, i64 d.Fuse, i64 d.Next, .slice d.Files.A d.Files.n d.Files.c, .slice d.Kept.A d.Kept.n d.Kept.c, .slice d.Turns.A d.Turns.n d.Turns.c]] w fun e w' => e = .returned (.bool (diskOk d.dat)) ∧ St w [] [] w' := by
 have nb_d_Files := f_d.Files_n
 have nl_d_Files := f_d.Files.sl.len
 have nb_d_Kept := f_d.Kept_n
 have nl_d_Kept := f_d.Kept.len
 have nb_d_Turns := f_d.Turns_n
 have nl_d_Turns := f_d.Turns.len
 let w0 := w
 obtain ⟨⟨hb1, hb2, hb3⟩, hb4⟩ := totDisk_facts hb
 have hl1 := f_d.Files.sl.len
 have hl2 := f_d.Kept.len
 have hl3 := f_d.Turns.len
 have hm1 : d.Files.n ≤ 1048576 := by rw [← hl1, ← List.length_map (f := FileR.dat)]; exact hb1
 have hm2 : d.Kept.n ≤ 1048576 := by rw [← hl2]; exact hb2
 have hm3 : d.Turns.n ≤ 1048576 := by rw [← hl3]; exact hb3
 refine enter 193 Tryz.func52 rfl Tryz.ntmps52 rfl rfl ?_
 have hs1 := St.init w
 refine WC.sr (WL.bx hs1 rfl (fun b2 _ hs3 => WL.r 1 hs3 [] rfl (WL.nil (WC.seq (fun K4 hK4 => WC.sq1 hs3 (WQ.r 4 [0] rfl (WQ.pO tbk 3 Acts.nil [0] rfl rfl rfl rfl (fun g_ => ⟨rfl, trivial⟩) ?_)))))))
 refine WQ.r 1 [] rfl (WQ.pO tbk 3 Acts.nil [0] rfl rfl rfl rfl (fun g_ => ⟨rfl, trivial⟩) (WQ.r 1 [] rfl (WQ.pO tbk 3 Acts.nil [0] rfl rfl rfl rfl (fun g_ => ⟨rfl, trivial⟩) (WQ.r 1 [] rfl (WQ.pO tbk 3 Acts.nil [0] rfl rfl rfl rfl (fun g_ => ⟨rfl, trivial⟩) (WQ.r 1 [] rfl (WQ.pO tbk 3 Acts.nil [0] rfl rfl rfl rfl (fun g_ => ⟨rfl, trivial⟩) ?_)))))))
 refine WQ.r 1 [] rfl (WQ.pO tbk 4 Acts.nil [0] rfl rfl rfl rfl (fun g_ => ⟨rfl, trivial⟩) (WQ.r 1 [] rfl (WQ.pO tbk 4 Acts.nil [0] rfl rfl rfl rfl (fun g_ => ⟨rfl, trivial⟩) (WQ.r 1 [] rfl (WQ.pO tbk 4 Acts.nil [0] rfl rfl rfl rfl (fun g_ => ⟨rfl, trivial⟩) (WQ.r 1 [] rfl ?_))))))
 apply WQ.gO 5 Acts.nil rfl
 ·intro g5 J6
  have qg5 := g5
  try simp only [bf, within_iff, within_not] at qg5
  refine WQ.runA tbk 1 (Acts.nil.cons (j := 46) rfl g5) [0] rfl ⟨rfl, trivial⟩ ?_
  refine WQ.call (wantF rfl g5) rfl rfl (fun w_ hs_ => (Run.call Tryz.call101 rfl rfl rfl)) (fun w_ hs_ => (k67_ d _ (okDiskR.st0 f_d (hs_ : St _ _ _ _)) ?_).mono fun e_ w_ h_ => ⟨h_.1, (hs_ : St _ _ _ _).call0 h_.2⟩) ?_
  · first | assumption | rfl | omega
  refine WQ.runA tbk 3 (Acts.nil.cons (j := 46) rfl g5) [0] rfl ⟨rfl, trivial⟩ (WQ.eO 5 Acts.nil J6 g5 rfl rfl)
 refine WQ.nil (fun _ (hs7 : St _ _ _ _) => ?_)
 refine WC.cq rfl (fun h8 qh8 => ?_) (fun h8 qh8 => ?_)
 ·have hbad := disk_front hl1 hl2 hl3
  rw [h8, Bool.not_true] at hbad
  refine WC.r1 hs7 [] rfl (WC.ret (tkR ?_))
  clear hK4
  refine rtv rfl rfl hs7 ?_
  unfold diskOk; rw [hbad]; rfl
 have hA := disk_front hl1 hl2 hl3
 rw [h8, Bool.not_false, Bool.and_eq_true] at hA
 obtain ⟨hA1, hA2⟩ := hA
 refine WC.skip (hK4 _ _ (WC.sr (WL.buildF (F := encI) hs7 ([]) Tryz.runUnderlying64 Tryz.sizeOf3 Tryz.zeroValue3 rfl rfl rfl rfl rfl rfl rfl rfl rfl rfl rfl rfl (fun A12 c13 L9 whs10 hs10 ho11 => ?_))))
 replace hs10 := St.back [_] hs10
 refine WL.r 1 hs10 [] rfl (WL.nil (WC.seq (fun K14 hK14 => WC.r1 hs10 [0] rfl (WC.block ?_))))
 refine WC.lO [1, 66, 69, 70] rfl (hs10.fr L9) (fun k_ f L_ => ∃ (zs : List Int) (i : Nat) (A15 : Option Addr) (c16 : Nat), k_ = d.Files.n - i ∧ (i ≤ d.Files.n) ∧ (zs = (d.Files.xs.take i).map (·.Id)) ∧ (∀ j, j < i → fileOkAt d.Next d.dat.Files j = true) ∧ OwnF encI 3 (.slice A15 (zs.length) c16) (zs) L_ ∧ Sub [(3, .slice A15 (zs.length) c16), (71, .int .i64 i)] f) (((fun (zs : List Int) (i : Nat) => d.Files.n - i) ([]) (0))) ?_ ?_
 ·refine ⟨[], 0, _, _, rfl, ?_, ?_, ?_, ho11, ⟨rfl, rfl, trivial⟩⟩
  · exact Nat.zero_le _
  · rfl
  · exact fun j hj => absurd hj (by omega)
 clear hs10
 rintro _ f w L17 ⟨zs, i, A15, c16, rfl, p0, p1, p2, ho18, hG⟩ hF hs19
 refine WC.sub _ (hG.app hF) ?_
 clear hG hF
 replace hs19 := St.back [_] hs19
 have hzl : zs.length ≤ d.Files.n := by rw [p1, List.length_map, List.length_take]; omega
 refine WC.r1 hs19 [] rfl (WC.seq (fun K20 hK20 => ?_))
 refine WC.cq rfl (fun h21 qh21 => ?_) (fun h21 qh21 => ?_)
 ·have hbl := (f_d.Files.all _ (gat_mem (F := encFileR) (xs := d.Files.xs) (k := i) (by omega))).Body.len
  refine WC.skip (hK20 _ _ (WC.seq (fun K22 hK22 => WC.block (WC.sr (WL.r 1 hs19 [] rfl ?_)))))
  refine WL.val rfl rfl rfl (Run.idxN Tryz.runUnderlying30 Tryz.sizeOf123 rfl rfl rfl ?_ ?_ ?_) ?_
  · exact SlF.some_ (SlF.st0 f_d.Files.sl hs19)
  · omega
  · omega
  refine WL.val rfl rfl rfl (Run.loadA Tryz.isAgg123 Tryz.sizeOf123 rfl rfl (SlF.whole (SlF.st0 f_d.Files.sl hs19) ?_)) ?_
  · omega
  refine WL.al hs19 Tryz.zeroValue123 rfl rfl (fun b23 _ hs24 => WL.r 1 hs24 [] rfl (WL.st tbk hs24 0 rfl rfl (fun _ hs25 => WL.nil (WC.seq (fun K26 hK26 => WC.sq1 hs25 (WQ.r 4 [0] rfl (WQ.pO tbk 5 Acts.nil [0, 1] rfl rfl rfl rfl (fun g_ => ⟨rfl, rfl, trivial⟩) ?_)))))))
  refine WQ.r 1 [] rfl ?_
  apply WQ.gO 14 Acts.nil rfl
  ·intro g27 J28
   have qg27 := g27
   try simp only [bf, within_iff, within_not] at qg27
   refine WQ.runA tbk 3 (Acts.nil.cons (j := 10) rfl g27) [] rfl trivial ?_
   apply WQ.gA 10 (Acts.nil.cons (j := 10) rfl g27) rfl
   ·intro g29 J30
    have qg29 := g29
    try simp only [bf, within_iff, within_not] at qg29
    refine WQ.runA tbk 4 (Acts.nil.cons (j := 13) rfl g29) [1] rfl ⟨by omega, rfl, trivial⟩ ?_
    refine WQ.val (wantT rfl g29) rfl rfl (fun w_ hs_ => (Run.idxK ((i - 1)) Tryz.runUnderlying30 Tryz.sizeOf123 rfl rfl rfl ?_ ?_ ?_)) ?_
    · exact SlF.some_ (SlF.st0 f_d.Files.sl (hs_ : St _ _ _ _))
    · omega
    · omega
    refine WQ.val (wantT rfl g29) rfl rfl (fun w_ hs_ => (Run.fieldO Tryz.runUnderlying123 rfl rfl rfl Tryz.sizeOf3 rfl)) ?_
    refine WQ.val (wantT rfl g29) rfl rfl (fun w_ hs_ => (Run.load Tryz.isAgg3 rfl rfl (SlF.fld (SlF.st0 f_d.Files.sl (hs_ : St _ _ _ _)) ?_ rfl))) ?_
    · omega
    refine WQ.runA tbk 3 (Acts.nil.cons (j := 13) rfl g29) [0] rfl ⟨rfl, trivial⟩ (WQ.eA 10 (Acts.nil.cons (j := 10) rfl g27) J30 g29 rfl rfl)
   exact WQ.eO 4 Acts.nil J28 g27 rfl rfl
  refine WQ.r 1 [] rfl (WQ.pO tbk 3 Acts.nil [0] rfl rfl rfl rfl (fun g_ => ⟨rfl, trivial⟩) (WQ.r 1 [] rfl (WQ.pO tbk 6 Acts.nil [0, 0] rfl rfl rfl rfl (fun g_ => ⟨rfl, rfl, trivial⟩) (WQ.nil (fun _ (hs31 : St _ _ _ _) => ?_)))))
  refine WC.cq rfl (fun h32 qh32 => ?_) (fun h32 qh32 => ?_)
  ·have hbad : filesOk d.dat.Next d.dat.Files = false := range_no (i := i) (by have h9 : d.dat.Files.length = d.Files.xs.length := List.length_map _; omega) (by show fileOkAt d.Next d.dat.Files i = false; rw [fileOk_spec (by omega) hbl, h32]; rfl)
   refine WC.r1 hs31 [] rfl (WC.ret (tkR (ibR (tkR (tkR (ibR (tkR ?_)))))))
   clear hK26 hK22 hK14
   refine rtv rfl rfl hs31 ?_
   simp [diskOk, hbad]
  have hgood : fileOkAt d.Next d.dat.Files i = true := by rw [fileOk_spec (by omega) hbl, h32]; rfl
  refine WC.skip (hK26 _ _ (WC.region (WL.r 3 hs31 [0] rfl (WL.buildSlice hs31 Tryz.runUnderlying64 Tryz.sizeOf3 Tryz.zeroValue3 rfl rfl rfl rfl rfl rfl rfl rfl rfl rfl (fun b33 whs34 hs34 => ?_)))))
  refine WL.appendG (hs34.fr L17) ho18 (srcI1 Tryz.underlying64 (hs34.own _ (nthL_mem (i := 0) rfl)).1) Tryz.underlying64 inf3 rfl rfl rfl rfl rfl rfl rfl rfl rfl rfl ?_ (fun A38 c39 L35 whs36 hs36 ho37 => ?_)
  · simp; omega
  replace hs36 := St.back [_, _, _] hs36
  refine WL.r 1 hs36 [] rfl (WL.nil (hK22 _ _ (WC.region (WL.r 2 hs36 [] rfl (WL.nil (tkN ?_))))))
  replace hs36 := hs36.d1.d1
  refine ⟨sbF rfl, _, (hs36.fr L35), _, ?_, _, i + 1, _, _, rfl, ?_, ?_, ?_, ho37, ⟨rfl, rfl, trivial⟩⟩
  · omega
  · omega
  · rw [p1, List.take_add_one, gat_get (F := encFileR) (by omega), List.map_append]; rfl
  · intro j hj; rcases Nat.lt_or_ge j i with h_ | h_
    · exact p2 j h_
    · obtain rfl : j = i := by omega
      exact hgood
 have hzs : zs = fileIds d.dat := by rw [p1, List.take_of_length_le (by omega)]; simp [fileIds, DiskR.dat, FileR.dat, Function.comp_def]
 have hF : filesOk d.Next d.dat.Files = true := range_all fun j hj => p2 j (by have h9 : d.dat.Files.length = d.Files.xs.length := List.length_map _; omega)
 refine WC.exit (hK14 _ _ (WC.seq (fun K40 hK40 => WC.r1 hs19 [0] rfl (WC.block ?_))))
 refine WC.lS [1, 3, 66, 72, 122, 123] rfl hs19 (fun k_ f w' => ∃ (i : Nat), k_ = d.Kept.n - i ∧ (i ≤ d.Kept.n) ∧ (∀ j, j < i → keptOkAt d.Kept.xs j = true) ∧ Sub [(124, .int .i64 i)] f) ((fun (i : Nat) => d.Kept.n - i) (0)) ?_ ?_
 ·refine ⟨0, rfl, ?_, ?_, ⟨rfl, trivial⟩⟩
  · exact Nat.zero_le _
  · exact fun j hj => absurd hj (by omega)
 clear hs19
 rintro _ f w ⟨i, rfl, p0, p1, hG⟩ hF hs41
 refine WC.sub _ (hG.app hF) ?_
 clear hG hF
 refine WC.r1 hs41 [] rfl (WC.seq (fun K42 hK42 => ?_))
 refine WC.cq rfl (fun h43 qh43 => ?_) (fun h43 qh43 => ?_)
 ·have hkz : (gat encLink d.Kept.xs i).Name.size ≤ 549755813888 := f_d.Kept_s _ (gat_mem (F := encLink) (xs := d.Kept.xs) (k := i) (by omega))
  refine WC.skip (hK42 _ _ (WC.seq (fun K44 hK44 => WC.block (WC.sr (WL.r 1 hs41 [] rfl ?_)))))
  refine WL.val rfl rfl rfl (Run.idxN Tryz.runUnderlying31 Tryz.sizeOf101 rfl rfl rfl ?_ ?_ ?_) ?_
  · exact SlF.some_ (SlF.st0 f_d.Kept hs41)
  · omega
  · omega
  refine WL.val rfl rfl rfl (Run.loadA Tryz.isAgg101 Tryz.sizeOf101 rfl rfl (SlF.whole (SlF.st0 f_d.Kept hs41) ?_)) ?_
  · omega
  refine WL.al hs41 Tryz.zeroValue101 rfl rfl (fun b45 _ hs46 => WL.r 1 hs46 [] rfl (WL.st tbk hs46 0 rfl rfl (fun _ hs47 => WL.nil (WC.sq1 hs47 (WQ.r 2 [0] rfl ?_)))))
  refine WQ.call rfl rfl rfl (fun w_ hs_ => (Run.call Tryz.call102 rfl rfl rfl)) (fun w_ hs_ => (k73_ _ _ ?_).mono fun e_ w_ h_ => ⟨h_.1, (hs_ : St _ _ _ _).call0 h_.2⟩) ?_
  · first | assumption | rfl | omega
  refine WQ.r 2 [] rfl ?_
  apply WQ.gO 14 Acts.nil rfl
  ·intro g48 J49
   have qg48 := g48
   try simp only [bf, within_iff, within_not] at qg48
   refine WQ.runA tbk 3 (Acts.nil.cons (j := 4) rfl g48) [] rfl trivial ?_
   apply WQ.gA 10 (Acts.nil.cons (j := 4) rfl g48) rfl
   ·intro g50 J51
    have qg50 := g50
    try simp only [bf, within_iff, within_not] at qg50
    refine WQ.runA tbk 4 (Acts.nil.cons (j := 7) rfl g50) [1] rfl ⟨by omega, rfl, trivial⟩ ?_
    refine WQ.val (wantT rfl g50) rfl rfl (fun w_ hs_ => (Run.idxK ((i - 1)) Tryz.runUnderlying31 Tryz.sizeOf101 rfl rfl rfl ?_ ?_ ?_)) ?_
    · exact SlF.some_ (SlF.st0 f_d.Kept (hs_ : St _ _ _ _))
    · omega
    · omega
    refine WQ.val (wantT rfl g50) rfl rfl (fun w_ hs_ => (Run.fieldO Tryz.runUnderlying101 rfl rfl rfl Tryz.sizeOf9 rfl)) ?_
    refine WQ.val (wantT rfl g50) rfl rfl (fun w_ hs_ => (Run.load Tryz.isAgg9 rfl rfl (SlF.fld (SlF.st0 f_d.Kept (hs_ : St _ _ _ _)) ?_ rfl))) ?_
    · omega
    refine WQ.runA tbk 2 (Acts.nil.cons (j := 7) rfl g50) [0] rfl ⟨rfl, trivial⟩ ?_
    refine WQ.val (wantT rfl g50) rfl rfl (fun w_ hs_ => (Run.geqT rfl rfl rfl)) ?_
    exact WQ.eA 10 (Acts.nil.cons (j := 4) rfl g48) J51 g50 rfl rfl
   exact WQ.eO 4 Acts.nil J49 g48 rfl rfl
  refine WQ.nil (fun _ (hs52 : St _ _ _ _) => ?_)
  refine WC.cq rfl (fun h53 qh53 => ?_) (fun h53 qh53 => ?_)
  ·have hbad : keptOk d.dat.Kept = false := range_no (i := i) (by have h9 : d.dat.Kept.length = d.Kept.xs.length := rfl; omega) (by rw [kept_spec]; show (!_) = false; rw [show d.dat.Kept = d.Kept.xs from rfl, h53]; rfl)
   refine WC.r1 hs52 [] rfl (WC.ret (ibR (tkR (tkR (ibR (tkR ?_))))))
   clear hK44 hK40
   refine rtv rfl rfl hs52 ?_
   simp [diskOk, hbad]
  have hgood : keptOkAt d.Kept.xs i = true := by rw [kept_spec, h53]; rfl
  refine WC.skip (hK44 _ _ (WC.region (WL.r 2 hs52 [] rfl (WL.nil (tkN ?_)))))
  refine ⟨sbF rfl, (hs52.drop (by repeat (first | exact List.Sublist.refl _ | exact List.sublist_append_left _ _ | exact List.Sublist.trans (List.sublist_append_left _ _) (List.sublist_append_left _ _) | apply List.Sublist.cons | refine List.Sublist.trans ?_ (sR _)))), _, ?_, i + 1, rfl, ?_, ?_, ⟨rfl, trivial⟩⟩
  · omega
  · omega
  · intro j hj; rcases Nat.lt_or_ge j i with h_ | h_
    · exact p1 j h_
    · obtain rfl : j = i := by omega
      exact hgood
 have hK : keptOk d.dat.Kept = true := range_all fun j hj => p1 j (by have h9 : d.dat.Kept.length = d.Kept.xs.length := rfl; omega)
 refine WC.exit (hK40 _ _ (WC.sr (WL.r 1 hs41 [0] rfl ?_)))
 refine WL.cl Tryz.call103 rfl (k66_ d _ (okDiskR.st0 f_d hs41) ?_ ?_) ?_
 iterate 2 first | assumption | rfl | omega
 rintro _ whs54 ⟨A55, c56, L1_57, rfl, hs54, ho58⟩
 replace hs54 := hs41.callF hs54
 refine ⟨_, rfl, ?_⟩
 replace hs54 := St.back [_] hs54
 refine WL.r 1 hs54 [] rfl (WL.nil (WC.seq (fun K59 hK59 => WC.r1 hs54 [] rfl ?_)))
 refine WC.cq rfl (fun h60 qh60 => ?_) (fun h60 qh60 => ?_)
 ·have hbad : idsOk (idsD d.dat) (fileIds d.dat) = false := by unfold idsOk; rw [decide_eq_false (by have h9 := h60; rw [← hzs]; simp at h9; omega)]; rfl
  refine WC.r1 hs54 [] rfl (WC.ret (tkR ?_))
  clear hK59
  refine rtv rfl rfl hs54 ?_
  simp [diskOk, hbad]
 have hil : (idsD d.dat).length = (fileIds d.dat).length := by have h9 := h60; rw [← hzs]; simp at h9; omega
 refine WC.skip (hK59 _ _ (WC.seq (fun K61 hK61 => WC.r1 hs54 [] rfl (WC.block ?_))))
 refine WC.lS [1, 3, 8, 66, 72, 125, 156, 157, 158] rfl hs54 (fun k_ f w' => ∃ (i : Nat), k_ = (idsD d.dat).length - i ∧ (i ≤ (idsD d.dat).length) ∧ (∀ j, j < i → idsOkAt (idsD d.dat) (fileIds d.dat) j = true) ∧ Sub [(159, .int .i64 i)] f) ((fun (i : Nat) => (idsD d.dat).length - i) (0)) ?_ ?_
 ·refine ⟨0, rfl, ?_, ?_, ⟨rfl, trivial⟩⟩
  · exact Nat.zero_le _
  · exact fun j hj => absurd hj (by omega)
 clear hs54
 rintro _ f w ⟨i, rfl, p0, p1, hG⟩ hF hs62
 refine WC.sub _ (hG.app hF) ?_
 clear hG hF
 refine WC.r1 hs62 [] rfl (WC.seq (fun K63 hK63 => ?_))
 refine WC.cq rfl (fun h64 qh64 => ?_) (fun h64 qh64 => ?_)
 ·refine WC.skip (hK63 _ _ (WC.seq (fun K65 hK65 => WC.block (WC.sr (WL.r 1 hs62 [] rfl ?_)))))
  refine WL.val rfl rfl rfl (Run.idxN Tryz.runUnderlying64 Tryz.sizeOf3 rfl rfl rfl ?_ ?_ ?_) ?_
  · exact SlF.some_ (SlF.ofOwn ho58 (hs62.ow L1_57))
  · omega
  · omega
  refine WL.val rfl rfl rfl (Run.load Tryz.isAgg3 rfl rfl (SlF.one1 (SlF.ofOwn ho58 (hs62.ow L1_57)) ?_ rfl)) ?_
  · omega
  refine WL.r 2 hs62 [] rfl (WL.nil (WC.sr (WL.r 2 hs62 [] rfl ?_)))
  have ho66 := OwnF.take (k := i) ho58 (by omega)
  have hcho66 := OwnF.cap ho66
  refine WL.val rfl rfl rfl (Run.sliceH0 (i) Tryz.runUnderlying64 Tryz.sizeOf3 rfl rfl rfl ?_ ?_) ?_
  · first | rfl | (omega)
  · first | (exact Nat.zero_le _) | (omega)
  refine WL.r 1 hs62 [] rfl (WL.cl Tryz.call104 rfl (k74_ _ _ _ _ _ _ (SlF.ofOwn ho66 (hs62.ow L1_57)) ?_) ?_)
  · first | assumption | rfl | omega
  rintro _ whs67 ⟨rfl, hs67⟩
  replace hs67 := hs62.call0 hs67
  refine ⟨_, rfl, WL.r 1 hs67 [] rfl ?_⟩
  apply WL.gO 4 Acts.nil hs67 rfl
  ·intro g68 J69
   have qg68 := g68
   try simp only [bf, within_iff, within_not] at qg68
   refine WL.runA tbk 2 (Acts.nil.cons (j := 5) rfl g68) hs67 [] rfl trivial (WL.call (wantF rfl g68) rfl rfl (Run.call Tryz.call104 rfl rfl rfl) (k74_ _ _ _ _ _ _ (SlF.ofOwn ho18 (hs67.ow L17)) ?_) ?_)
   · first | assumption | rfl | omega
   rintro _ whs70 ⟨rfl, hs70⟩
   replace hs70 := hs67.call0 hs70
   refine ⟨_, rfl, WL.runA tbk 1 (Acts.nil.cons (j := 5) rfl g68) hs70 [] rfl trivial (WL.eO 4 Acts.nil J69 hs70 g68 rfl rfl)⟩
  intro _ hs71
  refine WL.nil (WC.cq rfl (fun h72 qh72 => ?_) (fun h72 qh72 => ?_))
  ·have hbad : idsOk (idsD d.dat) (fileIds d.dat) = false := by unfold idsOk; rw [range_no (i := i) (by omega) (by rw [idsAt_spec, ← hzs, h72]; rfl), Bool.and_false]
   refine WC.r1 hs71 [] rfl (WC.ret (ibR (tkR (tkR (ibR (tkR ?_))))))
   clear hK65 hK61
   refine rtv rfl rfl hs71 ?_
   simp [diskOk, hbad]
  have hgood : idsOkAt (idsD d.dat) (fileIds d.dat) i = true := by rw [idsAt_spec, ← hzs, h72]; rfl
  refine WC.skip (hK65 _ _ (WC.region (WL.r 2 hs71 [] rfl (WL.nil (tkN ?_)))))
  refine ⟨sbF rfl, hs71, _, ?_, i + 1, rfl, ?_, ?_, ⟨rfl, trivial⟩⟩
  · omega
  · omega
  · intro j hj; rcases Nat.lt_or_ge j i with h_ | h_
    · exact p1 j h_
    · obtain rfl : j = i := by omega
      exact hgood
 have hI : idsOk (idsD d.dat) (fileIds d.dat) = true := by unfold idsOk; rw [decide_eq_true hil]; exact range_all fun j hj => p1 j (by omega)
 refine WC.exit (hK61 _ _ (WC.r1 hs62 [0] rfl (WC.seq (fun K73 hK73 => WC.r1 hs62 [0] rfl (WC.block ?_)))))
 refine WC.lO [66, 72, 125, 156, 160, 179, 180] rfl (hs62.fr ([] : Hp)) (fun k_ f L_ => ∃ (zs : List LinkD) (i n9 : Nat) (A75 : Option Addr) (c76 : Nat), k_ = d.Turns.n - i ∧ (i ≤ d.Turns.n) ∧ (zs = turnsL d.Kept.xs (d.Turns.xs.take i)) ∧ (runS d.Kept.xs (d.Turns.xs.take i) = true) ∧ AnyF w0 encLink 101 (.slice A75 (n9) c76) (zs) L_ ∧ Sub [(11, .slice A75 (n9) c76), (181, .int .i64 i)] f) (((fun (zs : List LinkD) (i n9 : Nat) => d.Turns.n - i) (d.Kept.xs) (0) (d.Kept.n))) ?_ ?_
 ·refine ⟨d.Kept.xs, 0, d.Kept.n, _, _, rfl, ?_, ?_, ?_, (AnyF.rdo f_d.Kept), ⟨rfl, rfl, trivial⟩⟩
  · exact Nat.zero_le _
  · rfl
  · rfl
 clear hs62
 rintro _ f w L77 ⟨zs, i, n9, A75, c76, rfl, p0, p1, p2, ho78, hG⟩ hF hs79
 refine WC.sub _ (hG.app hF) ?_
 clear hG hF
 replace hs79 := St.back [_] hs79
 have hzl : zs.length = n9 := AnyF.cap ho78
 have hzn : zs.length ≤ 2097152 := by rw [p1]; have h9 := turnsL_len (dir := d.Kept.xs) (l := d.Turns.xs.take i); rw [List.length_take] at h9; omega
 refine WC.r1 hs79 [] rfl (WC.seq (fun K80 hK80 => ?_))
 refine WC.cq rfl (fun h81 qh81 => ?_) (fun h81 qh81 => ?_)
 ·obtain ⟨htz1, htz2⟩ := f_d.Turns_s _ (gat_mem (F := encTurn) (xs := d.Turns.xs) (k := i) (by omega))
  refine WC.skip (hK80 _ _ (WC.seq (fun K82 hK82 => WC.block (WC.sr ?_))))
  refine WL.val rfl rfl rfl (Run.idxN Tryz.runUnderlying32 Tryz.sizeOf137 rfl rfl rfl ?_ ?_ ?_) ?_
  · exact SlF.some_ (SlF.st0 f_d.Turns hs79)
  · omega
  · omega
  refine WL.val rfl rfl rfl (Run.loadA Tryz.isAgg137 Tryz.sizeOf137 rfl rfl (SlF.whole (SlF.st0 f_d.Turns hs79) ?_)) ?_
  · omega
  refine WL.al hs79 Tryz.zeroValue137 rfl rfl (fun b83 _ hs84 => WL.st tbk hs84 0 rfl rfl (fun _ hs85 => WL.nil (WC.seq (fun K86 hK86 => WC.sr (WL.r 2 hs85 [0] rfl ?_)))))
  refine WL.cl Tryz.call105 rfl (k76_ _ _ _ _ _ _ _ _ _ (AnyF.rd ho78 hs85 (hs85.ow L77)) ?_ ?_ ?_) ?_
  iterate 3 first | assumption | rfl | omega
  rintro _ whs87 ⟨rfl, hs87⟩
  replace hs87 := hs85.call0 hs87
  refine ⟨_, rfl, WL.r 1 hs87 [] rfl (WL.nil (WC.cq rfl (fun h88 qh88 => ?_) (fun h88 qh88 => ?_)))⟩
  ·have hbad : runS d.Kept.xs d.Turns.xs = false := runS_bad (i := i) (by omega) (by rw [← p1]; have h9 := h88; simpa using h9)
   refine WC.r1 hs87 [] rfl (WC.ret (tkR (ibR (tkR (tkR (ibR (tkR ?_)))))))
   clear hK86 hK82 hK73
   refine rtv rfl rfl hs87 ?_
   unfold diskOk; rw [show runS d.dat.Kept d.dat.Turns = false from hbad, Bool.and_false]
  have hgood : turnOk (turnsL d.Kept.xs (d.Turns.xs.take i)) (gat encTurn d.Turns.xs i) = true := by rw [← p1]; have h9 := h88; simpa using h9
  refine WC.skip (hK86 _ _ (WC.region (WL.r 2 hs87 [0] rfl ?_)))
  refine WL.cl Tryz.call106 rfl (k75_ _ _ _ _ _ _ _ _ _ (AnyF.rd ho78 hs87 (hs87.ow L77)) ?_) ?_
  · first | assumption | rfl | omega
  rintro _ whs89 ⟨A90, c91, L1_92, rfl, hs89, ho93⟩
  replace hs89 := hs87.callF hs89
  refine ⟨_, rfl, ?_⟩
  replace hs89 := St.back [_, _] hs89
  refine WL.r 1 hs89 [] rfl (WL.nil (hK82 _ _ (WC.region (WL.r 2 hs89 [] rfl (WL.nil (tkN ?_))))))
  replace hs89 := (hs89.d1.rm L77)
  refine ⟨sbF rfl, _, (hs89.fr L1_92), _, ?_, _, i + 1, _, _, _, rfl, ?_, ?_, ?_, (AnyF.of ho93), ⟨rfl, rfl, trivial⟩⟩
  · omega
  · omega
  · rw [turnsL_take (by omega), ← p1]
  · exact runS_take (by omega) p2 hgood
 have hR : runS d.Kept.xs d.Turns.xs = true := by rw [List.take_of_length_le (by omega)] at p2; exact p2
 refine WC.exit (hK73 _ _ (WC.r1 hs79 [] rfl (WC.ret (rtv rfl rfl hs79 ?_))))
 unfold diskOk; rw [hA1, hA2, show filesOk d.dat.Next d.dat.Files = true from hF, hK, hI, show runS d.dat.Kept d.dat.Turns = true from hR]; rfl
theorem k108_ (d : DiskR) (n : Nat) (w : World) (f_d : okDiskR 549755813888 w d) (hn : n ≤ d.Turns.n) (h1 : d.Kept.n ≤ 1048576) (h2 : d.Turns.n ≤ 1048576) :
    Calls Tryz.prog 123 #[.agg #[i64 d.Room, i64 d.Fuse, i64 d.Next, .slice d.Files.A d.Files.n d.Files.c, .slice d.Kept.A d.Kept.n d.Kept.c, .slice d.Turns.A d.Turns.n d.Turns.c], .int .i64 n] w fun e w' => ∃ A c L1, e = .returned (.slice A (turnsL d.Kept.xs (d.Turns.xs.take n)).length c) ∧ St w [] L1 w' ∧ OwnF encLink 101 (.slice A (turnsL d.Kept.xs (d.Turns.xs.take n)).length c) (turnsL d.Kept.xs (d.Turns.xs.take n)) L1 := by
 have nb_d_Files := f_d.Files_n
 have nl_d_Files := f_d.Files.sl.len
 have nb_d_Kept := f_d.Kept_n
 have nl_d_Kept := f_d.Kept.len
 have nb_d_Turns := f_d.Turns_n
 have nl_d_Turns := f_d.Turns.len
 have hl2 := f_d.Kept.len
 have hl3 := f_d.Turns.len
 refine enter 24 Tryz.func123 rfl Tryz.ntmps123 rfl rfl ?_
 have hs1 := St.init w
 refine WC.sr (WL.bx hs1 rfl (fun b2 _ hs3 => WL.r 1 hs3 [] rfl (WL.nil (WC.sr (WL.buildF (F := encLink) hs3 ([]) Tryz.runUnderlying31 Tryz.sizeOf101 Tryz.zeroValue101 rfl rfl rfl rfl rfl rfl rfl rfl rfl rfl rfl rfl (fun A7 c8 L4 whs5 hs5 ho6 => ?_))))))
 replace hs5 := St.back [_] hs5
 refine WL.r 2 hs5 [0] rfl (WL.appendG (hs5.fr L4) ho6 (SlF.src (SlF.st0 f_d.Kept hs5) Tryz.underlying31) Tryz.underlying31 inf101 rfl rfl rfl rfl rfl rfl rfl rfl rfl rfl ?_ (fun A12 c13 L9 whs10 hs10 ho11 => ?_))
 · simp; omega
 replace hs10 := St.back [_] hs10
 refine WL.r 1 hs10 [] rfl (WL.nil (WC.seq (fun K14 hK14 => WC.r1 hs10 [] rfl (WC.block ?_))))
 refine WC.lO [1, 2, 4] rfl (hs10.fr L9) (fun k_ f L_ => ∃ (zs : List LinkD) (i : Nat) (A15 : Option Addr) (c16 : Nat), k_ = n - i ∧ (i ≤ n) ∧ (zs = turnsL d.Kept.xs (d.Turns.xs.take i)) ∧ OwnF encLink 101 (.slice A15 (zs.length) c16) (zs) L_ ∧ Sub [(5, .slice A15 (zs.length) c16), (6, .int .i64 i)] f) (((fun (zs : List LinkD) (i : Nat) => n - i) (d.Kept.xs) (0))) ?_ ?_
 ·refine ⟨d.Kept.xs, 0, _, _, rfl, ?_, ?_, ho11, ⟨rfl, rfl, trivial⟩⟩
  · exact Nat.zero_le _
  · rfl
 clear hs10
 rintro _ f w L17 ⟨zs, i, A15, c16, rfl, p0, p1, ho18, hG⟩ hF hs19
 refine WC.sub _ (hG.app hF) ?_
 clear hG hF
 replace hs19 := St.back [_] hs19
 have hzn : zs.length ≤ 2097152 := by rw [p1]; have h9 := turnsL_len (dir := d.Kept.xs) (l := (d.Turns.xs.take i)); rw [List.length_take] at h9; omega
 refine WC.seq (fun K20 hK20 => WC.r1 hs19 [] rfl ?_)
 refine WC.cq rfl (fun h21 qh21 => ?_) (fun h21 qh21 => ?_)
 ·refine WC.skip (hK20 _ _ (WC.seq (fun K22 hK22 => WC.block (WC.region (WL.r 4 hs19 [0] rfl ?_)))))
  refine WL.val rfl rfl rfl (Run.idxN Tryz.runUnderlying32 Tryz.sizeOf137 rfl rfl rfl ?_ ?_ ?_) ?_
  · exact SlF.some_ (SlF.st0 f_d.Turns hs19)
  · omega
  · omega
  refine WL.val rfl rfl rfl (Run.loadA Tryz.isAgg137 Tryz.sizeOf137 rfl rfl (SlF.whole (SlF.st0 f_d.Turns hs19) ?_)) ?_
  · omega
  refine WL.cl Tryz.call106 rfl (k75_ _ _ _ _ _ _ _ _ _ (SlF.ofOwn ho18 (hs19.ow L17)) ?_) ?_
  · first | assumption | rfl | omega
  rintro _ whs23 ⟨A24, c25, L1_26, rfl, hs23, ho27⟩
  replace hs23 := hs19.callF hs23
  refine ⟨_, rfl, ?_⟩
  replace hs23 := St.back [_] hs23
  refine WL.r 1 hs23 [] rfl (WL.nil (hK22 _ _ (WC.region (WL.r 3 hs23 [] rfl (WL.nil (tkN ?_))))))
  replace hs23 := (hs23.rm L17)
  refine ⟨sbF rfl, _, (hs23.fr L1_26), _, ?_, _, i + 1, _, _, rfl, ?_, ?_, ho27, ⟨rfl, rfl, trivial⟩⟩
  · omega
  · omega
  · rw [turnsL_take (by omega), ← p1]
 refine WC.exit (hK14 _ _ (WC.r1 hs19 [] rfl (WC.ret (retV1 rfl (resV.tmp rfl) ?_))))
 have hx_ := OwnF.eqOf (xs := turnsL d.Kept.xs (d.Turns.xs.take n)) ho18 (by rw [p1, show i = n by omega])
 rw [← hx_]
 first | exact ⟨_, _, _, rfl, (St.keep1 (hs19.fr L17)), ho18⟩ | exact ⟨A15, c16, _, by rw [OwnF.len_ ho18], (St.keep1 (hs19.fr L17)), by rw [OwnF.len_ ho18]; exact ho18⟩
theorem k109_ (d : DiskR) (w : World) (f_d : okDiskR 549755813888 w d) (hok : diskOk d.dat = true) (hb : totDisk d.dat ≤ 1048576) :
    Calls Tryz.prog 69 #[.agg #[i64 d.Room, i64 d.Fuse, i64 d.Next, .slice d.Files.A d.Files.n d.Files.c, .slice d.Kept.A d.Kept.n d.Kept.c, .slice d.Turns.A d.Turns.n d.Turns.c]] w fun e w' => ∃ A c L1, e = .returned (.slice A (dirD d.dat).length c) ∧ St w [] L1 w' ∧ OwnF encLink 101 (.slice A (dirD d.dat).length c) (dirD d.dat) L1 := by
 have nb_d_Files := f_d.Files_n
 have nl_d_Files := f_d.Files.sl.len
 have nb_d_Kept := f_d.Kept_n
 have nl_d_Kept := f_d.Kept.len
 have nb_d_Turns := f_d.Turns_n
 have nl_d_Turns := f_d.Turns.len
 have hD := diskOk_P hok
 obtain ⟨hs1, hs2, hs3, hs4, hs5, hs6, hs7, hs8⟩ := hD.small
 have hl1 := f_d.Files.sl.len
 have hl2 := f_d.Kept.len
 have hl3 := f_d.Turns.len
 have hm1 : d.Files.n ≤ 10 := by rw [← hl1, ← List.length_map (f := FileR.dat)]; exact hs1
 have hm2 : d.Kept.n ≤ 10 := by rw [← hl2]; exact hs2
 have hm3 : d.Turns.n ≤ 30 := by rw [← hl3]; exact hs3
 have hdl : (dirD d.dat).length ≤ 40 := Nat.le_trans turnsL_len (by show d.Kept.xs.length + d.Turns.xs.length ≤ 40; omega)
 refine enter 11 Tryz.func69 rfl Tryz.ntmps69 rfl rfl ?_
 have hs1 := St.init w
 refine WC.sr (WL.bx hs1 rfl (fun b2 _ hs3 => WL.r 1 hs3 [] rfl (WL.nil (WC.seq (fun K4 hK4 => WC.sr (WL.r 1 hs3 [0] rfl ?_))))))
 refine WL.cl Tryz.call52 rfl (k107_ d _ (okDiskR.st0 f_d hs3) ?_) ?_
 · first | assumption | rfl | omega | exact Nat.le_refl _
 rintro _ whs5 ⟨rfl, hs5⟩
 replace hs5 := hs3.call0 hs5
 refine ⟨_, rfl, WL.r 1 hs5 [] rfl (WL.nil (WC.cq rfl (fun h6 qh6 => ?_) (fun h6 qh6 => ?_)))⟩
 ·exfalso; have h9 := h6; rw [hok] at h9; cases h9
 refine WC.skip (hK4 _ _ (WC.sr (WL.r 4 hs5 [0, 0] rfl ?_)))
 refine WL.cl Tryz.call123 rfl (k108_ d _ _ (okDiskR.st0 f_d hs5) ?_ ?_ ?_) ?_
 iterate 3 first | assumption | rfl | omega | exact Nat.le_refl _
 rintro _ whs7 ⟨A8, c9, L1_10, rfl, hs7, ho11⟩
 replace hs7 := hs5.callF hs7
 refine ⟨_, rfl, ?_⟩
 replace hs7 := St.back [_] hs7
 refine WL.r 1 hs7 [] rfl (WL.nil (WC.ret (retV1 rfl (resV.tmp rfl) ?_)))
 have hx_ := OwnF.eqOf (xs := dirD d.dat) ho11 (by rw [List.take_of_length_le (by omega)]; rfl)
 rw [← hx_]
 first | exact ⟨_, _, _, rfl, (St.keep1 (hs7.fr L1_10)), ho11⟩ | exact ⟨A8, c9, _, by rw [OwnF.len_ ho11], (St.keep1 (hs7.fr L1_10)), by rw [OwnF.len_ ho11]; exact ho11⟩
set_option maxHeartbeats 4000000 in
theorem k110_ (d : DiskR) (w : World) (f_d : okDiskR 549755813888 w d) (hsm : smDisk 1048576 d.dat) :
    Calls Tryz.prog 66 #[.agg #[i64 d.Room, i64 d.Fuse, i64 d.Next, .slice d.Files.A d.Files.n d.Files.c, .slice d.Kept.A d.Kept.n d.Kept.c, .slice d.Turns.A d.Turns.n d.Turns.c]] w fun e w' => ∃ r L1, e = .returned (.agg #[i64 r.Room, i64 r.Fuse, i64 r.Next, .slice r.Files.A r.Files.n r.Files.c, .slice r.Kept.A r.Kept.n r.Kept.c, .slice r.Turns.A r.Turns.n r.Turns.c]) ∧ St w [] L1 w' ∧ ownDiskR r L1 ∧ r.dat = d.dat := by
 have nb_d_Files := f_d.Files_n
 have nl_d_Files := f_d.Files.sl.len
 have nb_d_Kept := f_d.Kept_n
 have nl_d_Kept := f_d.Kept.len
 have nb_d_Turns := f_d.Turns_n
 have nl_d_Turns := f_d.Turns.len
 have hF9 : d.Files.xs.length ≤ 1048576 := by have h_ := hsm.1; simpa [DiskR.dat] using h_
 have hl1 := f_d.Files.sl.len
 have hl2 := f_d.Kept.len
 have hl3 := f_d.Turns.len
 have hm2 : d.Kept.xs.length ≤ 1048576 := hsm.2.2.1
 have hm3 : d.Turns.xs.length ≤ 1048576 := hsm.2.2.2.2.1
 refine enter 40 Tryz.func66 rfl Tryz.ntmps66 rfl rfl ?_
 have hs1 := St.init w
 refine WC.sr (WL.bx hs1 rfl (fun b2 _ hs3 => WL.al hs3 Tryz.zeroValue34 rfl rfl (fun b4 _ hs5 => WL.nil (WC.sr (WL.buildF (F := encFileR) hs5 ([]) Tryz.runUnderlying30 Tryz.sizeOf123 Tryz.zeroValue123 rfl rfl rfl rfl rfl rfl rfl rfl rfl rfl rfl rfl (fun A9 c10 L6 whs7 hs7 ho8 => ?_))))))
 replace hs7 := St.back [_, _] hs7
 obtain ⟨L11, hs12, ho13⟩ := OwnN.fresh (own := ownFileR) (hs7.fr L6) ho8 Bag.nil
 have hs14 := ((hs12.fb b2).fb b4)
 refine WL.r 1 hs14 [] rfl (WL.nil (WC.seq (fun K15 hK15 => WC.r1 hs14 [1] rfl (WC.block ?_))))
 have hM20 := (St.grp1 (L1 := L11) [] (((hs14.fb b2).fb b4).fr L11))
 refine WC.lV [1, 2, 8, 9] rfl hM20 (fun k_ (a_ : Hp) f => ∃ (i : Nat) (fs : List FileR) (A16 : Option Addr) (c17 : Nat) (L18 : Hp), k_ = d.Files.n - i ∧ a_ = L18 ∧ (i ≤ d.Files.n) ∧ (fs.map FileR.dat = (d.Files.xs.take i).map FileR.dat) ∧ (fs.length = i) ∧ OwnN encFileR ownFileR 123 (.slice A16 (fs).length c17) (fs) L18 ∧ Sub [(3, .slice A16 (fs).length c17), (10, .int .i64 i)] f) (d.Files.n) ?_ ?_
 ·refine ⟨0, [], A9, c10, L11, rfl, rfl, ?_, ?_, ?_, ho13, ⟨rfl, rfl, trivial⟩⟩
  · exact Nat.zero_le _
  · rfl
  · rfl
 rintro _ L18 f w ⟨i, fs, A16, c17, _, rfl, rfl, p0, p1, p2, ho19, hG⟩ hF hs21
 refine WC.sub _ (hG.app hF) ?_
 clear hG hF
 replace hs21 := St.ungrp1 [] hs21
 have hs22 := ((hs21.fb b2).fb b4)
 refine WC.r1 hs22 [] rfl (WC.seq (fun K23 hK23 => ?_))
 refine WC.cD rfl (fun qh24 => ?_) (fun qh24 => ?_)
 ·have hbl := (SlN.nth f_d.Files (show i < d.Files.n by omega)).Body.len
  have hbn : (gat encFileR d.Files.xs i).Body.xs.length ≤ 1048576 := hsm.2.1 _ (List.mem_map_of_mem (f := FileR.dat) (gat_mem (F := encFileR) (xs := d.Files.xs) (k := i) (by omega)))
  refine WC.skip (hK23 _ _ (WC.seq (fun K25 hK25 => WC.block (WC.sr ?_))))
  refine WL.val rfl rfl rfl (Run.idxN Tryz.runUnderlying30 Tryz.sizeOf123 rfl rfl rfl ?_ ?_ ?_) ?_
  · exact SlF.some_ (SlF.st0 f_d.Files.sl hs22)
  · omega
  · omega
  refine WL.val rfl rfl rfl (Run.loadA Tryz.isAgg123 Tryz.sizeOf123 rfl rfl (SlF.whole (SlF.st0 f_d.Files.sl hs22) ?_)) ?_
  · omega
  refine WL.al hs22 Tryz.zeroValue123 rfl rfl (fun b26 _ hs27 => WL.st tbk hs27 0 rfl rfl (fun _ hs28 => WL.nil (WC.rH (hs28.rm L18) hs28 (fun _ hs29 => ?_))))
  refine WH.rn [0, 1, 2, 4, 5, 7, 8] (hs29.rm L18) [0, 0, 0] rfl rfl (WH.o1 3 rfl (WL.buildF (F := encB) hs29 ([]) Tryz.runUnderlying43 Tryz.sizeOf5 Tryz.zeroValue5 rfl rfl rfl rfl rfl rfl rfl rfl rfl rfl rfl rfl (fun A33 c34 L30 whs31 hs31 ho32 => ?_)))
  replace hs31 := St.back [_, _, _] hs31
  refine WL.nil ⟨((hs31.rm L30).rm L18), WH.o1 6 rfl (WL.appendG (hs31.fr L30) ho32 (SlF.src (SlF.st0 (SlN.nth f_d.Files (by omega)).Body hs31) Tryz.underlying43) Tryz.underlying43 inf5 rfl rfl rfl rfl rfl rfl rfl rfl rfl rfl ?_ (fun A38 c39 L35 whs36 hs36 ho37 => ?_))⟩
  · (try simp only [List.length_append, List.length_singleton, List.nil_append, List.length_nil]); first | omega
  replace hs36 := St.back [_, _, _] hs36
  refine WL.nil ⟨((hs36.rm L35).rm L18), ?_⟩
  refine WH.take 9 rfl (by kernel_rfl) rfl rfl rfl ((hs36.rm L35).rm L18) (fun w_ hs_ => (Run.build rfl rfl rfl rfl (built_123_0_1_2 _ _ _ _ _))) ?_
  refine WH.o1 10 rfl (WL.buildSlice hs36 Tryz.runUnderlying30 Tryz.sizeOf123 Tryz.zeroValue123 rfl rfl rfl rfl rfl rfl rfl rfl rfl rfl (fun b40 whs41 hs41 => WL.nil ⟨((hs41.d1.rm L35).rm L18), WH.o1 11 rfl ?_⟩))
  obtain ⟨L42, L43, hs46, ho44, ho45⟩ := OwnN.open_ (hs41.fr L18) ho19
  have hs47 := ((((hs46.fb b2).fb b4).fb b26).fb b40)
  refine WL.appendG (hs47.fr L42) ho44 (srcF (F := encFileR) (ys := [(⟨(gat encFileR d.Files.xs i).Id, SlD.of ho37, (gat encFileR d.Files.xs i).Safe⟩ : FileR)]) Tryz.underlying30 rfl rfl (hs47.own _ (nthL_mem (i := 0) rfl)).1) Tryz.underlying30 inf123 rfl rfl rfl rfl rfl rfl rfl rfl rfl rfl ?_ (fun A51 c52 L48 whs49 hs49 ho50 => ?_)
  · (try simp only [List.length_append, List.length_singleton, List.nil_append, List.length_nil]); first | omega
  replace hs49 := St.back [_, _, _, _] hs49
  obtain ⟨L53, hs54, hb55⟩ := Bag.put (x := (⟨(gat encFileR d.Files.xs i).Id, SlD.of ho37, (gat encFileR d.Files.xs i).Safe⟩ : FileR)) ((hs49.fr L35).fr L43) ho45 ho37
  have hs56 := ((((hs54.fb b2).fb b4).fb b26).fb b40)
  obtain ⟨L58, hs57, ho59⟩ := OwnN.fold ((hs56.fr L53).fr L48) ho50 hb55
  have hs60 := ((((hs57.fb b2).fb b4).fb b26).fb b40)
  refine WL.nil ⟨(hs60.d1.rm L58), WH.rn [12] (hs60.d1.rm L58) [] rfl rfl (WH.dn (hK25 _ _ (WC.region (WL.r 2 hs60 [] rfl (WL.nil (tkN ?_))))))⟩
  replace hs60 := hs60.d1.d1
  have hF61 := (St.grp1 (L1 := L58) [] (((hs60.fb b2).fb b4).fr L58))
  refine ⟨sbF rfl, _, hF61, _, ?_, i + 1, ((fs) ++ [(⟨(gat encFileR d.Files.xs i).Id, SlD.of ho37, (gat encFileR d.Files.xs i).Safe⟩ : FileR)]), A51, c52, L58, rfl, rfl, ?_, ?_, ?_, ho59, ⟨rfl, rfl, trivial⟩⟩
  · omega
  · omega
  · rw [List.map_append, p1, map_take_succ (F := encFileR) (by omega)]; rfl
  · simp only [List.length_append, List.length_singleton]; omega
 refine WC.exit (hK15 _ _ (WC.sr (WL.r 2 hs22 [] rfl (WL.st tbk hs22 1 rfl rfl (fun _ hs62 => WL.nil (WC.sr (WL.buildF (F := encLink) hs62 ([]) Tryz.runUnderlying31 Tryz.sizeOf101 Tryz.zeroValue101 rfl rfl rfl rfl rfl rfl rfl rfl rfl rfl rfl rfl (fun A66 c67 L63 whs64 hs64 ho65 => ?_))))))))
 replace hs64 := St.back [_, _] hs64
 refine WL.r 2 hs64 [1] rfl (WL.appendG (hs64.fr L63) ho65 (SlF.src (SlF.st0 f_d.Kept hs64) Tryz.underlying31) Tryz.underlying31 inf101 rfl rfl rfl rfl rfl rfl rfl rfl rfl rfl ?_ (fun A71 c72 L68 whs69 hs69 ho70 => ?_))
 · (try simp only [List.length_append, List.length_singleton, List.nil_append, List.length_nil]); first | omega
 replace hs69 := St.back [_, _] hs69
 refine WL.r 1 hs69 [] rfl (WL.st tbk hs69 1 rfl rfl (fun _ hs73 => WL.nil (WC.sr (WL.buildF (F := encTurn) hs73 ([]) Tryz.runUnderlying32 Tryz.sizeOf137 Tryz.zeroValue137 rfl rfl rfl rfl rfl rfl rfl rfl rfl rfl rfl rfl (fun A77 c78 L74 whs75 hs75 ho76 => ?_)))))
 replace hs75 := St.back [_, _] hs75
 refine WL.r 2 hs75 [1] rfl (WL.appendG (hs75.fr L74) ho76 (SlF.src (SlF.st0 f_d.Turns hs75) Tryz.underlying32) Tryz.underlying32 inf137 rfl rfl rfl rfl rfl rfl rfl rfl rfl rfl ?_ (fun A82 c83 L79 whs80 hs80 ho81 => ?_))
 · (try simp only [List.length_append, List.length_singleton, List.nil_append, List.length_nil]); first | omega
 replace hs80 := St.back [_, _] hs80
 refine WL.r 1 hs80 [] rfl (WL.st tbk hs80 1 rfl rfl (fun _ hs84 => WL.nil (WC.sr (WL.r 1 hs84 [1] rfl (WL.st tbk hs84 0 rfl rfl (fun _ hs85 => WL.nil (WC.ret ?_)))))))
 refine retV1 rfl (resV.cellA tbk hs85 0 rfl rfl rfl rfl) ?_
 have hb_ : fs.map FileR.dat = d.dat.Files := by rw [p1, List.take_of_length_le (by omega)]; rfl
 obtain ⟨L87, hs86, ho88⟩ := ownDiskR.fl hs85 ho19 ho70 ho81
 have hs89 := ((hs86.fb b2).fb b4)
 refine ownDiskR.ret rfl (St.keep1 (hs89.fr L87)) ho88 ?_
 · exact DiskD.ext' rfl rfl rfl hb_ rfl rfl
theorem k111_ (d : DiskR) (id : Int) (w : World) (f_d : okDiskR 549755813888 w d) :
    Calls Tryz.prog 109 #[.agg #[i64 d.Room, i64 d.Fuse, i64 d.Next, .slice d.Files.A d.Files.n d.Files.c, .slice d.Kept.A d.Kept.n d.Kept.c, .slice d.Turns.A d.Turns.n d.Turns.c], i64 id] w fun e w' => e = .returned (.int .i64 (atI d.dat.Files id)) ∧ St w [] [] w' := by
 have nb_d_Files := f_d.Files_n
 have nl_d_Files := f_d.Files.sl.len
 have nb_d_Kept := f_d.Kept_n
 have nl_d_Kept := f_d.Kept.len
 have nb_d_Turns := f_d.Turns_n
 have nl_d_Turns := f_d.Turns.len
 have hl1 := f_d.Files.sl.len
 refine enter 21 Tryz.func109 rfl Tryz.ntmps109 rfl rfl ?_
 have hs1 := St.init w
 refine WC.sr (WL.bx hs1 rfl (fun b2 _ hs3 => WL.r 1 hs3 [] rfl (WL.nil (WC.seq (fun K4 hK4 => WC.r1 hs3 [0] rfl (WC.block ?_))))))
 refine WC.lS [1, 8, 9] rfl hs3 (fun k_ f w' => ∃ (i : Nat), k_ = d.Files.n - i ∧ (i ≤ d.Files.n) ∧ (∀ j, j < i → (fun f : FileR => decide (f.Id = id)) (gat encFileR d.Files.xs j) = false) ∧ Sub [(10, .int .i64 i)] f) ((fun (i : Nat) => d.Files.n - i) (0)) ?_ ?_
 ·refine ⟨0, rfl, ?_, ?_, ⟨rfl, trivial⟩⟩
  · exact Nat.zero_le _
  · exact fun j hj => absurd hj (by omega)
 clear hs3
 rintro _ f w ⟨i, rfl, p0, p1, hG⟩ hF hs5
 refine WC.sub _ (hG.app hF) ?_
 clear hG hF
 refine WC.r1 hs5 [] rfl (WC.seq (fun K6 hK6 => ?_))
 refine WC.cq rfl (fun h7 qh7 => ?_) (fun h7 qh7 => ?_)
 ·refine WC.skip (hK6 _ _ (WC.seq (fun K8 hK8 => WC.block (WC.sr (WL.r 1 hs5 [] rfl ?_)))))
  refine WL.val rfl rfl rfl (Run.idxN Tryz.runUnderlying30 Tryz.sizeOf123 rfl rfl rfl ?_ ?_ ?_) ?_
  · exact SlF.some_ (SlF.st0 f_d.Files.sl hs5)
  · omega
  · omega
  refine WL.val rfl rfl rfl (Run.loadA Tryz.isAgg123 Tryz.sizeOf123 rfl rfl (SlF.whole (SlF.st0 f_d.Files.sl hs5) ?_)) ?_
  · omega
  refine WL.al hs5 Tryz.zeroValue123 rfl rfl (fun b9 _ hs10 => WL.r 1 hs10 [] rfl (WL.st tbk hs10 0 rfl rfl (fun _ hs11 => WL.nil (WC.r1 hs11 [0] rfl ?_))))
  refine WC.cq rfl (fun h12 qh12 => ?_) (fun h12 qh12 => ?_)
  ·refine WC.r1 hs11 [] rfl (WC.ret (ibR (tkR (tkR (ibR (tkR ?_))))))
   clear hK8 hK4
   refine rtv rfl rfl hs11 ?_
   rw [show atI d.dat.Files id = findI (fun f : FileR => decide (f.Id = id)) d.Files.xs from findI_map]; exact congrArg (Value.int _) (findI_some (F := encFileR) (p := (fun f : FileR => decide (f.Id = id))) (xs := d.Files.xs) (by omega) p1 h12).symm
  refine WC.skip (hK8 _ _ (WC.region (WL.r 2 hs11 [] rfl (WL.nil (tkN ?_)))))
  refine ⟨sbF rfl, (hs11.drop (by repeat (first | exact List.Sublist.refl _ | exact List.sublist_append_left _ _ | exact List.Sublist.trans (List.sublist_append_left _ _) (List.sublist_append_left _ _) | apply List.Sublist.cons | refine List.Sublist.trans ?_ (sR _)))), _, ?_, i + 1, rfl, ?_, ?_, ⟨rfl, trivial⟩⟩
  · omega
  · omega
  · intro j hj; rcases Nat.lt_or_ge j i with h_ | h_
    · exact p1 j h_
    · obtain rfl : j = i := by omega
      exact h12
 refine WC.exit (hK4 _ _ (WC.r1 hs5 [] rfl (WC.ret (rtv rfl rfl hs5 ?_))))
 rw [show atI d.dat.Files id = findI (fun f : FileR => decide (f.Id = id)) d.Files.xs from findI_map]; exact congrArg (Value.int _) (findI_none (F := encFileR) (p := (fun f : FileR => decide (f.Id = id))) (xs := d.Files.xs) (fun j hj => p1 j (by omega))).symm
theorem k112_ (op : DiskOpR) (w : World) (f_op : okDiskOpR 549755813888 w op) :
    Calls Tryz.prog 145 #[.agg #[i64 op.Kind, .string op.Name, .string op.To, .slice op.Data.A op.Data.n op.Data.c]] w fun e w' => e = .returned (.bool (dopOk op.dat)) ∧ St w [] [] w' := by
 have nz_op_Name := f_op.Name_z
 have nz_op_To := f_op.To_z
 have nb_op_Data := f_op.Data_n
 have nl_op_Data := f_op.Data.len
 have hdl : op.dat.Data.length = op.Data.n := f_op.Data.len
 have hz1 := f_op.Name_z
 have hz2 := f_op.To_z
 refine enter 64 Tryz.func145 rfl Tryz.ntmps145 rfl rfl ?_
 have hs1 := St.init w
 refine WC.sr (WL.bx hs1 rfl (fun b2 _ hs3 => WL.r 1 hs3 [] rfl (WL.nil (WC.seq (fun K4 hK4 => WC.sr (WL.r 4 hs3 [0] rfl (WL.pO tbk 3 Acts.nil hs3 [0] rfl rfl rfl rfl (fun g_ => ⟨rfl, trivial⟩) ?_)))))))
 refine WL.nil (WC.cq rfl (fun h5 qh5 => ?_) (fun h5 qh5 => ?_))
 ·have hw : within op.dat.Kind 1 6 = false := by show within op.Kind 1 6 = false; have h9 := h5; simp only [Bool.and_eq_true, Bool.or_eq_true, decide_eq_true_eq] at h9; rw [within_not]; omega
  refine WC.r1 hs3 [] rfl (WC.ret (tkR ?_))
  clear hK4
  refine rtv rfl rfl hs3 ?_
  unfold dopOk; rw [hw]; rfl
 have hw : within op.dat.Kind 1 6 = true := by show within op.Kind 1 6 = true; have h9 := h5; simp only [Bool.and_eq_false_iff, Bool.or_eq_false_iff, decide_eq_false_iff_not] at h9; rw [within_iff]; omega
 refine WC.skip (hK4 _ _ (WC.seq (fun K6 hK6 => WC.sr (WL.r 4 hs3 [0] rfl (WL.pA tbk 3 Acts.nil hs3 [0] rfl rfl rfl rfl (fun g_ => ⟨rfl, trivial⟩) (WL.r 1 hs3 [] rfl ?_))))))
 apply WL.gO 9 Acts.nil hs3 rfl
 ·intro g7 J8
  have qg7 := g7
  try simp only [bf, within_iff, within_not] at qg7
  refine WL.runA tbk 4 (Acts.nil.cons (j := 8) rfl g7) hs3 [0] rfl ⟨rfl, trivial⟩ ?_
  apply WL.gA 4 (Acts.nil.cons (j := 8) rfl g7) hs3 rfl
  ·intro g9 J10
   have qg9 := g9
   try simp only [bf, within_iff, within_not] at qg9
   refine WL.runA tbk 2 (Acts.nil.cons (j := 12) rfl g9) hs3 [0] rfl ⟨rfl, trivial⟩ (WL.call (wantT rfl g9) rfl rfl (Run.call Tryz.call102 rfl rfl rfl) (k73_ _ _ ?_) ?_)
   · first | assumption | rfl | omega
   rintro _ whs11 ⟨rfl, hs11⟩
   replace hs11 := hs3.call0 hs11
   refine ⟨_, rfl, WL.runA tbk 1 (Acts.nil.cons (j := 12) rfl g9) hs11 [] rfl trivial (WL.eA 4 (Acts.nil.cons (j := 8) rfl g7) J10 hs11 g9 rfl rfl)⟩
  intro _ hs12
  exact WL.eO 5 Acts.nil J8 hs12 g7 rfl rfl
 intro _ hs13
 refine WL.nil (WC.cq rfl (fun h14 qh14 => ?_) (fun h14 qh14 => ?_))
 ·have hnm : opName op.dat = false := (opName_spec (op := op)).trans (congrArg not h14)
  refine WC.r1 hs13 [] rfl (WC.ret (tkR ?_))
  clear hK6
  refine rtv rfl rfl hs13 ?_
  unfold dopOk; rw [hnm]; simp
 have hnm : opName op.dat = true := (opName_spec (op := op)).trans (congrArg not h14)
 refine WC.skip (hK6 _ _ (WC.seq (fun K15 hK15 => WC.sr (WL.r 4 hs13 [0] rfl ?_))))
 apply WL.gA 4 Acts.nil hs13 rfl
 ·intro g16 J17
  have qg16 := g16
  try simp only [bf, within_iff, within_not] at qg16
  refine WL.runA tbk 2 (Acts.nil.cons (j := 3) rfl g16) hs13 [0] rfl ⟨rfl, trivial⟩ (WL.call (wantT rfl g16) rfl rfl (Run.call Tryz.call102 rfl rfl rfl) (k73_ _ _ ?_) ?_)
  · first | assumption | rfl | omega
  rintro _ whs18 ⟨rfl, hs18⟩
  replace hs18 := hs13.call0 hs18
  refine ⟨_, rfl, WL.runA tbk 1 (Acts.nil.cons (j := 3) rfl g16) hs18 [] rfl trivial (WL.eA 4 Acts.nil J17 hs18 g16 rfl rfl)⟩
 intro _ hs19
 refine WL.r 1 hs19 [] rfl ?_
 apply WL.gO 8 Acts.nil hs19 rfl
 ·intro g20 J21
  have qg20 := g20
  try simp only [bf, within_iff, within_not] at qg20
  refine WL.runA tbk 4 (Acts.nil.cons (j := 9) rfl g20) hs19 [0] rfl ⟨rfl, trivial⟩ (WL.pA tbk 3 (Acts.nil.cons (j := 9) rfl g20) hs19 [0] rfl rfl rfl rfl (fun g_ => ⟨rfl, trivial⟩) (WL.eO 5 Acts.nil J21 hs19 g20 rfl rfl))
 intro _ hs22
 refine WL.nil (WC.cq rfl (fun h23 qh23 => ?_) (fun h23 qh23 => ?_))
 ·have hto : opTo op.dat = false := (opTo_spec (op := op)).trans (congrArg not h23)
  refine WC.r1 hs22 [] rfl (WC.ret (tkR ?_))
  clear hK15
  refine rtv rfl rfl hs22 ?_
  unfold dopOk; rw [hto]; simp
 have hto : opTo op.dat = true := (opTo_spec (op := op)).trans (congrArg not h23)
 refine WC.skip (hK15 _ _ (WC.sr (WL.r 5 hs22 [0] rfl ?_)))
 apply WL.gA 9 Acts.nil hs22 rfl
 ·intro g24 J25
  have qg24 := g24
  try simp only [bf, within_iff, within_not] at qg24
  refine WL.runA tbk 4 (Acts.nil.cons (j := 4) rfl g24) hs22 [0] rfl ⟨rfl, trivial⟩ (WL.pO tbk 4 (Acts.nil.cons (j := 4) rfl g24) hs22 [0] rfl rfl rfl rfl (fun g_ => ⟨rfl, trivial⟩) (WL.eA 5 Acts.nil J25 hs22 g24 rfl rfl))
 intro _ hs26
 refine WL.r 1 hs26 [] rfl (WL.nil (WC.ret (rtv rfl rfl hs26 ?_)))
 unfold dopOk; rw [hw, hnm, hto, hdl]; rfl
theorem k113_ (d : DiskR) (op : DiskOpR) (w : World) (f_d : okDiskR 549755813888 w d) (f_op : okDiskOpR 549755813888 w op) (hok : diskOk d.dat = true) (hb : totDisk d.dat ≤ 1048576) :
    Calls Tryz.prog 146 #[.agg #[i64 d.Room, i64 d.Fuse, i64 d.Next, .slice d.Files.A d.Files.n d.Files.c, .slice d.Kept.A d.Kept.n d.Kept.c, .slice d.Turns.A d.Turns.n d.Turns.c], .agg #[i64 op.Kind, .string op.Name, .string op.To, .slice op.Data.A op.Data.n op.Data.c]] w fun e w' => e = .returned (.int .i64 (refuse d.dat op.dat)) ∧ St w [] [] w' := by
 have nb_d_Files := f_d.Files_n
 have nl_d_Files := f_d.Files.sl.len
 have nb_d_Kept := f_d.Kept_n
 have nl_d_Kept := f_d.Kept.len
 have nb_d_Turns := f_d.Turns_n
 have nl_d_Turns := f_d.Turns.len
 have nz_op_Name := f_op.Name_z
 have nz_op_To := f_op.To_z
 have nb_op_Data := f_op.Data_n
 have nl_op_Data := f_op.Data.len
 have hD := diskOk_P hok
 obtain ⟨hs1, hs2, hs3, hs4, hs5, hs6, hs7, hs8⟩ := hD.small
 have hl1 := f_d.Files.sl.len
 have hl2 := f_d.Kept.len
 have hl3 := f_d.Turns.len
 have hm1 : d.Files.n ≤ 10 := by rw [← hl1, ← List.length_map (f := FileR.dat)]; exact hs1
 have hm2 : d.Kept.n ≤ 10 := by rw [← hl2]; exact hs2
 have hm3 : d.Turns.n ≤ 30 := by rw [← hl3]; exact hs3
 have hdl : (dirD d.dat).length ≤ 40 := Nat.le_trans turnsL_len (by show d.Kept.xs.length + d.Turns.xs.length ≤ 40; omega)
 have hfl : d.dat.Files.length = d.Files.n := by rw [← hl1]; exact List.length_map _
 have htl : d.dat.Turns.length = d.Turns.n := hl3
 refine enter 72 Tryz.func146 rfl Tryz.ntmps146 rfl rfl ?_
 have hs1 := St.init w
 refine WC.sr (WL.bx hs1 rfl (fun b2 _ hs3 => WL.bx hs3 rfl (fun b4 _ hs5 => WL.r 1 hs5 [] rfl (WL.nil (WC.seq (fun K6 hK6 => WC.r1 hs5 [1] rfl ?_))))))
 refine WC.cq rfl (fun h7 qh7 => ?_) (fun h7 qh7 => ?_)
 ·have hf : d.dat.Fuse = 0 := by show d.Fuse = 0; have h9 := h7; simpa using h9
  refine WC.r1 hs5 [] rfl (WC.ret (tkR ?_))
  clear hK6
  refine rtv rfl rfl hs5 ?_
  first | rw [refuse_2 hf] | rw [refuse_3 hf h3] | rw [refuse_4 hf h3 h4] | rw [refuse_0 hf h3 h4]
 have hf : ¬ d.dat.Fuse = 0 := by show ¬ d.Fuse = 0; have h9 := h7; simpa using h9
 refine WC.skip (hK6 _ _ (WC.seq (fun K8 hK8 => WC.seq (fun K9 hK9 => WC.rH hs5 hs5 (fun _ hs10 => ?_)))))
 refine WH.rn [0, 1, 2, 3] hs10 [0] rfl rfl (WH.split 12 rfl (fun g11 => ?_) (fun g11 => ?_))
 ·refine WH.rnA (Acts.nil.cons (j := 3) rfl g11) [4, 5, 6, 7, 9, 10] hs10 [0, 1, 0] rfl rfl (WH.o1 8 rfl (WL.call (wantT rfl g11) rfl rfl (Run.call Tryz.call69 rfl rfl rfl) (k109_ d _ (okDiskR.st0 f_d hs10) ?_ ?_) ?_))
  iterate 2 first | assumption | rfl | omega
  rintro _ whs12 ⟨A13, c14, L1_15, rfl, hs12, ho16⟩
  replace hs12 := hs10.callF hs12
  refine ⟨_, rfl, ?_⟩
  replace hs12 := St.back [_, _] hs12
  refine WL.nil ⟨(hs12.rm L1_15), WH.o1 11 rfl (WL.call (wantT rfl g11) rfl rfl (Run.call Tryz.call108 rfl rfl rfl) (k59_ _ _ _ _ _ _ (SlF.ofOwn ho16 (hs12.ow L1_15)) ?_) ?_)⟩
  · first | assumption | rfl | omega
  rintro _ whs17 ⟨rfl, hs17⟩
  replace hs17 := hs12.call0 hs17
  refine ⟨_, rfl, WL.nil ⟨(hs17.rm L1_15), WH.rnA (Acts.nil.cons (j := 3) rfl g11) [12, 13] (hs17.rm L1_15) [] rfl rfl ?_⟩⟩
  refine WH.take 14 rfl (by kernel_rfl) rfl rfl rfl (hs17.rm L1_15) (fun w_ hs_ => (Run.pick rfl rfl rfl rfl)) ?_
  refine WH.dn (hK9 _ _ ?_)
  refine WC.cq rfl (fun h18 qh18 => ?_) (fun h18 qh18 => ?_)
  ·have h3 : op.dat.Kind ≠ 6 ∧ hasN (dirD d.dat) op.dat.Name = decide (op.dat.Kind = 1) := by have h9 := h18; rw [has_find hD.allI] at h9; show op.Kind ≠ 6 ∧ hasN (dirD d.dat) op.Name = decide (op.Kind = 1); simp at h9; exact ⟨h9.1, by rw [← h9.2]⟩
   refine WC.r1 hs17 [] rfl (WC.ret (tkR ?_))
   clear hK8
   refine rtv rfl rfl hs17 ?_
   first | rw [refuse_2 hf] | rw [refuse_3 hf h3] | rw [refuse_4 hf h3 h4] | rw [refuse_0 hf h3 h4]
  have h3 : ¬ (op.dat.Kind ≠ 6 ∧ hasN (dirD d.dat) op.dat.Name = decide (op.dat.Kind = 1)) := by have h9 := h18; rw [has_find hD.allI] at h9; show ¬ (op.Kind ≠ 6 ∧ hasN (dirD d.dat) op.Name = decide (op.Kind = 1)); rintro ⟨a, b⟩; rw [b] at h9; simp [a] at h9
  refine WC.skip (hK8 _ _ (WC.sr (WL.r 4 hs17 [0] rfl (WL.pO tbk 3 Acts.nil hs17 [0] rfl rfl rfl rfl (fun g_ => ⟨rfl, trivial⟩) (WL.r 1 hs17 [] rfl (WL.pO tbk 3 Acts.nil hs17 [0] rfl rfl rfl rfl (fun g_ => ⟨rfl, trivial⟩) (WL.r 1 hs17 [] rfl ?_)))))))
  refine WL.nil (WC.seq (fun K19 hK19 => WC.sr (WL.r 4 hs17 [0] rfl ?_)))
  apply WL.gA 9 Acts.nil hs17 rfl
  ·intro g20 J21
   have qg20 := g20
   try simp only [bf, within_iff, within_not] at qg20
   refine WL.runA tbk 5 (Acts.nil.cons (j := 3) rfl g20) hs17 [1] rfl ⟨rfl, trivial⟩ (WL.pO tbk 3 (Acts.nil.cons (j := 3) rfl g20) hs17 [1] rfl rfl rfl rfl (fun g_ => ⟨rfl, trivial⟩) (WL.eA 6 Acts.nil J21 hs17 g20 rfl rfl))
  intro _ hs22
  refine WL.r 1 hs22 [] rfl ?_
  apply WL.gO 7 Acts.nil hs22 rfl
  ·intro g23 J24
   have qg23 := g23
   try simp only [bf, within_iff, within_not] at qg23
   refine WL.runA tbk 2 (Acts.nil.cons (j := 14) rfl g23) hs22 [] rfl trivial (WL.pA tbk 4 (Acts.nil.cons (j := 14) rfl g23) hs22 [1] rfl rfl rfl rfl (fun g_ => ⟨rfl, trivial⟩) (WL.eO 3 Acts.nil J24 hs22 g23 rfl rfl))
  intro _ hs25
  refine WL.r 1 hs25 [] rfl ?_
  apply WL.gO 10 Acts.nil hs25 rfl
  ·intro g26 J27
   have qg26 := g26
   try simp only [bf, within_iff, within_not] at qg26
   refine WL.runA tbk 4 (Acts.nil.cons (j := 23) rfl g26) hs25 [0] rfl ⟨rfl, trivial⟩ (WL.pA tbk 5 (Acts.nil.cons (j := 23) rfl g26) hs25 [0, 0] rfl rfl rfl rfl (fun g_ => ⟨rfl, rfl, trivial⟩) (WL.eO 5 Acts.nil J27 hs25 g26 rfl rfl))
  intro _ hs28
  refine WL.nil (WC.cq rfl (fun h29 qh29 => ?_) (fun h29 qh29 => ?_))
  ·have h4 : fourD d.dat op.dat := by
     have h9 := h29
     show (op.Kind = 1 ∧ (d.dat.Files.length = 10 ∨ d.Next = 1000000)) ∨ (turnK op.Kind = true ∧ d.dat.Turns.length = 30) ∨ (op.Kind = 4 ∧ op.To = op.Name)
     rw [hfl, htl]
     rw [Bool.or_eq_true, Bool.or_eq_true] at h9
     rcases h9 with (h9 | h9) | h9
     · simp only [Bool.and_eq_true, Bool.or_eq_true, decide_eq_true_eq] at h9
       exact .inl (by omega)
     · rw [Bool.and_eq_true] at h9
       exact .inr (.inl ⟨h9.1, by have := of_decide_eq_true h9.2; omega⟩)
     · simp only [Bool.and_eq_true, Bool.or_eq_true, decide_eq_true_eq] at h9
       exact .inr (.inr h9)
   refine WC.r1 hs28 [] rfl (WC.ret (tkR ?_))
   clear hK19
   refine rtv rfl rfl hs28 ?_
   first | rw [refuse_2 hf] | rw [refuse_3 hf h3] | rw [refuse_4 hf h3 h4] | rw [refuse_0 hf h3 h4]
  have h4 : ¬ fourD d.dat op.dat := by
    have h9 := h29
    show ¬ ((op.Kind = 1 ∧ (d.dat.Files.length = 10 ∨ d.Next = 1000000)) ∨ (turnK op.Kind = true ∧ d.dat.Turns.length = 30) ∨ (op.Kind = 4 ∧ op.To = op.Name))
    rw [hfl, htl]
    rw [Bool.or_eq_false_iff, Bool.or_eq_false_iff] at h9
    obtain ⟨⟨ha, hb⟩, hc⟩ := h9
    rintro (h | ⟨h, h'⟩ | h)
    · revert ha; simp [h.1]; omega
    · rw [show (decide (op.Kind = 1) || decide (op.Kind = 4) || decide (op.Kind = 5)) = true from h] at hb; revert hb; simp; omega
    · revert hc; simp [h.1, h.2]
  refine WC.skip (hK19 _ _ (WC.r1 hs28 [] rfl (WC.ret (rtv rfl rfl hs28 ?_))))
  first | rw [refuse_2 hf] | rw [refuse_3 hf h3] | rw [refuse_4 hf h3 h4] | rw [refuse_0 hf h3 h4]
 refine WH.takeSkip 4 rfl (by kernel_rfl) (wantNT rfl g11) rfl rfl hs10 (WH.takeSkip 5 rfl (by kernel_rfl) (wantNT rfl g11) rfl rfl hs10 (WH.takeSkip 6 rfl (by kernel_rfl) (wantNT rfl g11) rfl rfl hs10 (WH.takeSkip 7 rfl (by kernel_rfl) (wantNT rfl g11) rfl rfl hs10 (WH.takeSkip 9 rfl (by kernel_rfl) (wantNT rfl g11) rfl rfl hs10 (WH.takeSkip 10 rfl (by kernel_rfl) (wantNT rfl g11) rfl rfl hs10 (WH.o1 8 rfl (WL.skip (wantNT rfl g11) rfl rfl ?_)))))))
 refine WL.nil ⟨hs10, WH.o1 11 rfl (WL.skip (wantNT rfl g11) rfl rfl (WL.nil ⟨hs10, WH.takeSkip 12 rfl (by kernel_rfl) (wantNT rfl g11) rfl rfl hs10 (WH.takeSkip 13 rfl (by kernel_rfl) (wantNT rfl g11) rfl rfl hs10 ?_)⟩))⟩
 refine WH.take 14 rfl (by kernel_rfl) rfl rfl rfl hs10 (fun w_ hs_ => (Run.pickF rfl rfl g11 rfl)) ?_
 refine WH.dn (hK9 _ _ (WC.condF rfl rfl ?_))
 have h3 : ¬ (op.dat.Kind ≠ 6 ∧ hasN (dirD d.dat) op.dat.Name = decide (op.dat.Kind = 1)) := by rintro ⟨a, _⟩; have a' : op.Kind ≠ 6 := a; simp_all
 refine WC.skip (hK8 _ _ (WC.sr (WL.r 4 hs10 [0] rfl (WL.pO tbk 3 Acts.nil hs10 [0] rfl rfl rfl rfl (fun g_ => ⟨rfl, trivial⟩) (WL.r 1 hs10 [] rfl (WL.pO tbk 3 Acts.nil hs10 [0] rfl rfl rfl rfl (fun g_ => ⟨rfl, trivial⟩) (WL.r 1 hs10 [] rfl ?_)))))))
 refine WL.nil (WC.seq (fun K31 hK31 => WC.sr (WL.r 4 hs10 [0] rfl ?_)))
 apply WL.gA 9 Acts.nil hs10 rfl
 ·intro g32 J33
  have qg32 := g32
  try simp only [bf, within_iff, within_not] at qg32
  refine WL.runA tbk 5 (Acts.nil.cons (j := 3) rfl g32) hs10 [1] rfl ⟨rfl, trivial⟩ (WL.pO tbk 3 (Acts.nil.cons (j := 3) rfl g32) hs10 [1] rfl rfl rfl rfl (fun g_ => ⟨rfl, trivial⟩) (WL.eA 6 Acts.nil J33 hs10 g32 rfl rfl))
 intro _ hs34
 refine WL.r 1 hs34 [] rfl ?_
 apply WL.gO 7 Acts.nil hs34 rfl
 ·intro g35 J36
  have qg35 := g35
  try simp only [bf, within_iff, within_not] at qg35
  refine WL.runA tbk 2 (Acts.nil.cons (j := 14) rfl g35) hs34 [] rfl trivial (WL.pA tbk 4 (Acts.nil.cons (j := 14) rfl g35) hs34 [1] rfl rfl rfl rfl (fun g_ => ⟨rfl, trivial⟩) (WL.eO 3 Acts.nil J36 hs34 g35 rfl rfl))
 intro _ hs37
 refine WL.r 1 hs37 [] rfl ?_
 apply WL.gO 10 Acts.nil hs37 rfl
 ·intro g38 J39
  have qg38 := g38
  try simp only [bf, within_iff, within_not] at qg38
  refine WL.runA tbk 4 (Acts.nil.cons (j := 23) rfl g38) hs37 [0] rfl ⟨rfl, trivial⟩ (WL.pA tbk 5 (Acts.nil.cons (j := 23) rfl g38) hs37 [0, 0] rfl rfl rfl rfl (fun g_ => ⟨rfl, rfl, trivial⟩) (WL.eO 5 Acts.nil J39 hs37 g38 rfl rfl))
 intro _ hs40
 refine WL.nil (WC.cq rfl (fun h41 qh41 => ?_) (fun h41 qh41 => ?_))
 ·have h4 : fourD d.dat op.dat := by
    have h9 := h41
    show (op.Kind = 1 ∧ (d.dat.Files.length = 10 ∨ d.Next = 1000000)) ∨ (turnK op.Kind = true ∧ d.dat.Turns.length = 30) ∨ (op.Kind = 4 ∧ op.To = op.Name)
    rw [hfl, htl]
    rw [Bool.or_eq_true, Bool.or_eq_true] at h9
    rcases h9 with (h9 | h9) | h9
    · simp only [Bool.and_eq_true, Bool.or_eq_true, decide_eq_true_eq] at h9
      exact .inl (by omega)
    · rw [Bool.and_eq_true] at h9
      exact .inr (.inl ⟨h9.1, by have := of_decide_eq_true h9.2; omega⟩)
    · simp only [Bool.and_eq_true, Bool.or_eq_true, decide_eq_true_eq] at h9
      exact .inr (.inr h9)
  refine WC.r1 hs40 [] rfl (WC.ret (tkR ?_))
  clear hK31
  refine rtv rfl rfl hs40 ?_
  first | rw [refuse_2 hf] | rw [refuse_3 hf h3] | rw [refuse_4 hf h3 h4] | rw [refuse_0 hf h3 h4]
 have h4 : ¬ fourD d.dat op.dat := by
   have h9 := h41
   show ¬ ((op.Kind = 1 ∧ (d.dat.Files.length = 10 ∨ d.Next = 1000000)) ∨ (turnK op.Kind = true ∧ d.dat.Turns.length = 30) ∨ (op.Kind = 4 ∧ op.To = op.Name))
   rw [hfl, htl]
   rw [Bool.or_eq_false_iff, Bool.or_eq_false_iff] at h9
   obtain ⟨⟨ha, hb⟩, hc⟩ := h9
   rintro (h | ⟨h, h'⟩ | h)
   · revert ha; simp [h.1]; omega
   · rw [show (decide (op.Kind = 1) || decide (op.Kind = 4) || decide (op.Kind = 5)) = true from h] at hb; revert hb; simp; omega
   · revert hc; simp [h.1, h.2]
 refine WC.skip (hK31 _ _ (WC.r1 hs40 [] rfl (WC.ret (rtv rfl rfl hs40 ?_))))
 first | rw [refuse_2 hf] | rw [refuse_3 hf h3] | rw [refuse_4 hf h3 h4] | rw [refuse_0 hf h3 h4]
theorem k114_ (d : DiskR) (w : World) (f_d : okDiskR 549755813888 w d) (hb : totDisk d.dat ≤ 1048576) :
    Calls Tryz.prog 69 #[.agg #[i64 d.Room, i64 d.Fuse, i64 d.Next, .slice d.Files.A d.Files.n d.Files.c, .slice d.Kept.A d.Kept.n d.Kept.c, .slice d.Turns.A d.Turns.n d.Turns.c]] w fun e w' => ∃ A c L1, e = .returned (.slice A (dirS d.dat).length c) ∧ St w [] L1 w' ∧ OwnF encLink 101 (.slice A (dirS d.dat).length c) (dirS d.dat) L1 := by
 have nb_d_Files := f_d.Files_n
 have nl_d_Files := f_d.Files.sl.len
 have nb_d_Kept := f_d.Kept_n
 have nl_d_Kept := f_d.Kept.len
 have nb_d_Turns := f_d.Turns_n
 have nl_d_Turns := f_d.Turns.len
 let w0 := w
 obtain ⟨⟨hb1, hb2, hb3⟩, hb4⟩ := totDisk_facts hb
 have hl1 := f_d.Files.sl.len
 have hl2 := f_d.Kept.len
 have hl3 := f_d.Turns.len
 have hm1 : d.Files.n ≤ 1048576 := by rw [← hl1, ← List.length_map (f := FileR.dat)]; exact hb1
 have hm2 : d.Kept.n ≤ 1048576 := by rw [← hl2]; exact hb2
 have hm3 : d.Turns.n ≤ 1048576 := by rw [← hl3]; exact hb3
 refine enter 11 Tryz.func69 rfl Tryz.ntmps69 rfl rfl ?_
 have hs1 := St.init w
 refine WC.sr (WL.bx hs1 rfl (fun b2 _ hs3 => WL.r 1 hs3 [] rfl (WL.nil (WC.seq (fun K4 hK4 => WC.sr (WL.r 1 hs3 [0] rfl ?_))))))
 refine WL.cl Tryz.call52 rfl (k107_ d _ (okDiskR.st0 f_d hs3) ?_) ?_
 · first | assumption | rfl | omega | exact Nat.le_refl _
 rintro _ whs5 ⟨rfl, hs5⟩
 replace hs5 := hs3.call0 hs5
 refine ⟨_, rfl, WL.r 1 hs5 [] rfl (WL.nil (WC.cq rfl (fun h6 qh6 => ?_) (fun h6 qh6 => ?_)))⟩
 ·have hS : dirS d.dat = [] := if_neg (by have h9 := h6; simp at h9; rw [h9]; decide)
  refine WC.r1 hs5 [] rfl (WC.ret (tkR ?_))
  clear hK4
  refine retV1 rfl (resV.tmp rfl) ?_
  have hx_ := OwnF.eqOf (xs := dirS d.dat) (OwnF.nil encLink 101) (by rw [hS])
  rw [← hx_]
  exact ⟨_, _, _, rfl, hs5.nil, (OwnF.nil encLink 101)⟩
 have hS : dirS d.dat = dirD d.dat := if_pos (by have h9 := h6; simpa using h9)
 refine WC.skip (hK4 _ _ (WC.sr (WL.r 4 hs5 [0, 0] rfl ?_)))
 refine WL.cl Tryz.call123 rfl (k108_ d _ _ (okDiskR.st0 f_d hs5) ?_ ?_ ?_) ?_
 iterate 3 first | assumption | rfl | omega | exact Nat.le_refl _
 rintro _ whs7 ⟨A8, c9, L1_10, rfl, hs7, ho11⟩
 replace hs7 := hs5.callF hs7
 refine ⟨_, rfl, ?_⟩
 replace hs7 := St.back [_] hs7
 refine WL.r 1 hs7 [] rfl (WL.nil (WC.ret (retV1 rfl (resV.tmp rfl) ?_)))
 have hx_ := OwnF.eqOf (xs := dirS d.dat) ho11 (by rw [hS, List.take_of_length_le (by omega)]; rfl)
 rw [← hx_]
 first | exact ⟨_, _, _, rfl, (St.keep1 (hs7.fr L1_10)), ho11⟩ | exact ⟨A8, c9, _, by rw [OwnF.len_ ho11], (St.keep1 (hs7.fr L1_10)), by rw [OwnF.len_ ho11]; exact ho11⟩
theorem k115_ (d : DiskR) (name : ByteArray) (w : World) (f_d : okDiskR 549755813888 w d) (hb : totDisk d.dat ≤ 1048576) :
    Calls Tryz.prog 54 #[.agg #[i64 d.Room, i64 d.Fuse, i64 d.Next, .slice d.Files.A d.Files.n d.Files.c, .slice d.Kept.A d.Kept.n d.Kept.c, .slice d.Turns.A d.Turns.n d.Turns.c], .string name] w fun e w' => ∃ A c L1, e = .returned (.tuple #[.slice A (readB d.dat name).length c, .bool (readOk d.dat name)]) ∧ St w [] L1 w' ∧ OwnF encB 5 (.slice A (readB d.dat name).length c) (readB d.dat name) L1 := by
 have nb_d_Files := f_d.Files_n
 have nl_d_Files := f_d.Files.sl.len
 have nb_d_Kept := f_d.Kept_n
 have nl_d_Kept := f_d.Kept.len
 have nb_d_Turns := f_d.Turns_n
 have nl_d_Turns := f_d.Turns.len
 have hsl : (dirS d.dat).length ≤ 1048576 := dirS_len d.dat
 refine enter 23 Tryz.func54 rfl Tryz.ntmps54 rfl rfl ?_
 have hs1 := St.init w
 refine WC.sr (WL.bx hs1 rfl (fun b2 _ hs3 => WL.r 2 hs3 [] rfl (WL.nil (WC.sr (WL.r 1 hs3 [0] rfl ?_)))))
 refine WL.cl Tryz.call69 rfl (k114_ d _ (okDiskR.st0 f_d hs3) ?_) ?_
 · first | assumption | rfl | omega
 rintro _ whs4 ⟨A5, c6, L1_7, rfl, hs4, ho8⟩
 replace hs4 := hs3.callF hs4
 refine ⟨_, rfl, ?_⟩
 replace hs4 := St.back [_] hs4
 refine WL.r 1 hs4 [] rfl (WL.cl Tryz.call108 rfl (k59_ _ _ _ _ _ _ (SlF.ofOwn ho8 (hs4.ow L1_7)) ?_) ?_)
 · first | assumption | rfl | omega
 rintro _ whs9 ⟨rfl, hs9⟩
 replace hs9 := hs4.call0 hs9
 refine ⟨_, rfl, WL.r 1 hs9 [] rfl (WL.nil (WC.seq (fun K10 hK10 => WC.r1 hs9 [] rfl ?_)))⟩
 refine WC.cq rfl (fun h11 qh11 => ?_) (fun h11 qh11 => ?_)
 ·have hf : readOk d.dat name = false := by unfold readOk; exact dirS_no (by have h9 := h11; simpa using h9)
  have hB : readB d.dat name = [] := if_neg (by rw [hf]; decide)
  refine WC.r1 hs9 [] rfl (WC.ret (tkR ?_))
  clear hK10
  refine retV2 rfl (resV.tmp rfl) (resV.tmp rfl) ?_
  rw [hf]
  have hx_ := OwnF.eqOf (xs := readB d.dat name) (OwnF.nil encB 5) (by rw [hB])
  rw [← hx_]
  exact ⟨_, _, _, rfl, hs9.nil, (OwnF.nil encB 5)⟩
 obtain ⟨hok, hh⟩ := dirS_yes (d := d.dat) (n := name) (by have h9 := h11; simpa using h9)
 have hD := diskOk_P hok
 have hf : readOk d.dat name = true := by unfold readOk; rw [hok, hh]; rfl
 have hfn := (hD.at hh).1
 have hfn2 : fileN d.dat name < d.Files.xs.length := by rw [← List.length_map (f := FileR.dat)]; exact hfn
 have hB : readB d.dat name = (gat encFileR d.Files.xs (fileN d.dat name)).Body.xs := by unfold readB; rw [if_pos hf, show fAt d.dat.Files (fileN d.dat name) = FileR.dat (gat encFileR d.Files.xs (fileN d.dat name)) from fAt_dat hfn2]; rfl
 have hyb := (f_d.Files.all _ (gat_mem (F := encFileR) (xs := d.Files.xs) (k := fileN d.dat name) hfn2)).Body.len
 have hyu : (gat encFileR d.Files.xs (fileN d.dat name)).Body.xs.length ≤ usedF d.dat.Files := usedF_gat hfn2
 have hul := hD.room.2.1
 have hfl9 := f_d.Files.sl.len
 have hat := (hD.at hh).2
 have hdS : dirS d.dat = dirD d.dat := if_pos hok
 rw [hdS]
 refine WC.skip (hK10 _ _ (WC.seq (fun K12 hK12 => WC.rH hs9 hs9 (fun _ hs13 => ?_))))
 refine WH.rn [1, 2, 3, 4] hs13 [0, 0] rfl rfl (WH.all [0, 5] (by kernel_rfl) rfl (WHs.cons (i := 0) rfl ?_ (WHs.cons (i := 5) rfl ?_ WHs.nil)))
 ·refine WL.buildF (F := encB) hs13 ([]) Tryz.runUnderlying43 Tryz.sizeOf5 Tryz.zeroValue5 rfl rfl rfl rfl rfl rfl rfl rfl rfl rfl rfl rfl (fun A17 c18 L14 whs15 hs15 ho16 => ?_)
  replace hs15 := St.back [_] hs15
  refine WL.nil ⟨(hs15.rm L14), WH.o1 5 rfl (WL.cl Tryz.call109 rfl (k111_ d _ _ (okDiskR.st0 f_d hs15)) ?_)⟩
  rintro _ whs19 ⟨rfl, hs19⟩
  replace hs19 := hs15.call0 hs19
  refine ⟨_, rfl, WL.nil ⟨(hs19.rm L14), ?_⟩⟩
  refine WH.take 6 rfl (by kernel_rfl) rfl rfl rfl (hs19.rm L14) (fun w_ hs_ => (Run.idxK ((fileN d.dat name)) Tryz.runUnderlying30 Tryz.sizeOf123 rfl rfl rfl ?_ ?_ ?_)) ?_
  · exact SlF.some_ (SlF.st0 f_d.Files.sl (hs_ : St _ _ _ _))
  · omega
  · omega
  refine WH.take 7 rfl (by kernel_rfl) rfl rfl rfl (hs19.rm L14) (fun w_ hs_ => (Run.fieldO Tryz.runUnderlying123 rfl rfl rfl Tryz.sizeOf43 rfl)) ?_
  refine WH.take 8 rfl (by kernel_rfl) rfl rfl rfl (hs19.rm L14) (fun w_ hs_ => (Run.load Tryz.isAgg43 rfl rfl (SlF.fld (SlF.st0 f_d.Files.sl (hs_ : St _ _ _ _)) ?_ rfl))) ?_
  · omega
  refine WH.o1 9 rfl (WL.appendG (hs19.fr L14) ho16 (SlF.src (SlF.st0 (SlN.nth f_d.Files (by omega)).Body hs19) Tryz.underlying43) Tryz.underlying43 inf5 rfl rfl rfl rfl rfl rfl rfl rfl rfl rfl ?_ (fun A23 c24 L20 whs21 hs21 ho22 => ?_))
  · simp; omega
  replace hs21 := St.back [_] hs21
  refine WL.nil ⟨(hs21.rm L20), WH.rn [10, 11] (hs21.rm L20) [] rfl rfl (WH.dn (hK12 _ _ (WC.ret (retV2 rfl (resV.tmp rfl) (resV.tmp rfl) ?_))))⟩
  rw [hf]
  have hx_ := OwnF.eqOf (xs := readB d.dat name) ho22 (by rw [hB]; first | done | rfl | simp)
  rw [← hx_]
  first | exact ⟨_, _, _, rfl, (St.keep1 (hs21.fr L20)), ho22⟩ | exact ⟨A23, c24, _, by rw [OwnF.len_ ho22], (St.keep1 (hs21.fr L20)), by rw [OwnF.len_ ho22]; exact ho22⟩
 refine WL.cl Tryz.call109 rfl (k111_ d _ _ (okDiskR.st0 f_d hs13)) ?_
 rintro _ whs25 ⟨rfl, hs25⟩
 replace hs25 := hs13.call0 hs25
 refine ⟨_, rfl, WL.nil ⟨hs25, ?_⟩⟩
 refine WH.take 6 rfl (by kernel_rfl) rfl rfl rfl hs25 (fun w_ hs_ => (Run.idxK ((fileN d.dat name)) Tryz.runUnderlying30 Tryz.sizeOf123 rfl rfl rfl ?_ ?_ ?_)) ?_
 · exact SlF.some_ (SlF.st0 f_d.Files.sl (hs_ : St _ _ _ _))
 · omega
 · omega
 refine WH.take 7 rfl (by kernel_rfl) rfl rfl rfl hs25 (fun w_ hs_ => (Run.fieldO Tryz.runUnderlying123 rfl rfl rfl Tryz.sizeOf43 rfl)) ?_
 refine WH.take 8 rfl (by kernel_rfl) rfl rfl rfl hs25 (fun w_ hs_ => (Run.load Tryz.isAgg43 rfl rfl (SlF.fld (SlF.st0 f_d.Files.sl (hs_ : St _ _ _ _)) ?_ rfl))) ?_
 · omega
 refine WH.o1 0 rfl (WL.buildF (F := encB) hs25 ([]) Tryz.runUnderlying43 Tryz.sizeOf5 Tryz.zeroValue5 rfl rfl rfl rfl rfl rfl rfl rfl rfl rfl rfl rfl (fun A29 c30 L26 whs27 hs27 ho28 => ?_))
 replace hs27 := St.back [_] hs27
 refine WL.nil ⟨(hs27.rm L26), WH.o1 9 rfl (WL.appendG (hs27.fr L26) ho28 (SlF.src (SlF.st0 (SlN.nth f_d.Files (by omega)).Body hs27) Tryz.underlying43) Tryz.underlying43 inf5 rfl rfl rfl rfl rfl rfl rfl rfl rfl rfl ?_ (fun A34 c35 L31 whs32 hs32 ho33 => ?_))⟩
 · simp; omega
 replace hs32 := St.back [_] hs32
 refine WL.nil ⟨(hs32.rm L31), WH.rn [10, 11] (hs32.rm L31) [] rfl rfl (WH.dn (hK12 _ _ (WC.ret (retV2 rfl (resV.tmp rfl) (resV.tmp rfl) ?_))))⟩
 rw [hf]
 have hx_ := OwnF.eqOf (xs := readB d.dat name) ho33 (by rw [hB]; first | done | rfl | simp)
 rw [← hx_]
 first | exact ⟨_, _, _, rfl, (St.keep1 (hs32.fr L31)), ho33⟩ | exact ⟨A34, c35, _, by rw [OwnF.len_ ho33], (St.keep1 (hs32.fr L31)), by rw [OwnF.len_ ho33]; exact ho33⟩
set_option maxHeartbeats 4000000 in
theorem k116_ (d : DiskR) (L_d : Hp) (w : World) (o_d : ownDiskR d L_d) (h_d : Hh w L_d) (hd_ : ((L_d).map (·.1)).Nodup) (ht : d.Turns.xs = []) (hsm : smDisk 549755813888 d.dat) (hn1 : d.Files.xs.length ≤ 1048576) (hn2 : d.Kept.n ≤ 1048576) :
    Calls Tryz.prog 147 #[.agg #[i64 d.Room, i64 d.Fuse, i64 d.Next, .slice d.Files.A d.Files.n d.Files.c, .slice d.Kept.A d.Kept.n d.Kept.c, .slice d.Turns.A d.Turns.n d.Turns.c]] w fun e w' => ∃ r L1, e = .returned (.agg #[i64 r.Room, i64 r.Fuse, i64 r.Next, .slice r.Files.A r.Files.n r.Files.c, .slice r.Kept.A r.Kept.n r.Kept.c, .slice r.Turns.A r.Turns.n r.Turns.c]) ∧ St w (L_d.map (·.1)) L1 w' ∧ ownDiskR r L1 ∧ r.dat = ({ d.dat with Files := onlyL d.dat.Kept d.dat.Files } : DiskD) := by
 have hdo := ownDiskR.ok (B := 549755813888) o_d h_d hsm
 have hl1 := hdo.Files.sl.len
 have hl2 := hdo.Kept.len
 have hl3 := hdo.Turns.len
 have htn : d.Turns.n = 0 := by rw [← hl3, ht]; rfl
 have hil : (idsD d.dat).length ≤ 1048576 := by unfold idsD; rw [List.length_append, List.length_map]; have h9 := made_len d.dat.Turns; have h8 : d.dat.Turns.length = d.Turns.xs.length := rfl; have h7 : d.dat.Kept.length = d.Kept.xs.length := rfl; omega
 refine enter 27 Tryz.func147 rfl Tryz.ntmps147 rfl rfl ?_
 have hs1 := St.takes1 w L_d h_d hd_
 refine WC.sr (WL.bx hs1 rfl (fun b2 _ hs3 => WL.al hs3 Tryz.zeroValue34 rfl rfl (fun b4 _ hs5 => WL.nil (WC.sr (WL.buildF (F := encFileR) hs5 ([]) Tryz.runUnderlying30 Tryz.sizeOf123 Tryz.zeroValue123 rfl rfl rfl rfl rfl rfl rfl rfl rfl rfl rfl rfl (fun A9 c10 L6 whs7 hs7 ho8 => ?_))))))
 replace hs7 := St.back [_, _] hs7
 refine WL.r 1 hs7 [] rfl (WL.nil (WC.seq (fun K11 hK11 => WC.r1 hs7 [1] rfl (WC.block ?_))))
 refine WC.lO [1, 2, 8, 9] rfl (hs7.fr L6) (fun k_ f L_ => ∃ (zs : List FileR) (i : Nat) (A12 : Option Addr) (c13 : Nat), k_ = d.Files.n - i ∧ (i ≤ d.Files.n) ∧ (zs = (d.Files.xs.take i).filter (fun f : FileR => linkd d.Kept.xs f.Id)) ∧ OwnF encFileR 123 (.slice A12 (zs.length) c13) (zs) L_ ∧ Sub [(3, .slice A12 (zs.length) c13), (10, .int .i64 i)] f) (((fun (zs : List FileR) (i : Nat) => d.Files.n - i) ([]) (0))) ?_ ?_
 ·refine ⟨[], 0, _, _, rfl, ?_, ?_, ho8, ⟨rfl, rfl, trivial⟩⟩
  · exact Nat.zero_le _
  · rfl
 clear hs7
 rintro _ f w L14 ⟨zs, i, A12, c13, rfl, p0, p1, ho15, hG⟩ hF hs16
 refine WC.sub _ (hG.app hF) ?_
 clear hG hF
 replace hs16 := St.back [_, _] hs16
 have hzl : zs.length ≤ d.Files.n := by rw [p1]; have h9 := List.length_filter_le (fun f : FileR => linkd d.Kept.xs f.Id) (d.Files.xs.take i); rw [List.length_take] at h9; omega
 refine WC.r1 hs16 [] rfl (WC.seq (fun K17 hK17 => ?_))
 refine WC.cq rfl (fun h18 qh18 => ?_) (fun h18 qh18 => ?_)
 ·refine WC.skip (hK17 _ _ (WC.seq (fun K19 hK19 => WC.block (WC.sr ?_))))
  refine WL.val rfl rfl rfl (Run.idxN Tryz.runUnderlying30 Tryz.sizeOf123 rfl rfl rfl ?_ ?_ ?_) ?_
  · exact SlF.some_ (ownDiskR.ok (B := 549755813888) o_d (hs16.ow L_d) (by assumption)).Files.sl
  · omega
  · omega
  refine WL.val rfl rfl rfl (Run.loadA Tryz.isAgg123 Tryz.sizeOf123 rfl rfl (SlF.whole (ownDiskR.ok (B := 549755813888) o_d (hs16.ow L_d) (by assumption)).Files.sl ?_)) ?_
  · omega
  refine WL.al hs16 Tryz.zeroValue123 rfl rfl (fun b20 _ hs21 => WL.st tbk hs21 0 rfl rfl (fun _ hs22 => WL.nil (WC.seq (fun K23 hK23 => WC.rH hs22 hs22 (fun _ hs24 => ?_)))))
  refine WH.rn [0, 2, 3] hs24 [2, 0] rfl rfl (WH.o1 1 rfl (WL.cl Tryz.call103 rfl (k66_ d _ (ownDiskR.ok (B := 549755813888) o_d (hs24.ow L_d) (by assumption)) ?_ ?_) ?_))
  iterate 2 first | assumption | rfl | omega
  rintro _ whs25 ⟨A26, c27, L1_28, rfl, hs25, ho29⟩
  replace hs25 := hs24.callF hs25
  refine ⟨_, rfl, ?_⟩
  replace hs25 := St.back [_, _, _] hs25
  refine WL.nil ⟨(hs25.rm L1_28), WH.o1 4 rfl (WL.cl Tryz.call104 rfl (k74_ _ _ _ _ _ _ (SlF.ofOwn ho29 (hs25.ow L1_28)) ?_) ?_)⟩
  · first | assumption | rfl | omega
  rintro _ whs30 ⟨rfl, hs30⟩
  replace hs30 := hs25.call0 hs30
  refine ⟨_, rfl, WL.nil ⟨(hs30.rm L1_28), WH.dn (hK23 _ _ ?_)⟩⟩
  refine WC.cq rfl (fun h31 qh31 => ?_) (fun h31 qh31 => ?_)
  ·have hkp : linkd d.Kept.xs (gat encFileR d.Files.xs i).Id = true := by have h9 := h31; rw [show (idsD d.dat).contains (gat encFileR d.Files.xs i).Id = linkd d.Kept.xs (gat encFileR d.Files.xs i).Id from has_linkd ht] at h9; exact h9
   refine WC.region (WL.r 2 hs30 [0] rfl (WL.buildSlice hs30 Tryz.runUnderlying30 Tryz.sizeOf123 Tryz.zeroValue123 rfl rfl rfl rfl rfl rfl rfl rfl rfl rfl (fun b32 whs33 hs33 => ?_)))
   refine WL.appendG (hs33.fr L14) ho15 (srcF (F := encFileR) (ys := [(gat encFileR d.Files.xs i)]) Tryz.underlying30 rfl rfl (hs33.own _ (nthL_mem (i := 0) rfl)).1) Tryz.underlying30 inf123 rfl rfl rfl rfl rfl rfl rfl rfl rfl rfl ?_ (fun A37 c38 L34 whs35 hs35 ho36 => ?_)
   · (try simp only [List.length_append, List.length_singleton]); omega
   replace hs35 := St.back [_, _, _, _] hs35
   refine WL.r 1 hs35 [] rfl (WL.nil (hK19 _ _ (WC.region (WL.r 2 hs35 [] rfl (WL.nil (tkN ?_))))))
   replace hs35 := (hs35.d1.d1.rm L1_28)
   refine ⟨sbF rfl, _, (hs35.fr L34), _, ?_, _, i + 1, _, _, rfl, ?_, ?_, ho36, ⟨rfl, rfl, trivial⟩⟩
   · omega
   · omega
   · rw [p1, filter_take (F := encFileR) (by omega)]; first | (rw [if_pos hkp]; done) | (rw [if_neg hkp, List.append_nil]; done)
  have hkp : ¬ linkd d.Kept.xs (gat encFileR d.Files.xs i).Id = true := by have h9 := h31; rw [show (idsD d.dat).contains (gat encFileR d.Files.xs i).Id = linkd d.Kept.xs (gat encFileR d.Files.xs i).Id from has_linkd ht] at h9; rw [h9]; decide
  refine WC.skip (hK19 _ _ (WC.region (WL.r 2 hs30 [] rfl (WL.nil (tkN ?_)))))
  replace hs30 := (hs30.d1.rm L1_28)
  refine ⟨sbF rfl, _, (hs30.fr L14), _, ?_, _, i + 1, _, _, rfl, ?_, ?_, ho15, ⟨rfl, rfl, trivial⟩⟩
  · omega
  · omega
  · rw [p1, filter_take (F := encFileR) (by omega)]; first | (rw [if_pos hkp]; done) | (rw [if_neg hkp, List.append_nil]; done)
 refine WC.exit (hK11 _ _ (WC.sr (WL.r 2 hs16 [] rfl (WL.st tbk hs16 1 rfl rfl (fun _ hs39 => WL.nil (WC.sr (WL.r 1 hs39 [1] rfl ?_)))))))
 refine WL.st tbk hs39 0 rfl rfl (fun _ hs40 => WL.nil (WC.ret (retV1 rfl (resV.cellA tbk hs40 0 rfl rfl rfl rfl) ?_)))
 obtain ⟨L41, L42, L43, hs47, ho44, ho45, ho46⟩ := ownDiskR.op hs40 o_d
 have hs48 := ((hs47.fb b2).fb b4)
 obtain ⟨L49, L50, hs53, ho51, ho52⟩ := OwnN.open_ (hs48.fr L41) ho44
 have hs54 := ((hs53.fb b2).fb b4)
 obtain ⟨L55, hs56, hb57⟩ := Bag.keep (fun f : FileR => linkd d.Kept.xs f.Id) (hs54.fr L50) ho52
 have hs58 := ((hs56.fb b2).fb b4)
 have hzz : zs = d.Files.xs.filter (fun f : FileR => linkd d.Kept.xs f.Id) := by rw [p1, List.take_of_length_le (by omega)]
 rw [← hzz] at hb57
 obtain ⟨L60, hs59, ho61⟩ := OwnN.fold ((hs58.fr L55).fr L14) ho15 hb57
 have hs62 := ((hs59.fb b2).fb b4)
 obtain ⟨L64, hs63, ho65⟩ := ownDiskR.fl hs62 ho61 ho45 ho46
 have hs66 := ((hs63.fb b2).fb b4)
 refine ownDiskR.ret rfl (St.keep1 (hs66.fr L64)) ho65 ?_
 · exact DiskD.ext' rfl rfl rfl (by show zs.map FileR.dat = _; rw [hzz]; exact onlyL_dat) rfl rfl
set_option maxHeartbeats 8000000 in
theorem k117_ (d : DiskR) (op : DiskOpR) (w : World) (f_d : okDiskR 549755813888 w d) (f_op : okDiskOpR 549755813888 w op) (hb : totDisk d.dat ≤ 1048576) :
    Calls Tryz.prog 86 #[.agg #[i64 d.Room, i64 d.Fuse, i64 d.Next, .slice d.Files.A d.Files.n d.Files.c, .slice d.Kept.A d.Kept.n d.Kept.c, .slice d.Turns.A d.Turns.n d.Turns.c], .agg #[i64 op.Kind, .string op.Name, .string op.To, .slice op.Data.A op.Data.n op.Data.c]] w fun e w' => ∃ r L1, e = .returned (.tuple #[.agg #[i64 r.Room, i64 r.Fuse, i64 r.Next, .slice r.Files.A r.Files.n r.Files.c, .slice r.Kept.A r.Kept.n r.Kept.c, .slice r.Turns.A r.Turns.n r.Turns.c], .int .i64 (doneC d.dat op.dat)]) ∧ St w [] L1 w' ∧ ownDiskR r L1 ∧ r.dat = doneD d.dat op.dat := by
 have nb_d_Files := f_d.Files_n
 have nl_d_Files := f_d.Files.sl.len
 have nb_d_Kept := f_d.Kept_n
 have nl_d_Kept := f_d.Kept.len
 have nb_d_Turns := f_d.Turns_n
 have nl_d_Turns := f_d.Turns.len
 have nz_op_Name := f_op.Name_z
 have nz_op_To := f_op.To_z
 have nb_op_Data := f_op.Data_n
 have nl_op_Data := f_op.Data.len
 have hsm : smDisk 1048576 d.dat := totDisk_sm hb
 have hsmB : smDisk 549755813888 d.dat := totDisk_sm (by omega)
 have hl1 := f_d.Files.sl.len
 have hl2 := f_d.Kept.len
 have hl3 := f_d.Turns.len
 have hnc := f_op.Data_c
 have hsmK : ∀ x, x ∈ dirD d.dat → smLink 549755813888 x := sm_turns f_d.Kept_s f_d.Turns_s
 refine enter 148 Tryz.func86 rfl Tryz.ntmps86 rfl rfl ?_
 have hs1 := St.init w
 refine WC.sr (WL.bx hs1 rfl (fun b2 _ hs3 => WL.bx hs3 rfl (fun b4 _ hs5 => WL.al hs5 Tryz.zeroValue34 rfl rfl (fun b6 _ hs7 => WL.r 1 hs7 [] rfl (WL.nil (WC.seq (fun K8 hK8 => WC.sr ?_)))))))
 refine WL.r 1 hs7 [2] rfl (WL.cl Tryz.call52 rfl (k107_ d _ (okDiskR.st0 f_d hs7) ?_) ?_)
 · first | assumption | rfl | omega
 rintro _ whs9 ⟨rfl, hs9⟩
 replace hs9 := hs7.call0 hs9
 refine ⟨_, rfl, WL.r 2 hs9 [] rfl ?_⟩
 apply WL.gO 3 Acts.nil hs9 rfl
 ·intro g10 J11
  have qg10 := g10
  try simp only [bf, within_iff, within_not] at qg10
  refine WL.runA tbk 1 (Acts.nil.cons (j := 3) rfl g10) hs9 [1] rfl ⟨rfl, trivial⟩ (WL.call (wantF rfl g10) rfl rfl (Run.call Tryz.call145 rfl rfl rfl) (k112_ op _ (okDiskOpR.st0 f_op hs9)) ?_)
  rintro _ whs12 ⟨rfl, hs12⟩
  replace hs12 := hs9.call0 hs12
  refine ⟨_, rfl, WL.runA tbk 1 (Acts.nil.cons (j := 3) rfl g10) hs12 [] rfl trivial (WL.eO 3 Acts.nil J11 hs12 g10 rfl rfl)⟩
 intro _ hs13
 refine WL.nil (WC.cq rfl (fun h14 qh14 => ?_) (fun h14 qh14 => ?_))
 ·have hbad : (diskOk d.dat && dopOk op.dat) = false := by have h9 := h14; revert h9; cases diskOk d.dat <;> cases dopOk op.dat <;> simp
  obtain ⟨hdn, hc⟩ := done_bad hbad
  refine WC.sr ?_
  refine WL.val rfl rfl rfl (Run.build rfl rfl rfl rfl (built_34)) (WL.st tbk hs13 0 rfl rfl (fun _ hs15 => WL.r 1 hs15 [] rfl (WL.nil (WC.ret (tkR ?_)))))
  clear hK8
  refine retV2 rfl (resV.cellA tbk hs15 0 rfl rfl rfl rfl) (resV.tmp rfl) ?_
  obtain ⟨L20, hs19, ho21⟩ := ownDiskR.fl hs15 (OwnN.nil _ _ _) (OwnF.nil _ _) (OwnF.nil _ _)
  have hs22 := (((hs19.fb b2).fb b4).fb b6)
  refine ⟨⟨0, 0, 0, ⟨none, 0, 0, []⟩, ⟨none, 0, 0, []⟩, ⟨none, 0, 0, []⟩⟩, _, (by rw [hc]; first | done | rfl | (rw [hr0]; done) | (rw [hr0]; rfl)), (St.keep1 (hs22.fr L20)), ?_, ?_⟩
  · exact (by exact ho21)
  · rw [hdn]; rfl
 have hgood : (diskOk d.dat && dopOk op.dat) = true := by have h9 := h14; revert h9; cases diskOk d.dat <;> cases dopOk op.dat <;> simp
 rw [Bool.and_eq_true] at hgood
 obtain ⟨hok, hop⟩ := hgood
 have hD := diskOk_P hok
 obtain ⟨hs1, hs2, hs3, hs4, hs5, hs6, hs7, hs8⟩ := hD.small
 have hdl : (dirD d.dat).length ≤ 40 := Nat.le_trans turnsL_len (by show d.Kept.xs.length + d.Turns.xs.length ≤ 40; have h1 : d.Kept.xs.length ≤ 10 := hs2; have h2 : d.Turns.xs.length ≤ 30 := hs3; omega)
 have hnl := f_op.Data.len
 have hdpl : op.Data.xs.length ≤ 400000 := dop_len hop
 have hu9 : usedF d.dat.Files ≤ 1048576 := Nat.le_trans hD.room.2.1 (by decide)
 refine WC.skip (hK8 _ _ (WC.sr (WL.r 1 hs13 [2] rfl ?_)))
 refine WL.cl Tryz.call66 rfl (k110_ d _ (okDiskR.st0 f_d hs13) ?_) ?_
 · first | assumption | rfl | omega
 rintro _ whs23 ⟨r24, L1_25, rfl, hs23, ho26, hd27⟩
 replace hs23 := hs13.callF hs23
 refine ⟨_, rfl, ?_⟩
 replace hs23 := St.back [_, _, _] hs23
 have hrsm0 : smDisk 549755813888 (DiskR.dat r24) := by rw [hd27]; exact hsmB
 refine WL.al hs23 Tryz.zeroValue34 rfl rfl (fun b28 _ hs29 => WL.st tbk hs29 0 rfl rfl (fun _ hs30 => WL.nil (WC.sr (WL.r 2 hs30 [3, 2] rfl ?_))))
 refine WL.cl Tryz.call146 rfl (k113_ d op _ (okDiskR.st0 f_d hs30) (okDiskOpR.st0 f_op hs30) ?_ ?_) ?_
 iterate 2 first | assumption | rfl | omega
 rintro _ whs31 ⟨rfl, hs31⟩
 replace hs31 := hs30.call0 hs31
 refine ⟨_, rfl, WL.r 1 hs31 [] rfl (WL.nil (WC.seq (fun K32 hK32 => WC.r1 hs31 [] rfl ?_)))⟩
 refine WC.cq rfl (fun h33 qh33 => ?_) (fun h33 qh33 => ?_)
 ·have hr0 : ¬ refuse d.dat op.dat = 0 := by have h9 := h33; simpa using h9
  obtain ⟨hdn, hc⟩ := done_ref hok hop hr0
  refine WC.sr (WL.r 2 hs31 [0] rfl (WL.st tbk hs31 1 rfl rfl (fun _ hs34 => WL.r 1 hs34 [] rfl (WL.nil (WC.ret (tkR ?_))))))
  clear hK32
  refine retV2 rfl (resV.cellA tbk hs34 1 rfl rfl rfl rfl) (resV.tmp rfl) ?_
  refine ⟨r24, _, (by rw [hc]; first | done | rfl | (rw [hr0]; done) | (rw [hr0]; rfl)), (St.keep1 (hs34.fr L1_25)), ?_, ?_⟩
  · exact ho26
  · rw [hdn]; exact hd27
 have hr0 : refuse d.dat op.dat = 0 := by have h9 := h33; simpa using h9
 obtain ⟨hdn, hc0⟩ := done_do hok hop hr0
 have hfu0 : ¬ d.dat.Fuse = 0 := refuse_fuse hr0
 refine WC.skip (hK32 _ _ (WC.seq (fun K35 hK35 => WC.r1 hs31 [0] rfl ?_)))
 refine WC.jPK [0, 1, 2, 3, 4, 5, 6, 7, 12, 13, 14, 15, 19, 21, 22, 23, 24, 25, 26, 27, 30, 31, 32] rfl ((hs31.fr L1_25).fb b28) (fun o_ L_ => ∃ r : DiskR, o_ = Obj.cells (List.toArray [i64 r.Room, i64 r.Fuse, i64 r.Next, .slice r.Files.A r.Files.n r.Files.c, .slice r.Kept.A r.Kept.n r.Kept.c, .slice r.Turns.A r.Turns.n r.Turns.c]) 34 (0, 0) ∧ ownDiskR r L_ ∧ r.dat = fuse1 d.dat) ?_ ?_
 ·refine WC.cq rfl (fun h36 qh36 => ?_) (fun h36 qh36 => ?_)
  ·have hfu := h36
   have hfu3 : r24.Fuse ≤ 1000 := by show (DiskR.dat r24).Fuse ≤ 1000; rw [hd27]; exact hs7
   have hfu4 : 0 < r24.Fuse := by simpa using hfu
   refine WC.region (WL.r 4 hs31 [0] rfl (WL.st tbk hs31 0 rfl rfl (fun _ hs37 => WL.nil ?_)))
   obtain ⟨L38, L39, L40, hs44, ho41, ho42, ho43⟩ := ownDiskR.op hs37 ho26
   have hs45 := ((((hs44.fb b2).fb b4).fb b6).fb b28)
   obtain ⟨L47, hs46, ho48⟩ := ownDiskR.fl hs45 ho41 ho42 ho43
   have hs49 := ((((hs46.fb b2).fb b4).fb b6).fb b28)
   refine tkN ⟨_, _, (((((hs49.fb b2).fb b4).fb b6).fr L47).fb b28), ⟨⟨r24.Room, (r24.Fuse - (1)), r24.Next, SlD.ofN ho41, SlD.of ho42, SlD.of ho43⟩, rfl, (by exact ho48), ?_⟩, sbF rfl⟩
   · rw [← hd27]; unfold fuse1; rw [if_pos (show 0 < (DiskR.dat r24).Fuse from by show 0 < r24.Fuse; simpa using hfu)]; first | done | rfl
  have hfu := h36
  refine WC.skip (tkN ⟨_, _, (((((hs31.fb b2).fb b4).fb b6).fr L1_25).fb b28), ⟨r24, rfl, ho26, ?_⟩, sbF rfl⟩)
  · rw [← hd27]; unfold fuse1; rw [if_neg (show ¬ 0 < (DiskR.dat r24).Fuse from by show ¬ 0 < r24.Fuse; simpa using hfu)]; first | done | rfl
 rintro _ L50 _ ⟨r51, rfl, ho52, hd53⟩ hs54 f_ hf_
 refine hK35 _ _ (WC.sub _ hf_ ?_)
 clear hf_
 have hs55 := ((((hs54.fb b2).fb b4).fb b6).fb b28)
 have hsmr : smDisk 549755813888 (DiskR.dat r51) := by rw [hd53]; exact hsmB
 have hro := ownDiskR.ok (B := 549755813888) ho52 (hs55.ow L50) hsmr
 have hrF : (DiskR.dat r51).Files = d.dat.Files := (show _ = (fuse1 d.dat).Files from congrArg DiskD.Files hd53)
 have hrK : (DiskR.dat r51).Kept = d.dat.Kept := (show _ = (fuse1 d.dat).Kept from congrArg DiskD.Kept hd53)
 have hrT : (DiskR.dat r51).Turns = d.dat.Turns := (show _ = (fuse1 d.dat).Turns from congrArg DiskD.Turns hd53)
 have hrN : r51.Next = d.Next := congrArg DiskD.Next hd53
 have hrfl := hro.Files.sl.len
 have hrkl := hro.Kept.len
 have hrtl := hro.Turns.len
 have hrf10 : r51.Files.xs.length ≤ 10 := by rw [← List.length_map (f := FileR.dat)]; show (DiskR.dat r51).Files.length ≤ 10; rw [hrF]; exact hs1
 have hrt30 : r51.Turns.xs.length ≤ 30 := by show (DiskR.dat r51).Turns.length ≤ 30; rw [hrT]; exact hs3
 have hrk10 : r51.Kept.xs.length ≤ 10 := by show (DiskR.dat r51).Kept.length ≤ 10; rw [hrK]; exact hs2
 obtain ⟨hrm1, hrm2, hrm3⟩ := hD.room
 have hrm1' : d.Room - ((usedF d.dat.Files : Nat) : Int) = (roomD d.dat : Int) := hrm1
 have hrm4 : d.Room ≤ 400000 := hrm3
 have hrfn : fileN (DiskR.dat r51) op.Name = fileN d.dat op.Name := by rw [hd53]; rfl
 have hrr : roomD (DiskR.dat r51) = roomD d.dat := by rw [hd53]; rfl
 have hrd : dirD (DiskR.dat r51) = dirD d.dat := by rw [hd53]; rfl
 have hn5 : d.Next ≤ 1000000 := hs4
 have hn6 : 1 ≤ d.Next := hs5
 refine WC.seq (fun K56 hK56 => WC.rH hs55 hs55 (fun _ hs57 => ?_))
 refine WH.rn [0, 1, 3, 4] hs57 [3, 3, 2] rfl rfl (WH.o1 2 rfl (WL.cl Tryz.call69 rfl (k109_ d _ (okDiskR.st0 f_d hs57) ?_ ?_) ?_))
 iterate 2 first | assumption | rfl | omega | (show r51.Files.xs.length ≤ 1048576; omega) | (show (dirD d.dat).length ≤ 1048576; omega) | exact sm_kept hsmr (Nat.le_trans hdl (by decide)) hsmK
 rintro _ whs58 ⟨A59, c60, L1_61, rfl, hs58, ho62⟩
 replace hs58 := hs57.callF hs58
 refine ⟨_, rfl, ?_⟩
 replace hs58 := St.back [_, _, _, _] hs58
 refine WL.nil ⟨(hs58.rm L1_61), WH.o1 5 rfl (WL.cl Tryz.call108 rfl (k59_ _ _ _ _ _ _ (SlF.ofOwn ho62 (hs58.ow L1_61)) ?_) ?_)⟩
 · first | assumption | rfl | omega | (show r51.Files.xs.length ≤ 1048576; omega) | (show (dirD d.dat).length ≤ 1048576; omega) | exact sm_kept hsmr (Nat.le_trans hdl (by decide)) hsmK
 rintro _ whs63 ⟨rfl, hs63⟩
 replace hs63 := hs58.call0 hs63
 refine ⟨_, rfl, WL.nil ⟨(hs63.rm L1_61), WH.o1 6 rfl (WL.cl Tryz.call109 rfl (k111_ d _ _ (okDiskR.st0 f_d hs63)) ?_)⟩⟩
 rintro _ whs64 ⟨rfl, hs64⟩
 replace hs64 := hs63.call0 hs64
 refine ⟨_, rfl, WL.nil ⟨(hs64.rm L1_61), WH.rn [7] (hs64.rm L1_61) [] rfl rfl (WH.dn (hK56 _ _ (WC.seq (fun K65 hK65 => WC.r1 hs64 [2] rfl (WC.block ?_)))))⟩⟩
 refine WC.r1 hs64 [] rfl (WC.cq rfl (fun h66 qh66 => ?_) (fun h66 qh66 => ?_))
 ·have k1 : op.Kind = 1 := by have h9 := h66; simpa using h9
  have hc : doneC d.dat op.dat = 0 := hc0.trans (doC_0 (show ¬ op.Kind = 2 by omega))
  refine WC.sr (WL.r 4 hs64 [0, 3] rfl ?_)
  refine WL.val rfl rfl rfl (Run.build rfl rfl rfl rfl (built_123_0 _)) (WL.buildSlice hs64 Tryz.runUnderlying30 Tryz.sizeOf123 Tryz.zeroValue123 rfl rfl rfl rfl rfl rfl rfl rfl rfl rfl (fun b67 whs68 hs68 => ?_))
  obtain ⟨L69, L70, L71, hs75, ho72, ho73, ho74⟩ := ownDiskR.op hs68 ho52
  have hs76 := (((((hs75.fb b2).fb b4).fb b6).fb b28).fb b67)
  obtain ⟨L78, L79, hs82, ho80, ho81⟩ := OwnN.open_ (hs76.fr L69) ho72
  have hs83 := (((((hs82.fb b2).fb b4).fb b6).fb b28).fb b67)
  refine WL.appendG (hs83.fr L78) ho80 (srcF (F := encFileR) (ys := [(⟨d.Next, ⟨none, 0, 0, []⟩, 0⟩ : FileR)]) Tryz.underlying30 rfl rfl (hs83.own _ (nthL_mem (i := 0) rfl)).1) Tryz.underlying30 inf123 rfl rfl rfl rfl rfl rfl rfl rfl rfl rfl ?_ (fun A87 c88 L84 whs85 hs85 ho86 => ?_)
  · (try simp only [List.length_append, List.length_singleton, List.length_take]); omega
  replace hs85 := St.back [_, _, _, _, _] hs85
  obtain ⟨L89, hs90, hb91⟩ := Bag.put (x := (⟨d.Next, ⟨none, 0, 0, []⟩, 0⟩ : FileR)) ((hs85.fr ([] : Hp)).fr L79) ho81 (OwnF.nil _ _)
  have hs92 := (((((hs90.fb b2).fb b4).fb b6).fb b28).fb b67)
  obtain ⟨L94, hs93, ho95⟩ := OwnN.fold ((hs92.fr L89).fr L84) ho86 hb91
  have hs96 := (((((hs93.fb b2).fb b4).fb b6).fb b28).fb b67)
  refine WL.r 1 hs96 [] rfl (WL.st tbk hs96 1 rfl rfl (fun _ hs97 => WL.nil (WC.sr (WL.r 8 hs97 [1, 3, 3, 4] rfl ?_))))
  refine WL.val rfl rfl rfl (Run.build rfl rfl rfl rfl (built_137_0_1_3 _ _ _)) (WL.buildSlice hs97 Tryz.runUnderlying32 Tryz.sizeOf137 Tryz.zeroValue137 rfl rfl rfl rfl rfl rfl rfl rfl rfl rfl (fun b98 whs99 hs99 => ?_))
  refine WL.appendG (hs99.fr L71) ho74 (srcF (F := encTurn) (ys := [⟨op.Kind, op.Name, noName, d.Next⟩]) Tryz.underlying32 rfl rfl (hs99.own _ (nthL_mem (i := 0) rfl)).1) Tryz.underlying32 inf137 rfl rfl rfl rfl rfl rfl rfl rfl rfl rfl ?_ (fun A103 c104 L100 whs101 hs101 ho102 => ?_)
  · (try simp only [List.length_append, List.length_singleton, List.length_take]); omega
  replace hs101 := St.back [_, _, _, _, _, _] hs101
  refine WL.r 1 hs101 [] rfl (WL.st tbk hs101 2 rfl rfl (fun _ hs105 => WL.nil (WC.region (WL.r 4 hs105 [2] rfl (WL.st tbk hs105 2 rfl rfl (fun _ hs106 => WL.nil (hK65 _ _ ?_)))))))
  refine WC.sr (WL.r 2 hs106 [2] rfl (WL.st tbk hs106 3 rfl rfl (fun _ hs107 => WL.r 1 hs107 [] rfl (WL.nil (WC.ret (retV2 rfl (resV.cellA tbk hs107 3 rfl rfl rfl rfl) (resV.tmp rfl) ?_))))))
  obtain ⟨L109, hs108, ho110⟩ := ownDiskR.fl hs107 ho95 ho73 ho102
  have hs111 := ((((((hs108.fb b2).fb b4).fb b6).fb b28).fb b67).fb b98)
  refine ⟨⟨r51.Room, r51.Fuse, (r51.Next + (1)), SlD.ofN ho95, SlD.of ho73, SlD.of ho102⟩, _, (by rw [hc]; first | done | rfl | (rw [hr0]; done) | (rw [hr0]; rfl)), (St.keep1 (hs111.fr L109)), ?_, ?_⟩
  · exact (by exact ho110)
  · rw [hdn]; unfold doD; rw [if_pos (show op.dat.Kind = 1 from k1), ← hd53]; exact DiskD.ext' rfl rfl (by show _ + 1 = _ + 1; rw [show r51.Next = (DiskR.dat r51).Next from rfl]) (by show List.map FileR.dat (_ ++ _) = _; rw [List.map_append]; show _ ++ [(⟨d.Next, [], 0⟩ : FileD)] = _ ++ [(⟨r51.Next, [], 0⟩ : FileD)]; rw [hrN]; rfl) rfl (by show _ ++ [(⟨_, _, _, d.Next⟩ : TurnD)] = _ ++ [(⟨_, _, _, r51.Next⟩ : TurnD)]; rw [hrN]; (try rw [k1]); rfl)
 have k1 : ¬ op.Kind = 1 := by have h9 := h66; simpa using h9
 refine WC.r1 hs64 [] rfl (WC.cq rfl (fun h112 qh112 => ?_) (fun h112 qh112 => ?_))
 ·have k2 : op.Kind = 2 := by have h9 := h112; simpa using h9
  have hh : hasN (dirD d.dat) op.Name = true := (refuse_has hr0 (show op.Kind ≠ 6 by omega)).trans (by rw [show decide (op.dat.Kind = 1) = false from decide_eq_false (show ¬ op.Kind = 1 by omega)]; rfl)
  have hfn := (hD.at hh).1
  have hat : atI d.dat.Files (findL (dirD d.dat) op.Name) = ((fileN (DiskR.dat r51) op.Name) : Int) := by rw [hrfn]; exact (hD.at hh).2
  have hfn2 : (fileN (DiskR.dat r51) op.Name) < r51.Files.xs.length := by rw [hrfn, ← List.length_map (f := FileR.dat)]; show _ < (DiskR.dat r51).Files.length; rw [hrF]; exact hfn
  have hyb := (hro.Files.all _ (gat_mem (F := encFileR) (xs := r51.Files.xs) (k := (fileN (DiskR.dat r51) op.Name)) hfn2)).Body.len
  have hyu : (gat encFileR r51.Files.xs (fileN (DiskR.dat r51) op.Name)).Body.xs.length ≤ usedF d.dat.Files := by rw [← hrF]; exact usedF_gat hfn2
  refine WC.r1 hs64 [2] rfl (WC.seq (fun K113 hK113 => WC.sq1 hs64 (WQ.r 4 [3, 3] rfl ?_)))
  refine WQ.call rfl rfl rfl (fun w_ hs_ => (Run.call Tryz.call101 rfl rfl rfl)) (fun w_ hs_ => (k67_ d _ (okDiskR.st0 f_d (hs_ : St _ _ _ _)) ?_).mono fun e_ w_ h_ => ⟨h_.1, (hs_ : St _ _ _ _).call0 h_.2⟩) ?_
  · first | assumption | rfl | omega
  refine WQ.r 2 [] rfl (WQ.nil (fun _ (hs114 : St _ _ _ _) => ?_))
  refine WC.cq rfl (fun h115 qh115 => ?_) (fun h115 qh115 => ?_)
  ·have h83 : roomD d.dat < op.Data.n := by have h9 := h115; rw [hrm1'] at h9; simp at h9; omega
   have hc : doneC d.dat op.dat = 5 := hc0.trans (if_pos ⟨k2, by show _ < op.Data.xs.length; omega⟩)
   refine WC.sq1 hs114 (WQ.r 3 [3, 3] rfl ?_)
   refine WQ.call rfl rfl rfl (fun w_ hs_ => (Run.call Tryz.call101 rfl rfl rfl)) (fun w_ hs_ => (k67_ d _ (okDiskR.st0 f_d (hs_ : St _ _ _ _)) ?_).mono fun e_ w_ h_ => ⟨h_.1, (hs_ : St _ _ _ _).call0 h_.2⟩) ?_
   · first | assumption | rfl | omega
   refine WQ.r 2 [] rfl (WQ.nil (fun _ (hs116 : St _ _ _ _) => WC.region (WL.r 1 hs116 [] rfl (WL.nil (hK113 _ _ (WC.sr (WL.r 3 hs116 [0] rfl ?_)))))))
   refine WL.val rfl rfl rfl (Run.idxK ((fileN (DiskR.dat r51) op.Name)) Tryz.runUnderlying30 Tryz.sizeOf123 rfl rfl rfl ?_ ?_ ?_) ?_
   · exact SlF.some_ (ownDiskR.ok (B := 549755813888) ho52 (hs116.ow L50) hsmr).Files.sl
   · omega
   · omega
   refine WL.val rfl rfl rfl (Run.loadA Tryz.isAgg123 Tryz.sizeOf123 rfl rfl (SlF.whole (ownDiskR.ok (B := 549755813888) ho52 (hs116.ow L50) hsmr).Files.sl ?_)) ?_
   · omega
   refine WL.al hs116 Tryz.zeroValue123 rfl rfl (fun b117 _ hs118 => WL.st tbk hs118 0 rfl rfl (fun _ hs119 => WL.nil (WC.seq (fun K120 hK120 => WC.rG 6 ((hs119.d1.rm L1_61).rm L50) hs119 hs119 (fun _ hs121 => ?_)))))
   refine WG.rn [0, 1, 2, 3, 4] hs121 [0, 3] rfl rfl ?_
   refine WG.tk 5 rfl (by kernel_rfl) rfl rfl rfl hs121 (fun w_ hs_ => (Run.sliceH ((roomD d.dat)) Tryz.runUnderlying43 Tryz.sizeOf5 rfl rfl rfl ?_ ?_)) ?_
   · first | rfl | (omega)
   · refine ⟨?_, ?_, ?_⟩ <;> (omega)
   refine WG.oK rfl ?_
   obtain ⟨L122, L123, L124, hs128, ho125, ho126, ho127⟩ := ownDiskR.op hs121 ho52
   have hs129 := (((((hs128.fb b2).fb b4).fb b6).fb b28).fb b117)
   obtain ⟨L130, L131, hs134, ho132, ho133⟩ := OwnN.open_ (hs129.fr L122) ho125
   have hs135 := (((((hs134.fb b2).fb b4).fb b6).fb b28).fb b117)
   obtain ⟨L136, L137, L138, hs139, ho140, hp141⟩ := Bag.out (F := encFileR) (i := (fileN (DiskR.dat r51) op.Name)) (hs135.fr L131) ho133 (by omega)
   have hs142 := (((((hs139.fb b2).fb b4).fb b6).fb b28).fb b117)
   refine WL.appendG (hs142.fr L137) ho140 (SlF.src (SlF.cutH ((roomD d.dat)) (SlF.st0 f_op.Data hs142) (by refine ⟨?_, ?_, ?_⟩ <;> (omega))) Tryz.underlying43) Tryz.underlying43 inf5 rfl rfl rfl rfl rfl rfl rfl rfl rfl rfl ?_ (fun A146 c147 L143 whs144 hs144 ho145 => ?_)
   · (try simp only [List.length_append, List.length_singleton, List.length_take]); omega
   replace hs144 := St.back [_, _, _, _, _] hs144
   refine WL.nil ⟨((((((hs144.d1.rm L143).rm (L136 ++ L138)).rm L130).rm L123).rm L124).rm L1_61), WH.rn [7] ((((((hs144.d1.rm L143).rm (L136 ++ L138)).rm L130).rm L123).rm L124).rm L1_61) [] rfl rfl (WH.o1 8 rfl (WL.st tbk hs144 0 rfl rfl (fun _ hs148 => WL.nil ⟨((((((hs148.d1.rm L143).rm (L136 ++ L138)).rm L130).rm L123).rm L124).rm L1_61), WH.dn (hK120 _ _ (WC.region ?_))⟩)))⟩
   refine WL.r 4 hs148 [1, 0] rfl (WL.val rfl rfl rfl (Run.idxK ((fileN (DiskR.dat r51) op.Name)) Tryz.runUnderlying30 Tryz.sizeOf123 rfl rfl rfl ?_ ?_ ?_) ?_)
   · exact SlF.some_ (SlF.ofOwn ho132 (hs148.ow L130))
   · omega
   · omega
   refine WL.storeF1 (x' := ⟨(gat encFileR r51.Files.xs (fileN (DiskR.dat r51) op.Name)).Id, SlD.of ho145, (gat encFileR r51.Files.xs (fileN (DiskR.dat r51) op.Name)).Safe⟩) (hs148.fr L130) ho132 Tryz.sizeOf123 rfl rfl rfl rfl rfl rfl rfl rfl rfl ?_ rfl (fun L149 whs150 hs150 ho151 _ => ?_)
   · omega
   replace hs150 := St.back [_, _, _, _, _] hs150
   obtain ⟨L152, hs153, hb154⟩ := hp141 (⟨(gat encFileR r51.Files.xs (fileN (DiskR.dat r51) op.Name)).Id, SlD.of ho145, (gat encFileR r51.Files.xs (fileN (DiskR.dat r51) op.Name)).Safe⟩ : FileR) _ ((hs150.fr (L136 ++ L138)).fr L143) (by have h_ := ho145; exact h_)
   have hs156 := (((((hs153.fb b2).fb b4).fb b6).fb b28).fb b117)
   have ho155 := ho151
   obtain ⟨L158, hs157, ho159⟩ := OwnN.fold ((hs156.fr L152).fr L149) ho155 hb154
   have hs160 := (((((hs157.fb b2).fb b4).fb b6).fb b28).fb b117)
   refine WL.nil (hK65 _ _ (WC.sr (WL.r 2 hs160 [1] rfl (WL.st tbk hs160 2 rfl rfl (fun _ hs161 => WL.r 1 hs161 [] rfl (WL.nil (WC.ret ?_)))))))
   refine retV2 rfl (resV.cellA tbk hs161 2 rfl rfl rfl rfl) (resV.tmp rfl) ?_
   obtain ⟨L163, hs162, ho164⟩ := ownDiskR.fl hs161 ho159 ho126 ho127
   have hs165 := (((((hs162.fb b2).fb b4).fb b6).fb b28).fb b117)
   refine ⟨⟨r51.Room, r51.Fuse, r51.Next, SlD.ofN ho159, SlD.of ho126, SlD.of ho127⟩, _, (by rw [hc]; first | done | rfl | (rw [hr0]; done) | (rw [hr0]; rfl)), (St.keep1 (hs165.fr L163)), ?_, ?_⟩
   · exact (by exact ho164)
   · rw [hdn]; unfold doD; rw [if_neg (show ¬ op.dat.Kind = 1 from (by first | assumption | (show ¬ op.Kind = 1; omega))), if_pos (show op.dat.Kind = 2 from k2), ← hd53]; exact DiskD.ext' rfl rfl rfl (files_set (by rw [show fAt (DiskR.dat r51).Files (fileN (DiskR.dat r51) op.dat.Name) = FileR.dat (gat encFileR r51.Files.xs (fileN (DiskR.dat r51) op.Name)) from fAt_dat hfn2]; exact FileD.ext' rfl (by show _ ++ _ = _ ++ List.take (roomD (DiskR.dat r51)) op.Data.xs; rw [hrr]; rfl) rfl)) rfl rfl
  have h83 : op.Data.n ≤ roomD d.dat := by have h9 := h115; rw [hrm1'] at h9; simp at h9; omega
  have hc : doneC d.dat op.dat = 0 := hc0.trans (if_neg fun h_ => by have h8 := h_.2; replace h8 : _ < op.Data.xs.length := h8; omega)
  refine WC.skip (hK113 _ _ (WC.sr (WL.r 3 hs114 [0] rfl ?_)))
  refine WL.val rfl rfl rfl (Run.idxK ((fileN (DiskR.dat r51) op.Name)) Tryz.runUnderlying30 Tryz.sizeOf123 rfl rfl rfl ?_ ?_ ?_) ?_
  · exact SlF.some_ (ownDiskR.ok (B := 549755813888) ho52 (hs114.ow L50) hsmr).Files.sl
  · omega
  · omega
  refine WL.val rfl rfl rfl (Run.loadA Tryz.isAgg123 Tryz.sizeOf123 rfl rfl (SlF.whole (ownDiskR.ok (B := 549755813888) ho52 (hs114.ow L50) hsmr).Files.sl ?_)) ?_
  · omega
  refine WL.al hs114 Tryz.zeroValue123 rfl rfl (fun b166 _ hs167 => WL.st tbk hs167 0 rfl rfl (fun _ hs168 => WL.nil (WC.seq (fun K169 hK169 => WC.rG 6 ((hs168.d1.rm L1_61).rm L50) hs168 hs168 (fun _ hs170 => ?_)))))
  refine WG.rn [0, 1, 2, 3, 4] hs170 [0, 3] rfl rfl ?_
  refine WG.tk 5 rfl (by kernel_rfl) rfl rfl rfl hs170 (fun w_ hs_ => (Run.sliceH (op.Data.n) Tryz.runUnderlying43 Tryz.sizeOf5 rfl rfl rfl ?_ ?_)) ?_
  · first | rfl | (omega)
  · refine ⟨?_, ?_, ?_⟩ <;> (omega)
  refine WG.oK rfl ?_
  obtain ⟨L171, L172, L173, hs177, ho174, ho175, ho176⟩ := ownDiskR.op hs170 ho52
  have hs178 := (((((hs177.fb b2).fb b4).fb b6).fb b28).fb b166)
  obtain ⟨L179, L180, hs183, ho181, ho182⟩ := OwnN.open_ (hs178.fr L171) ho174
  have hs184 := (((((hs183.fb b2).fb b4).fb b6).fb b28).fb b166)
  obtain ⟨L185, L186, L187, hs188, ho189, hp190⟩ := Bag.out (F := encFileR) (i := (fileN (DiskR.dat r51) op.Name)) (hs184.fr L180) ho182 (by omega)
  have hs191 := (((((hs188.fb b2).fb b4).fb b6).fb b28).fb b166)
  refine WL.appendG (hs191.fr L186) ho189 (SlF.src (SlF.cutH (op.Data.n) (SlF.st0 f_op.Data hs191) (by refine ⟨?_, ?_, ?_⟩ <;> (omega))) Tryz.underlying43) Tryz.underlying43 inf5 rfl rfl rfl rfl rfl rfl rfl rfl rfl rfl ?_ (fun A195 c196 L192 whs193 hs193 ho194 => ?_)
  · (try simp only [List.length_append, List.length_singleton, List.length_take]); omega
  replace hs193 := St.back [_, _, _, _, _] hs193
  refine WL.nil ⟨((((((hs193.d1.rm L192).rm (L185 ++ L187)).rm L179).rm L172).rm L173).rm L1_61), WH.rn [7] ((((((hs193.d1.rm L192).rm (L185 ++ L187)).rm L179).rm L172).rm L173).rm L1_61) [] rfl rfl (WH.o1 8 rfl (WL.st tbk hs193 0 rfl rfl (fun _ hs197 => WL.nil ⟨((((((hs197.d1.rm L192).rm (L185 ++ L187)).rm L179).rm L172).rm L173).rm L1_61), WH.dn (hK169 _ _ (WC.region ?_))⟩)))⟩
  refine WL.r 4 hs197 [1, 0] rfl (WL.val rfl rfl rfl (Run.idxK ((fileN (DiskR.dat r51) op.Name)) Tryz.runUnderlying30 Tryz.sizeOf123 rfl rfl rfl ?_ ?_ ?_) ?_)
  · exact SlF.some_ (SlF.ofOwn ho181 (hs197.ow L179))
  · omega
  · omega
  refine WL.storeF1 (x' := ⟨(gat encFileR r51.Files.xs (fileN (DiskR.dat r51) op.Name)).Id, SlD.of ho194, (gat encFileR r51.Files.xs (fileN (DiskR.dat r51) op.Name)).Safe⟩) (hs197.fr L179) ho181 Tryz.sizeOf123 rfl rfl rfl rfl rfl rfl rfl rfl rfl ?_ rfl (fun L198 whs199 hs199 ho200 _ => ?_)
  · omega
  replace hs199 := St.back [_, _, _, _, _] hs199
  obtain ⟨L201, hs202, hb203⟩ := hp190 (⟨(gat encFileR r51.Files.xs (fileN (DiskR.dat r51) op.Name)).Id, SlD.of ho194, (gat encFileR r51.Files.xs (fileN (DiskR.dat r51) op.Name)).Safe⟩ : FileR) _ ((hs199.fr (L185 ++ L187)).fr L192) (by have h_ := ho194; exact h_)
  have hs205 := (((((hs202.fb b2).fb b4).fb b6).fb b28).fb b166)
  have ho204 := ho200
  obtain ⟨L207, hs206, ho208⟩ := OwnN.fold ((hs205.fr L201).fr L198) ho204 hb203
  have hs209 := (((((hs206.fb b2).fb b4).fb b6).fb b28).fb b166)
  refine WL.nil (hK65 _ _ (WC.sr (WL.r 2 hs209 [1] rfl (WL.st tbk hs209 2 rfl rfl (fun _ hs210 => WL.r 1 hs210 [] rfl (WL.nil (WC.ret ?_)))))))
  refine retV2 rfl (resV.cellA tbk hs210 2 rfl rfl rfl rfl) (resV.tmp rfl) ?_
  obtain ⟨L212, hs211, ho213⟩ := ownDiskR.fl hs210 ho208 ho175 ho176
  have hs214 := (((((hs211.fb b2).fb b4).fb b6).fb b28).fb b166)
  refine ⟨⟨r51.Room, r51.Fuse, r51.Next, SlD.ofN ho208, SlD.of ho175, SlD.of ho176⟩, _, (by rw [hc]; first | done | rfl | (rw [hr0]; done) | (rw [hr0]; rfl)), (St.keep1 (hs214.fr L212)), ?_, ?_⟩
  · exact (by exact ho213)
  · rw [hdn]; unfold doD; rw [if_neg (show ¬ op.dat.Kind = 1 from (by first | assumption | (show ¬ op.Kind = 1; omega))), if_pos (show op.dat.Kind = 2 from k2), ← hd53]; exact DiskD.ext' rfl rfl rfl (files_set (by rw [show fAt (DiskR.dat r51).Files (fileN (DiskR.dat r51) op.dat.Name) = FileR.dat (gat encFileR r51.Files.xs (fileN (DiskR.dat r51) op.Name)) from fAt_dat hfn2]; exact FileD.ext' rfl (by show _ ++ _ = _ ++ List.take (roomD (DiskR.dat r51)) op.Data.xs; rw [hrr, List.take_of_length_le (by omega), List.take_of_length_le (by omega)]; rfl) rfl)) rfl rfl
 have k2 : ¬ op.Kind = 2 := by have h9 := h112; simpa using h9
 have hc : doneC d.dat op.dat = 0 := hc0.trans (doC_0 (show ¬ op.Kind = 2 by omega))
 refine WC.r1 hs64 [] rfl (WC.cq rfl (fun h215 qh215 => ?_) (fun h215 qh215 => ?_))
 ·have k3 : op.Kind = 3 := by have h9 := h215; simpa using h9
  have hh : hasN (dirD d.dat) op.Name = true := (refuse_has hr0 (show op.Kind ≠ 6 by omega)).trans (by rw [show decide (op.dat.Kind = 1) = false from decide_eq_false (show ¬ op.Kind = 1 by omega)]; rfl)
  have hfn := (hD.at hh).1
  have hat : atI d.dat.Files (findL (dirD d.dat) op.Name) = ((fileN (DiskR.dat r51) op.Name) : Int) := by rw [hrfn]; exact (hD.at hh).2
  have hfn2 : (fileN (DiskR.dat r51) op.Name) < r51.Files.xs.length := by rw [hrfn, ← List.length_map (f := FileR.dat)]; show _ < (DiskR.dat r51).Files.length; rw [hrF]; exact hfn
  have hyb := (hro.Files.all _ (gat_mem (F := encFileR) (xs := r51.Files.xs) (k := (fileN (DiskR.dat r51) op.Name)) hfn2)).Body.len
  have hyu : (gat encFileR r51.Files.xs (fileN (DiskR.dat r51) op.Name)).Body.xs.length ≤ usedF d.dat.Files := by rw [← hrF]; exact usedF_gat hfn2
  refine WC.sr (WL.r 3 hs64 [0] rfl (WL.val rfl rfl rfl (Run.idxK ((fileN (DiskR.dat r51) op.Name)) Tryz.runUnderlying30 Tryz.sizeOf123 rfl rfl rfl ?_ ?_ ?_) ?_))
  · exact SlF.some_ (ownDiskR.ok (B := 549755813888) ho52 (hs64.ow L50) hsmr).Files.sl
  · omega
  · omega
  refine WL.val rfl rfl rfl (Run.loadA Tryz.isAgg123 Tryz.sizeOf123 rfl rfl (SlF.whole (ownDiskR.ok (B := 549755813888) ho52 (hs64.ow L50) hsmr).Files.sl ?_)) ?_
  · omega
  refine WL.al hs64 Tryz.zeroValue123 rfl rfl (fun b216 _ hs217 => WL.st tbk hs217 0 rfl rfl (fun _ hs218 => WL.nil (WC.sr (WL.r 3 hs218 [0] rfl ?_))))
  skip
  refine WL.r 1 hs218 [] rfl (WL.st tbk hs218 0 rfl rfl (fun _ hs219 => WL.nil (WC.region (WL.r 4 hs219 [1, 0] rfl ?_))))
  refine WL.val rfl rfl rfl (Run.idxK ((fileN (DiskR.dat r51) op.Name)) Tryz.runUnderlying30 Tryz.sizeOf123 rfl rfl rfl ?_ ?_ ?_) ?_
  · exact SlF.some_ (ownDiskR.ok (B := 549755813888) ho52 (hs219.ow L50) hsmr).Files.sl
  · omega
  · omega
  obtain ⟨L220, L221, L222, hs226, ho223, ho224, ho225⟩ := ownDiskR.op hs219 ho52
  have hs227 := (((((hs226.fb b2).fb b4).fb b6).fb b28).fb b216)
  obtain ⟨L228, L229, hs232, ho230, ho231⟩ := OwnN.open_ (hs227.fr L220) ho223
  have hs233 := (((((hs232.fb b2).fb b4).fb b6).fb b28).fb b216)
  obtain ⟨L234, L235, L236, hs237, ho238, hp239⟩ := Bag.out (F := encFileR) (i := (fileN (DiskR.dat r51) op.Name)) (hs233.fr L229) ho231 (by omega)
  have hs240 := (((((hs237.fb b2).fb b4).fb b6).fb b28).fb b216)
  refine WL.storeF1 (x' := ⟨(gat encFileR r51.Files.xs (fileN (DiskR.dat r51) op.Name)).Id, SlD.of ho238, ((gat encFileR r51.Files.xs (fileN (DiskR.dat r51) op.Name)).Body.n : Int)⟩) (hs240.fr L228) ho230 Tryz.sizeOf123 rfl rfl rfl rfl rfl rfl rfl rfl rfl ?_ rfl (fun L241 whs242 hs242 ho243 _ => ?_)
  · omega
  replace hs242 := St.back [_, _, _, _, _] hs242
  obtain ⟨L244, hs245, hb246⟩ := hp239 (⟨(gat encFileR r51.Files.xs (fileN (DiskR.dat r51) op.Name)).Id, SlD.of ho238, ((gat encFileR r51.Files.xs (fileN (DiskR.dat r51) op.Name)).Body.n : Int)⟩ : FileR) _ ((hs242.fr (L234 ++ L236)).fr L235) (by have h_ := ho238; exact h_)
  have hs248 := (((((hs245.fb b2).fb b4).fb b6).fb b28).fb b216)
  have ho247 := ho243
  obtain ⟨L250, hs249, ho251⟩ := OwnN.fold ((hs248.fr L244).fr L241) ho247 hb246
  have hs252 := (((((hs249.fb b2).fb b4).fb b6).fb b28).fb b216)
  refine WL.nil (hK65 _ _ (WC.sr (WL.r 2 hs252 [1] rfl (WL.st tbk hs252 2 rfl rfl (fun _ hs253 => WL.r 1 hs253 [] rfl (WL.nil (WC.ret ?_)))))))
  refine retV2 rfl (resV.cellA tbk hs253 2 rfl rfl rfl rfl) (resV.tmp rfl) ?_
  obtain ⟨L255, hs254, ho256⟩ := ownDiskR.fl hs253 ho251 ho224 ho225
  have hs257 := (((((hs254.fb b2).fb b4).fb b6).fb b28).fb b216)
  refine ⟨⟨r51.Room, r51.Fuse, r51.Next, SlD.ofN ho251, SlD.of ho224, SlD.of ho225⟩, _, (by rw [hc]; first | done | rfl | (rw [hr0]; done) | (rw [hr0]; rfl)), (St.keep1 (hs257.fr L255)), ?_, ?_⟩
  · exact (by exact ho256)
  · rw [hdn]; unfold doD; rw [if_neg (show ¬ op.dat.Kind = 1 from (by first | assumption | (show ¬ op.Kind = 1; omega))), if_neg (show ¬ op.dat.Kind = 2 from (by first | assumption | (show ¬ op.Kind = 2; omega))), if_pos (show op.dat.Kind = 3 from k3), ← hd53]; exact DiskD.ext' rfl rfl rfl (files_set (by rw [show fAt (DiskR.dat r51).Files (fileN (DiskR.dat r51) op.dat.Name) = FileR.dat (gat encFileR r51.Files.xs (fileN (DiskR.dat r51) op.Name)) from fAt_dat hfn2]; exact FileD.ext' rfl rfl (by show ((_ : Nat) : Int) = ((_ : Nat) : Int); rw [← hyb]; rfl))) rfl rfl
 have k3 : ¬ op.Kind = 3 := by have h9 := h215; simpa using h9
 refine WC.seq (fun K258 hK258 => WC.r1 hs64 [] rfl ?_)
 refine WC.cq rfl (fun h259 qh259 => ?_) (fun h259 qh259 => ?_)
 ·have k45 : op.Kind = 4 ∨ op.Kind = 5 := by have h9 := h259; simp at h9; omega
  refine WC.skip (hK258 _ _ (WC.condT rfl h259 (WC.region (WL.r 8 hs64 [0, 2, 2, 2] rfl ?_))))
  refine WL.val rfl rfl rfl (Run.build rfl rfl rfl rfl (built_137_0_1_2 _ _ _)) (WL.buildSlice hs64 Tryz.runUnderlying32 Tryz.sizeOf137 Tryz.zeroValue137 rfl rfl rfl rfl rfl rfl rfl rfl rfl rfl (fun b261 whs262 hs262 => ?_))
  obtain ⟨L263, L264, L265, hs269, ho266, ho267, ho268⟩ := ownDiskR.op hs262 ho52
  have hs270 := (((((hs269.fb b2).fb b4).fb b6).fb b28).fb b261)
  refine WL.appendG (hs270.fr L265) ho268 (srcF (F := encTurn) (ys := [⟨op.Kind, op.Name, op.To, 0⟩]) Tryz.underlying32 rfl rfl (hs270.own _ (nthL_mem (i := 0) rfl)).1) Tryz.underlying32 inf137 rfl rfl rfl rfl rfl rfl rfl rfl rfl rfl ?_ (fun A274 c275 L271 whs272 hs272 ho273 => ?_)
  · (try simp only [List.length_append, List.length_singleton, List.length_take]); omega
  replace hs272 := St.back [_, _, _, _, _] hs272
  refine WL.r 1 hs272 [] rfl (WL.st tbk hs272 1 rfl rfl (fun _ hs276 => WL.nil (hK65 _ _ (WC.sr (WL.r 2 hs276 [1] rfl (WL.st tbk hs276 2 rfl rfl (fun _ hs277 => WL.r 1 hs277 [] rfl ?_)))))))
  refine WL.nil (WC.ret (retV2 rfl (resV.cellA tbk hs277 2 rfl rfl rfl rfl) (resV.tmp rfl) ?_))
  obtain ⟨L279, hs278, ho280⟩ := ownDiskR.fl hs277 ho266 ho267 ho273
  have hs281 := (((((hs278.fb b2).fb b4).fb b6).fb b28).fb b261)
  refine ⟨⟨r51.Room, r51.Fuse, r51.Next, SlD.ofN ho266, SlD.of ho267, SlD.of ho273⟩, _, (by rw [hc]; first | done | rfl | (rw [hr0]; done) | (rw [hr0]; rfl)), (St.keep1 (hs281.fr L279)), ?_, ?_⟩
  · exact (by exact ho280)
  · rw [hdn]; unfold doD; rw [if_neg (show ¬ op.dat.Kind = 1 from (by first | assumption | (show ¬ op.Kind = 1; omega))), if_neg (show ¬ op.dat.Kind = 2 from (by first | assumption | (show ¬ op.Kind = 2; omega))), if_neg (show ¬ op.dat.Kind = 3 from (by first | assumption | (show ¬ op.Kind = 3; omega))), if_neg (show ¬ op.dat.Kind = 6 from (by first | assumption | (show ¬ op.Kind = 6; omega))), ← hd53]; rfl
 have k45n : ¬ op.Kind = 4 := by first | assumption | (have h9 := h259; simp at h9; omega)
 refine WC.region (WL.r 2 hs64 [] rfl (WL.nil (hK258 _ _ ?_)))
 refine WC.cq rfl (fun h282 qh282 => ?_) (fun h282 qh282 => ?_)
 ·have k45 : op.Kind = 4 ∨ op.Kind = 5 := by have h9 := h282; simp at h9; omega
  refine WC.region (WL.r 8 hs64 [0, 2, 2, 2] rfl ?_)
  refine WL.val rfl rfl rfl (Run.build rfl rfl rfl rfl (built_137_0_1_2 _ _ _)) (WL.buildSlice hs64 Tryz.runUnderlying32 Tryz.sizeOf137 Tryz.zeroValue137 rfl rfl rfl rfl rfl rfl rfl rfl rfl rfl (fun b283 whs284 hs284 => ?_))
  obtain ⟨L285, L286, L287, hs291, ho288, ho289, ho290⟩ := ownDiskR.op hs284 ho52
  have hs292 := (((((hs291.fb b2).fb b4).fb b6).fb b28).fb b283)
  refine WL.appendG (hs292.fr L287) ho290 (srcF (F := encTurn) (ys := [⟨op.Kind, op.Name, op.To, 0⟩]) Tryz.underlying32 rfl rfl (hs292.own _ (nthL_mem (i := 0) rfl)).1) Tryz.underlying32 inf137 rfl rfl rfl rfl rfl rfl rfl rfl rfl rfl ?_ (fun A296 c297 L293 whs294 hs294 ho295 => ?_)
  · (try simp only [List.length_append, List.length_singleton, List.length_take]); omega
  replace hs294 := St.back [_, _, _, _, _] hs294
  refine WL.r 1 hs294 [] rfl (WL.st tbk hs294 1 rfl rfl (fun _ hs298 => WL.nil (hK65 _ _ (WC.sr (WL.r 2 hs298 [1] rfl (WL.st tbk hs298 2 rfl rfl (fun _ hs299 => WL.r 1 hs299 [] rfl ?_)))))))
  refine WL.nil (WC.ret (retV2 rfl (resV.cellA tbk hs299 2 rfl rfl rfl rfl) (resV.tmp rfl) ?_))
  obtain ⟨L301, hs300, ho302⟩ := ownDiskR.fl hs299 ho288 ho289 ho295
  have hs303 := (((((hs300.fb b2).fb b4).fb b6).fb b28).fb b283)
  refine ⟨⟨r51.Room, r51.Fuse, r51.Next, SlD.ofN ho288, SlD.of ho289, SlD.of ho295⟩, _, (by rw [hc]; first | done | rfl | (rw [hr0]; done) | (rw [hr0]; rfl)), (St.keep1 (hs303.fr L301)), ?_, ?_⟩
  · exact (by exact ho302)
  · rw [hdn]; unfold doD; rw [if_neg (show ¬ op.dat.Kind = 1 from (by first | assumption | (show ¬ op.Kind = 1; omega))), if_neg (show ¬ op.dat.Kind = 2 from (by first | assumption | (show ¬ op.Kind = 2; omega))), if_neg (show ¬ op.dat.Kind = 3 from (by first | assumption | (show ¬ op.Kind = 3; omega))), if_neg (show ¬ op.dat.Kind = 6 from (by first | assumption | (show ¬ op.Kind = 6; omega))), ← hd53]; rfl
 have k45n : ¬ op.Kind = 4 := by first | assumption | (have h9 := h282; simp at h9; omega)
 refine WC.r1 hs64 [] rfl (WC.cq rfl (fun h304 qh304 => ?_) (fun h304 qh304 => ?_))
 ·have k6 : op.Kind = 6 := by have h9 := h304; simpa using h9
  refine WC.sr (WL.r 1 hs64 [3] rfl (WL.cl Tryz.call69 rfl (k109_ d _ (okDiskR.st0 f_d hs64) ?_ ?_) ?_))
  iterate 2 first | assumption | rfl | omega | (show r51.Files.xs.length ≤ 1048576; omega) | (show (dirD d.dat).length ≤ 1048576; omega) | exact sm_kept hsmr (Nat.le_trans hdl (by decide)) hsmK
  rintro _ whs305 ⟨A306, c307, L1_308, rfl, hs305, ho309⟩
  replace hs305 := hs64.callF hs305
  refine ⟨_, rfl, ?_⟩
  replace hs305 := St.back [_, _, _, _] hs305
  refine WL.r 1 hs305 [] rfl (WL.st tbk hs305 0 rfl rfl (fun _ hs310 => WL.nil (WC.sr (WL.r 1 hs310 [] rfl (WL.st tbk hs310 0 rfl rfl (fun _ hs311 => WL.nil (WC.region ?_)))))))
  refine WL.r 1 hs311 [0] rfl ?_
  obtain ⟨L312, L313, L314, hs318, ho315, ho316, ho317⟩ := ownDiskR.op hs311 ho52
  have hs319 := ((((hs318.fb b2).fb b4).fb b6).fb b28)
  obtain ⟨L322, hs321, ho323⟩ := ownDiskR.fl hs319 ho315 ho309 (OwnF.nil _ _)
  have hs324 := ((((hs321.fb b2).fb b4).fb b6).fb b28)
  refine WL.cl Tryz.call147 rfl (k116_ ⟨r51.Room, r51.Fuse, r51.Next, SlD.ofN ho315, SlD.of ho309, ⟨none, 0, 0, []⟩⟩ _ _ (by exact ho323) (hs324.ow L322) (St.nodupL (hs324.fr L322)) ?_ ?_ ?_ ?_) ?_
  iterate 4 first | assumption | rfl | omega | (show r51.Files.xs.length ≤ 1048576; omega) | (show (dirD d.dat).length ≤ 1048576; omega) | exact sm_kept hsmr (Nat.le_trans hdl (by decide)) hsmK
  rintro _ whs325 ⟨r326, L1_327, rfl, hs325, ho328, hd329⟩
  replace hs325 := St.lend (hs324.fr L322) hs325
  refine ⟨_, rfl, ?_⟩
  replace hs325 := St.back [_, _, _, _] hs325
  refine WL.st tbk hs325 0 rfl rfl (fun _ hs330 => WL.nil (hK65 _ _ (WC.sr (WL.r 2 hs330 [0] rfl (WL.st tbk hs330 1 rfl rfl (fun _ hs331 => WL.r 1 hs331 [] rfl (WL.nil ?_)))))))
  refine WC.ret (retV2 rfl (resV.cellA tbk hs331 1 rfl rfl rfl rfl) (resV.tmp rfl) ?_)
  refine ⟨r326, _, (by rw [hc]; first | done | rfl | (rw [hr0]; done) | (rw [hr0]; rfl)), (St.keep1 (hs331.fr L1_327)), ?_, ?_⟩
  · exact ho328
  · rw [hdn]; unfold doD; rw [if_neg (show ¬ op.dat.Kind = 1 from (by first | assumption | (show ¬ op.Kind = 1; omega))), if_neg (show ¬ op.dat.Kind = 2 from (by first | assumption | (show ¬ op.Kind = 2; omega))), if_neg (show ¬ op.dat.Kind = 3 from (by first | assumption | (show ¬ op.Kind = 3; omega))), if_pos (show op.dat.Kind = 6 from k6), ← hd53]; refine (hd329).trans (DiskD.ext' rfl rfl rfl ?_ ?_ rfl) <;> (simp only [DiskR.dat] at hrd ⊢; rw [hrd])
 have k6 : ¬ op.Kind = 6 := by have h9 := h304; simpa using h9
 refine WC.skip (hK65 _ _ (WC.sr (WL.r 2 hs64 [0] rfl (WL.st tbk hs64 1 rfl rfl (fun _ hs332 => WL.r 1 hs332 [] rfl (WL.nil (WC.ret ?_)))))))
 refine retV2 rfl (resV.cellA tbk hs332 1 rfl rfl rfl rfl) (resV.tmp rfl) ?_
 refine ⟨r51, _, (by rw [hc]; first | done | rfl | (rw [hr0]; done) | (rw [hr0]; rfl)), (St.keep1 (hs332.fr L50)), ?_, ?_⟩
 · exact ho52
 · exfalso; have h9 := dop_kind hop; have h8 : 1 ≤ op.Kind ∧ op.Kind ≤ 6 := h9; omega
theorem k118_ (p : DepotR) (w : World) (f_p : okDepotR 549755813888 w p) (hb : totDisk p.dat.Disk ≤ 1048576) :
    Calls Tryz.prog 38 #[.agg #[i64 p.Disk.Room, i64 p.Disk.Fuse, i64 p.Disk.Next, .slice p.Disk.Files.A p.Disk.Files.n p.Disk.Files.c, .slice p.Disk.Kept.A p.Disk.Kept.n p.Disk.Kept.c, .slice p.Disk.Turns.A p.Disk.Turns.n p.Disk.Turns.c, i64 p.Gen, i64 p.Seq, i64 p.Size, .bool p.Stuck]] w fun e w' => e = .returned (.bool (depotOk p.dat)) ∧ St w [] [] w' := by
 have nb_p_Disk_Files := f_p.Disk.Files_n
 have nl_p_Disk_Files := f_p.Disk.Files.sl.len
 have nb_p_Disk_Kept := f_p.Disk.Kept_n
 have nl_p_Disk_Kept := f_p.Disk.Kept.len
 have nb_p_Disk_Turns := f_p.Disk.Turns_n
 have nl_p_Disk_Turns := f_p.Disk.Turns.len
 refine enter 59 Tryz.func38 rfl Tryz.ntmps38 rfl rfl ?_
 have hs1 := St.init w
 refine WC.sr (WL.bx hs1 rfl (fun b2 _ hs3 => WL.r 1 hs3 [] rfl (WL.nil (WC.seq (fun K4 hK4 => WC.sr (WL.r 2 hs3 [0] rfl ?_))))))
 refine WL.cl Tryz.call52 rfl (k107_ p.Disk _ (okDiskR.st0 f_p.Disk hs3) ?_) ?_
 · first | assumption | rfl | omega | exact hb
 rintro _ whs5 ⟨rfl, hs5⟩
 replace hs5 := hs3.call0 hs5
 refine ⟨_, rfl, WL.r 2 hs5 [] rfl (WL.pO tbk 3 Acts.nil hs5 [0] rfl rfl rfl rfl (fun g_ => ⟨rfl, trivial⟩) (WL.r 1 hs5 [] rfl (WL.pO tbk 3 Acts.nil hs5 [0] rfl rfl rfl rfl (fun g_ => ⟨rfl, trivial⟩) (WL.r 1 hs5 [] rfl (WL.pO tbk 3 Acts.nil hs5 [0] rfl rfl rfl rfl (fun g_ => ⟨rfl, trivial⟩) (WL.r 1 hs5 [] rfl ?_))))))⟩
 refine WL.pO tbk 3 Acts.nil hs5 [0] rfl rfl rfl rfl (fun g_ => ⟨rfl, trivial⟩) (WL.r 1 hs5 [] rfl (WL.pO tbk 3 Acts.nil hs5 [0] rfl rfl rfl rfl (fun g_ => ⟨rfl, trivial⟩) (WL.nil (WC.cq rfl (fun h6 qh6 => ?_) (fun h6 qh6 => ?_)))))
 ·have hA : depA p.dat = false := by rw [depA_s, h6]; rfl
  refine WC.r1 hs5 [] rfl (WC.ret (tkR ?_))
  clear hK4
  refine rtv rfl rfl hs5 ?_
  rw [depotOk_n hA]
 have hA : depA p.dat = true := by rw [depA_s, h6]; rfl
 refine WC.skip (hK4 _ _ (WC.seq (fun K7 hK7 => WC.sr (WL.r 5 hs5 [0] rfl (WL.pO tbk 2 Acts.nil hs5 [0] rfl rfl rfl rfl (fun g_ => ⟨rfl, trivial⟩) (WL.nil ?_))))))
 refine WC.cq rfl (fun h8 qh8 => ?_) (fun h8 qh8 => ?_)
 ·have hB : depB p.dat = true := h8
  refine WC.r1 hs5 [] rfl (WC.ret (tkR ?_))
  clear hK7
  refine rtv rfl rfl hs5 ?_
  rw [depotOk_b hA hB]
 have hB : depB p.dat = false := h8
 refine WC.skip (hK7 _ _ (WC.seq (fun K9 hK9 => WC.rH hs5 hs5 (fun _ hs10 => ?_))))
 refine WH.rn [0, 1, 2, 3] hs10 [0, 0] rfl rfl (WH.o1 4 rfl (WL.cl Tryz.call41 rfl (k21_ _ _) ?_))
 rintro _ whs11 ⟨rfl, hs11⟩
 replace hs11 := hs10.call0 hs11
 refine ⟨_, rfl, WL.nil ⟨hs11, WH.o1 5 rfl (WL.cl Tryz.call54 rfl (k115_ p.Disk _ _ (okDiskR.st0 f_p.Disk hs11) ?_) ?_)⟩⟩
 · first | assumption | rfl | omega | exact hb
 rintro _ whs12 ⟨A13, c14, L1_15, rfl, hs12, ho16⟩
 replace hs12 := hs11.callF hs12
 refine ⟨_, rfl, ?_⟩
 replace hs12 := St.back [_] hs12
 refine WL.nil ⟨(hs12.rm L1_15), WH.rn [6, 7, 8, 9, 10] (hs12.rm L1_15) [] rfl rfl (WH.dn (hK9 _ _ (WC.sr (WL.r 2 hs12 [] rfl (WL.pA tbk 5 Acts.nil hs12 [0] rfl rfl rfl rfl (fun g_ => ⟨rfl, trivial⟩) (WL.r 1 hs12 [] rfl ?_))))))⟩
 refine WL.nil (WC.ret (rtv rfl rfl hs12 ?_))
 rw [depotOk_c hA hB]; rfl
theorem k119_ (p : DepotR) (w : World) (f_p : okDepotR 549755813888 w p) (hb : totDisk p.dat.Disk ≤ 1048576) :
    Calls Tryz.prog 39 #[.agg #[i64 p.Disk.Room, i64 p.Disk.Fuse, i64 p.Disk.Next, .slice p.Disk.Files.A p.Disk.Files.n p.Disk.Files.c, .slice p.Disk.Kept.A p.Disk.Kept.n p.Disk.Kept.c, .slice p.Disk.Turns.A p.Disk.Turns.n p.Disk.Turns.c, i64 p.Gen, i64 p.Seq, i64 p.Size, .bool p.Stuck]] w fun e w' => ∃ r L1, e = .returned (.agg #[i64 r.Disk.Room, i64 r.Disk.Fuse, i64 r.Disk.Next, .slice r.Disk.Files.A r.Disk.Files.n r.Disk.Files.c, .slice r.Disk.Kept.A r.Disk.Kept.n r.Disk.Kept.c, .slice r.Disk.Turns.A r.Disk.Turns.n r.Disk.Turns.c, i64 r.Gen, i64 r.Seq, i64 r.Size, .bool r.Stuck]) ∧ St w [] L1 w' ∧ ownDepotR r L1 ∧ r.dat = p.dat := by
 have nb_p_Disk_Files := f_p.Disk.Files_n
 have nl_p_Disk_Files := f_p.Disk.Files.sl.len
 have nb_p_Disk_Kept := f_p.Disk.Kept_n
 have nl_p_Disk_Kept := f_p.Disk.Kept.len
 have nb_p_Disk_Turns := f_p.Disk.Turns_n
 have nl_p_Disk_Turns := f_p.Disk.Turns.len
 have hsm : smDisk 1048576 p.dat.Disk := totDisk_sm hb
 refine enter 8 Tryz.func39 rfl Tryz.ntmps39 rfl rfl ?_
 have hs1 := St.init w
 refine WC.sr (WL.bx hs1 rfl (fun b2 _ hs3 => WL.al hs3 Tryz.zeroValue36 rfl rfl (fun b4 _ hs5 => WL.nil (WC.sr (WL.r 2 hs5 [1] rfl ?_)))))
 refine WL.cl Tryz.call66 rfl (k110_ p.Disk _ (okDiskR.st0 f_p.Disk hs5) ?_) ?_
 · first | assumption | rfl | omega | exact hsm
 rintro _ whs6 ⟨r7, L1_8, rfl, hs6, ho9, hd10⟩
 replace hs6 := hs5.callF hs6
 refine ⟨_, rfl, ?_⟩
 replace hs6 := St.back [_, _] hs6
 have hcp := hd10
 refine WL.r 1 hs6 [] rfl (WL.st tbk hs6 1 rfl rfl (fun _ hs11 => WL.nil (WC.sr (WL.r 1 hs11 [1] rfl (WL.st tbk hs11 0 rfl rfl (fun _ hs12 => WL.nil (WC.ret ?_)))))))
 refine retV1 rfl (resV.cellA tbk hs12 0 rfl rfl rfl rfl) ?_
 obtain ⟨L13, L14, L15, hs19, ho16, ho17, ho18⟩ := ownDiskR.op hs12 ho9
 have hs20 := ((hs19.fb b2).fb b4)
 obtain ⟨L22, hs21, ho23⟩ := ownDepotR.fl hs20 ho16 ho17 ho18
 have hs24 := ((hs21.fb b2).fb b4)
 refine ownDepotR.ret rfl (St.keep1 (hs24.fr L22)) ho23 ?_
 · exact DepotD.ext' hcp rfl rfl rfl rfl
theorem k120_ (b_p : Nat) (p : DepotR) (L_p : Hp) (code : Int) (op_Kind : Int) (op_Name : ByteArray) (op_To : ByteArray) (A_op_Data : Option Addr) (n_op_Data c_op_Data : Nat) (op_Data : List UInt8) (w : World) (hb_p : w.heap[b_p]? = some (Obj.cells (List.toArray [i64 p.Disk.Room, i64 p.Disk.Fuse, i64 p.Disk.Next, .slice p.Disk.Files.A p.Disk.Files.n p.Disk.Files.c, .slice p.Disk.Kept.A p.Disk.Kept.n p.Disk.Kept.c, .slice p.Disk.Turns.A p.Disk.Turns.n p.Disk.Turns.c, i64 p.Gen, i64 p.Seq, i64 p.Size, .bool p.Stuck]) 36 (0, 0))) (o_p : ownDepotR p L_p) (h_p : Hh w L_p) (f_op_Data : SlF encB w A_op_Data n_op_Data op_Data) (hcd : n_op_Data ≤ c_op_Data) (hd_ : (b_p :: L_p.map (·.1)).Nodup) (s_op_Data : 0 < n_op_Data → (adr A_op_Data).block ∉ (b_p :: L_p.map (·.1))) (hb : totDisk p.dat.Disk ≤ 1048576) (hsm : smDepot 549755813888 p.dat) (hz1 : op_Name.size ≤ 549755813888) (hz2 : op_To.size ≤ 549755813888) (hz3 : n_op_Data ≤ 549755813888) :
    Calls Tryz.prog 40 #[.pointer (some ⟨b_p, 0, none⟩), i64 code, .agg #[i64 op_Kind, .string op_Name, .string op_To, .slice A_op_Data n_op_Data c_op_Data]] w fun e w' => ∃ r L1, e = .returned (.int .i64 (stepC p.dat.Disk code (⟨op_Kind, op_Name, op_To, op_Data⟩ : DiskOpD))) ∧ St w (b_p :: L_p.map (·.1)) ([(b_p, Obj.cells (List.toArray [i64 r.Disk.Room, i64 r.Disk.Fuse, i64 r.Disk.Next, .slice r.Disk.Files.A r.Disk.Files.n r.Disk.Files.c, .slice r.Disk.Kept.A r.Disk.Kept.n r.Disk.Kept.c, .slice r.Disk.Turns.A r.Disk.Turns.n r.Disk.Turns.c, i64 r.Gen, i64 r.Seq, i64 r.Size, .bool r.Stuck]) 36 (0, 0))] ++ L1) w' ∧ ownDepotR r L1 ∧ r.dat = ({ p.dat with Disk := stepD p.dat.Disk code (⟨op_Kind, op_Name, op_To, op_Data⟩ : DiskOpD) } : DepotD) := by
 have nl9 := f_op_Data.len
 refine enter 26 Tryz.func40 rfl Tryz.ntmps40 rfl rfl ?_
 have hs1 := St.takeP w b_p _ L_p hb_p h_p hd_
 refine WC.sr (WL.bx hs1 rfl (fun b2 _ hs3 => WL.r 1 hs3 [] rfl (WL.nil (WC.seq (fun K4 hK4 => WC.r1 hs3 [] rfl ?_)))))
 refine WC.cq rfl (fun h5 qh5 => ?_) (fun h5 qh5 => ?_)
 ·have hc : ¬ code = 0 := by have h9 := h5; simpa using h9
  refine WC.r1 hs3 [] rfl (WC.ret (tkR ?_))
  clear hK4
  refine retV1 rfl (resV.tmp rfl) ?_
  refine ⟨p, _, (by unfold stepC; rw [if_neg hc]), St.keepP (L1 := L_p) ((hs3.fr L_p).fb b_p), o_p, ?_⟩
  · exact DepotD.ext' (by unfold stepD; rw [if_neg hc]) rfl rfl rfl rfl
 have hc : code = 0 := by have h9 := h5; simpa using h9
 refine WC.skip (hK4 _ _ (WC.seq (fun K6 hK6 => ?_)))
 refine WC.jR2 7 8 (Value.int .i64 (doneC p.dat.Disk (⟨op_Kind, op_Name, op_To, op_Data⟩ : DiskOpD))) [0, 1, 2, 6, 9, 10] rfl hs3 (fun o_ L_ => ∃ r : DiskR, o_ = Obj.cells (List.toArray [i64 r.Room, i64 r.Fuse, i64 r.Next, .slice r.Files.A r.Files.n r.Files.c, .slice r.Kept.A r.Kept.n r.Kept.c, .slice r.Turns.A r.Turns.n r.Turns.c]) 34 (0, 0) ∧ ownDiskR r L_ ∧ r.dat = doneD p.dat.Disk (⟨op_Kind, op_Name, op_To, op_Data⟩ : DiskOpD)) ?_ ?_
 ·refine WC.rG 10 hs3 hs3 hs3 (fun _ hs7 => ?_)
  refine WG.rn [0, 1, 2, 3, 4] hs7 [1, 0] rfl rfl (WG.all [5, 9] (by kernel_rfl) rfl (WGs.cons (i := 5) rfl rfl ?_ (WGs.cons (i := 9) rfl rfl ?_ WGs.nil)))
  ·refine WL.cl Tryz.call86 rfl (k117_ p.Disk ⟨_, _, _, ⟨_, _, _, _⟩⟩ _ (ownDepotR.ok (B := 549755813888) o_p (hs7.ow L_p) (by assumption)).Disk ⟨(by first | assumption | omega), (by first | assumption | omega), (SlF.st f_op_Data hs7 s_op_Data), (by first | assumption | omega | simp), (by first | assumption | omega | (simp; omega) | simp)⟩ ?_) ?_
   · first | assumption | rfl | omega | exact hb
   rintro _ whs8 ⟨r9, L1_10, rfl, hs8, ho11, hd12⟩
   replace hs8 := hs7.callF hs8
   refine ⟨_, rfl, ?_⟩
   replace hs8 := St.back [_, _] hs8
   refine WL.nil ⟨(hs8.rm L1_10), WG.rn [6, 7, 8] (hs8.rm L1_10) [] rfl rfl (WG.o1 9 rfl rfl (WL.al hs8 Tryz.zeroValue34 rfl rfl (fun b13 _ hs14 => WL.nil ⟨(hs14.d1.rm L1_10), WG.oK rfl (WL.st tbk hs14 0 rfl rfl (fun _ hs15 => WL.nil ⟨(hs15.d1.rm L1_10), ?_⟩))⟩)))⟩
   refine WH.rn [11] (hs15.d1.rm L1_10) [] rfl rfl (WH.dn (⟨rfl, b13, _, _, (((((hs15.fr L_p).fb b_p).fb b2).fr L1_10).fb b13), ⟨r9, rfl, ho11, by exact hd12⟩, ⟨rfl, by rfl, sbF rfl⟩⟩))
  refine WL.al hs7 Tryz.zeroValue34 rfl rfl (fun b16 _ hs17 => WL.nil ⟨hs17.d1, WG.o1 5 rfl rfl ?_⟩)
  refine WL.cl Tryz.call86 rfl (k117_ p.Disk ⟨_, _, _, ⟨_, _, _, _⟩⟩ _ (ownDepotR.ok (B := 549755813888) o_p (hs17.ow L_p) (by assumption)).Disk ⟨(by first | assumption | omega), (by first | assumption | omega), (SlF.st f_op_Data hs17 s_op_Data), (by first | assumption | omega | simp), (by first | assumption | omega | (simp; omega) | simp)⟩ ?_) ?_
  · first | assumption | rfl | omega | exact hb
  rintro _ whs18 ⟨r19, L1_20, rfl, hs18, ho21, hd22⟩
  replace hs18 := hs17.callF hs18
  refine ⟨_, rfl, ?_⟩
  replace hs18 := St.back [_, _, _] hs18
  refine WL.nil ⟨(hs18.d1.rm L1_20), WG.rn [6, 7, 8] (hs18.d1.rm L1_20) [] rfl rfl (WG.oK rfl (WL.st tbk hs18 0 rfl rfl (fun _ hs23 => WL.nil ⟨(hs23.d1.rm L1_20), WH.rn [11] (hs23.d1.rm L1_20) [] rfl rfl (WH.dn (⟨rfl, b16, _, _, (((((hs23.fr L_p).fb b_p).fb b2).fr L1_20).fb b16), ⟨r19, rfl, ho21, by exact hd22⟩, ⟨rfl, by rfl, sbF rfl⟩⟩))⟩)))⟩
 rintro b24 _ L25 _ ⟨r26, rfl, ho27, hd28⟩ hs29 _ hf30
 have hs31 := (((hs29.fb b_p).fb b2).fb b24)
 have hdo := hd28
 refine hK6 _ _ (WC.sub _ hf30 (WC.sr (WL.r 4 hs31 [0] rfl (WL.st tbk hs31 2 rfl rfl (fun _ hs32 => WL.nil (WC.r1 hs32 [] rfl (WC.ret ?_)))))))
 refine retV1 rfl (resV.tmp rfl) ?_
 obtain ⟨L33, L34, L35, hs39, ho36, ho37, ho38⟩ := ownDiskR.op hs32 ho27
 have hs40 := (((hs39.fb b_p).fb b2).fb b24)
 obtain ⟨L42, hs41, ho43⟩ := ownDepotR.fl hs40 ho36 ho37 ho38
 have hs44 := (((hs41.fb b_p).fb b2).fb b24)
 refine ownDepotR.retp (by unfold stepC; rw [if_pos hc]; first | done | rfl) ((hs44.fr L42).fb b_p) ho43 ?_
 · exact DepotD.ext' (by unfold stepD; rw [if_pos hc]; exact hdo) rfl rfl rfl rfl
theorem k121_ (p : DepotR) (A_data : Option Addr) (n_data c_data : Nat) (data : List UInt8) (w : World) (f_p : okDepotR 549755813888 w p) (f_data : SlF encB w A_data n_data data) (hb : totDisk p.dat.Disk ≤ 1048576) (hn : n_data ≤ 1048576) :
    Calls Tryz.prog 17 #[.agg #[i64 p.Disk.Room, i64 p.Disk.Fuse, i64 p.Disk.Next, .slice p.Disk.Files.A p.Disk.Files.n p.Disk.Files.c, .slice p.Disk.Kept.A p.Disk.Kept.n p.Disk.Kept.c, .slice p.Disk.Turns.A p.Disk.Turns.n p.Disk.Turns.c, i64 p.Gen, i64 p.Seq, i64 p.Size, .bool p.Stuck], .slice A_data n_data c_data] w fun e w' => ∃ r L1, e = .returned (.tuple #[.agg #[i64 r.Disk.Room, i64 r.Disk.Fuse, i64 r.Disk.Next, .slice r.Disk.Files.A r.Disk.Files.n r.Disk.Files.c, .slice r.Disk.Kept.A r.Disk.Kept.n r.Disk.Kept.c, .slice r.Disk.Turns.A r.Disk.Turns.n r.Disk.Turns.c, i64 r.Gen, i64 r.Seq, i64 r.Size, .bool r.Stuck], .int .i64 (putC p.dat data)]) ∧ St w [] L1 w' ∧ ownDepotR r L1 ∧ r.dat = putD p.dat data := by
 have nb_p_Disk_Files := f_p.Disk.Files_n
 have nl_p_Disk_Files := f_p.Disk.Files.sl.len
 have nb_p_Disk_Kept := f_p.Disk.Kept_n
 have nl_p_Disk_Kept := f_p.Disk.Kept.len
 have nb_p_Disk_Turns := f_p.Disk.Turns_n
 have nl_p_Disk_Turns := f_p.Disk.Turns.len
 have hsmD : smDisk 1048576 p.dat.Disk := totDisk_sm hb
 have hln := logName_size p.Gen
 have hl := f_data.len
 have hsmB : smDepot 549755813888 p.dat := totDepot_sm (by show totDepot p.dat ≤ 549755813888; unfold totDepot; have := hb; unfold totDisk at this; omega)
 refine enter 57 Tryz.func17 rfl Tryz.ntmps17 rfl rfl ?_
 have hs1 := St.init w
 refine WC.sr (WL.bx hs1 rfl (fun b2 _ hs3 => WL.al hs3 Tryz.zeroValue36 rfl rfl (fun b4 _ hs5 => WL.r 1 hs5 [] rfl (WL.nil (WC.seq (fun K6 hK6 => WC.sr (WL.r 1 hs5 [1] rfl ?_)))))))
 refine WL.cl Tryz.call38 rfl (k118_ p _ (okDepotR.st0 f_p hs5) ?_) ?_
 · first | assumption | rfl | omega | exact hb | exact Nat.zero_le _ | exact Nat.le_trans hln (by decide)
 rintro _ whs7 ⟨rfl, hs7⟩
 replace hs7 := hs5.call0 hs7
 refine ⟨_, rfl, WL.r 2 hs7 [] rfl (WL.pO tbk 3 Acts.nil hs7 [] rfl rfl rfl rfl (fun g_ => trivial) (WL.nil (WC.cq rfl (fun h8 qh8 => ?_) (fun h8 qh8 => ?_))))⟩
 ·have hk : putGood p.dat data = false := by unfold putGood; have h9 := h8; revert h9; rw [hl]; cases depotOk p.dat <;> simp
  obtain ⟨hdn, hc⟩ := put_bad hk
  refine WC.sr ?_
  refine WL.val rfl rfl rfl (Run.build rfl rfl rfl rfl (built_36)) (WL.st tbk hs7 0 rfl rfl (fun _ hs9 => WL.r 1 hs9 [] rfl (WL.nil (WC.ret (tkR ?_)))))
  clear hK6
  refine retV2 rfl (resV.cellA tbk hs9 0 rfl rfl rfl rfl) (resV.tmp rfl) ?_
  obtain ⟨L14, hs13, ho15⟩ := ownDepotR.fl hs9 (OwnN.nil _ _ _) (OwnF.nil _ _) (OwnF.nil _ _)
  have hs16 := ((hs13.fb b2).fb b4)
  refine ⟨⟨⟨0, 0, 0, ⟨none, 0, 0, []⟩, ⟨none, 0, 0, []⟩, ⟨none, 0, 0, []⟩⟩, 0, 0, 0, false⟩, _, (by rw [hc]; first | done | rfl), (St.keep1 (hs16.fr L14)), ?_, ?_⟩
  · exact (by exact ho15)
  · rw [hdn]; rfl
 have hk : putGood p.dat data = true := by unfold putGood; have h9 := h8; revert h9; rw [hl]; cases depotOk p.dat <;> simp
 obtain ⟨hdk, hdl⟩ := putGood_P hk
 refine WC.skip (hK6 _ _ (WC.sr (WL.r 1 hs7 [1] rfl ?_)))
 refine WL.cl Tryz.call39 rfl (k119_ p _ (okDepotR.st0 f_p hs7) ?_) ?_
 · first | assumption | rfl | omega | exact hb | exact Nat.zero_le _ | exact Nat.le_trans hln (by decide)
 rintro _ whs17 ⟨r18, L1_19, rfl, hs17, ho20, hd21⟩
 replace hs17 := hs7.callF hs17
 refine ⟨_, rfl, ?_⟩
 replace hs17 := St.back [_, _] hs17
 have hcb : totDisk (DepotR.dat r18).Disk ≤ 1048576 := by rw [hd21]; exact hb
 have hcs : smDepot 549755813888 (DepotR.dat r18) := by rw [hd21]; exact hsmB
 refine WL.al hs17 Tryz.zeroValue36 rfl rfl (fun b22 _ hs23 => WL.st tbk hs23 0 rfl rfl (fun _ hs24 => WL.nil (WC.seq (fun K25 hK25 => WC.r1 hs24 [2] rfl ?_))))
 refine WC.cq rfl (fun h26 qh26 => ?_) (fun h26 qh26 => ?_)
 ·have hst : p.dat.Stuck = true := by show p.Stuck = true; have h9 := h26; simpa using h9
  obtain ⟨hdn, hc⟩ := put_st hk hst
  refine WC.sr (WL.r 1 hs24 [0] rfl (WL.st tbk hs24 1 rfl rfl (fun _ hs27 => WL.r 1 hs27 [] rfl (WL.nil (WC.ret (tkR ?_))))))
  clear hK25
  refine retV2 rfl (resV.cellA tbk hs27 1 rfl rfl rfl rfl) (resV.tmp rfl) ?_
  refine ⟨r18, _, (by rw [hc]; first | done | rfl), (St.keep1 (hs27.fr L1_19)), ?_, ?_⟩
  · exact ho20
  · rw [hdn]; exact hd21
 have hst : p.dat.Stuck = false := by show p.Stuck = false; have h9 := h26; simpa using h9
 refine WC.skip (hK25 _ _ (WC.sr (WL.r 3 hs24 [2] rfl ?_)))
 refine WL.cl Tryz.call46 rfl (k27_ _ _ _ _ _ _ (SlF.st0 f_data hs24) ?_) ?_
 · first | assumption | rfl | omega | exact hb | exact Nat.zero_le _ | exact Nat.le_trans hln (by decide)
 rintro _ whs28 ⟨A29, c30, L1_31, rfl, hs28, ho32⟩
 replace hs28 := hs24.callF hs28
 refine ⟨_, rfl, ?_⟩
 replace hs28 := St.back [_, _, _] hs28
 refine WL.r 5 hs28 [] rfl (WL.nil (WC.seq (fun K33 hK33 => WC.r1 hs28 [] rfl ?_)))
 refine WC.cq rfl (fun h34 qh34 => ?_) (fun h34 qh34 => ?_)
 ·have hsq : 1000000000 < p.dat.Seq := by
    rcases Int.lt_or_le 1000000000 p.dat.Seq with h8 | h8
    · exact h8
    · have h9 := h34; rw [show frameOk p.Seq data = true from put_frame (p := p.dat) hk (by omega)] at h9; cases h9
  obtain ⟨hdn, hc⟩ := put_full hk hst hsq
  refine WC.sr (WL.r 1 hs28 [0] rfl (WL.st tbk hs28 1 rfl rfl (fun _ hs35 => WL.r 1 hs35 [] rfl (WL.nil (WC.ret (tkR ?_))))))
  clear hK33
  refine retV2 rfl (resV.cellA tbk hs35 1 rfl rfl rfl rfl) (resV.tmp rfl) ?_
  refine ⟨r18, _, (by rw [hc]; first | done | rfl), (St.keep1 (hs35.fr L1_19)), ?_, ?_⟩
  · exact ho20
  · rw [hdn]; exact hd21
 have hsq : ¬ 1000000000 < p.dat.Seq := by intro h8; have h8' : 1000000000 < p.Seq := h8; have h9 := h34; rw [show frameOk p.Seq data = false from by unfold frameOk; rw [Bool.and_eq_false_iff, within_not]; left; omega] at h9; cases h9
 have hfk : frameOk p.Seq data = true := put_frame (p := p.dat) hk hsq
 have hfo : frameOut p.Seq data = frameL p.Seq data := frameOut_y hfk
 have hfl : (frameOut p.Seq data).length ≤ 60016 := by rw [hfo]; have h9 := (depA_nums (depotOk_A hdk)).2.1; have h8 : 1 ≤ p.Seq ∧ p.Seq ≤ 1000000001 := h9; have h7 := frameL_len (seq := p.Seq) (b := data) (by omega) (by omega); omega
 have hCO : doneC p.dat.Disk (⟨2, logName p.Gen, noName, frameOut p.Seq data⟩ : DiskOpD) = doneC p.dat.Disk (putOp p.dat data) := congrArg (fun l => doneC p.dat.Disk (⟨2, logName p.Gen, noName, l⟩ : DiskOpD)) hfo
 have hDO : doneD p.dat.Disk (⟨2, logName p.Gen, noName, frameOut p.Seq data⟩ : DiskOpD) = doneD p.dat.Disk (putOp p.dat data) := congrArg (fun l => doneD p.dat.Disk (⟨2, logName p.Gen, noName, l⟩ : DiskOpD)) hfo
 have hcode := put_code (p := p.dat) (b := data) hk hst hsq
 have hsq2 : p.Seq ≤ 1000000000 := by have h9 : ¬ 1000000000 < p.Seq := hsq; omega
 have hsq3 : 1 ≤ p.Seq := (depA_nums (depotOk_A hdk)).2.1.1
 refine WC.skip (hK33 _ _ (WC.sr (WL.r 2 hs28 [2] rfl (WL.cl Tryz.call41 rfl (k21_ _ _) ?_))))
 rintro _ whs36 ⟨rfl, hs36⟩
 replace hs36 := hs28.call0 hs36
 refine ⟨_, rfl, WL.r 1 hs36 [] rfl ?_⟩
 refine WL.val rfl rfl rfl (Run.build rfl rfl rfl rfl (built_75_0_1_3 _ _ _ _ _)) ?_
 have hF37 := ((hs36.fr L1_19).fb b22)
 refine WL.cl Tryz.call40 rfl (k120_ _ r18 _ _ _ _ _ _ _ _ _ _ (St.headP hF37) ho20 (St.ownP hF37) (SlF.ofOwn ho32 (hs36.ow L1_31)) (OwnF.cap ho32) (St.nodupP hF37) (OwnF.sep (L1 := (_, _) :: _) hF37 (fun p_ hp_ => (List.mem_append_right [_, _] (List.mem_append_left _ hp_))) ho32) ?_ ?_ ?_ ?_ ?_) ?_
 iterate 5 first | assumption | rfl | omega | exact hb | exact Nat.zero_le _ | exact Nat.le_trans hln (by decide)
 rintro _ whs38 ⟨r39, L40, rfl, hs38, ho41, hd42⟩
 replace hs38 := St.lendP hF37 hs38
 refine ⟨_, rfl, ?_⟩
 have hs43 := (((hs38.fb b2).fb b4).fb b22)
 have hS : stepC (DepotR.dat r18).Disk 0 (⟨2, logName p.Gen, noName, frameOut p.Seq data⟩ : DiskOpD) = doneC p.dat.Disk (putOp p.dat data) := (show doneC (DepotR.dat r18).Disk (⟨2, logName p.Gen, noName, frameOut p.Seq data⟩ : DiskOpD) = _ from by rw [hd21]; exact hCO)
 have hR : DepotR.dat r39 = ({ p.dat with Disk := doneD p.dat.Disk (putOp p.dat data) } : DepotD) := hd42.trans (by rw [hd21]; exact congrArg (fun q => ({ p.dat with Disk := q } : DepotD)) hDO)
 have hRq : r39.Seq = p.Seq := congrArg DepotD.Seq hR
 have hRs : r39.Size = p.Size := congrArg DepotD.Size hR
 have hRd := congrArg DepotD.Disk hR
 have hRg := congrArg DepotD.Gen hR
 have hRt := congrArg DepotD.Stuck hR
 refine WL.r 1 hs43 [] rfl (WL.nil (WC.seq (fun K44 hK44 => WC.r1 hs43 [] rfl ?_)))
 refine WC.cq rfl (fun h45 qh45 => ?_) (fun h45 qh45 => ?_)
 ·have h5 : doneC p.dat.Disk (putOp p.dat data) = 5 := by exact hS.symm.trans (of_decide_eq_true h45)
  have hdn := put_5 hk hst hsq h5
  have hc := hcode
  refine WC.region (WL.r 1 hs43 [] rfl (WL.st tbk hs43 0 rfl rfl (fun _ hs46 => WL.nil (hK44 _ _ (WC.seq (fun K47 hK47 => WC.r1 hs46 [] rfl ?_))))))
  refine WC.condF rfl (by rw [decide_eq_false_iff_not]; omega) (WC.skip (hK47 _ _ (WC.sr (WL.r 2 hs46 [0] rfl (WL.st tbk hs46 1 rfl rfl (fun _ hs49 => WL.r 1 hs49 [] rfl (WL.nil ?_)))))))
  refine WC.ret (retV2 rfl (resV.cellA tbk hs49 1 rfl rfl rfl rfl) (resV.tmp rfl) ?_)
  obtain ⟨L50, L51, L52, hs56, ho53, ho54, ho55⟩ := ownDepotR.op hs49 ho41
  have hs57 := (((hs56.fb b2).fb b4).fb b22)
  obtain ⟨L59, hs58, ho60⟩ := ownDepotR.fl hs57 ho53 ho54 ho55
  have hs61 := (((hs58.fb b2).fb b4).fb b22)
  refine ⟨⟨⟨r39.Disk.Room, r39.Disk.Fuse, r39.Disk.Next, SlD.ofN ho53, SlD.of ho54, SlD.of ho55⟩, r39.Gen, r39.Seq, r39.Size, true⟩, _, (by rw [hc, ← hS]; first | done | rfl), (St.keep1 (hs61.fr L59)), ?_, ?_⟩
  · exact (by exact ho60)
  · rw [hdn]; exact DepotD.ext' hRd hRg hRq hRs rfl
 have h5 : ¬ doneC p.dat.Disk (putOp p.dat data) = 5 := by exact fun h9 => (of_decide_eq_false h45) (hS.trans h9)
 have hc := hcode
 refine WC.skip (hK44 _ _ (WC.seq (fun K62 hK62 => WC.r1 hs43 [] rfl ?_)))
 refine WC.cq rfl (fun h63 qh63 => ?_) (fun h63 qh63 => ?_)
 ·have h0 : doneC p.dat.Disk (putOp p.dat data) = 0 := by exact hS.symm.trans (of_decide_eq_true h63)
  have hdn := put_0 hk hst hsq h0
  have hsz : p.Size ≤ 1048576 := put_size (p := p.dat) hdk hst h0 hsmD
  have hsz0 : 0 ≤ p.Size := (depA_nums (depotOk_A hdk)).2.2
  refine WC.sr (WL.r 4 hs43 [0] rfl (WL.st tbk hs43 0 rfl rfl (fun _ hs64 => WL.nil (WC.region (WL.r 6 hs64 [0] rfl (WL.st tbk hs64 0 rfl rfl (fun _ hs65 => WL.nil ?_)))))))
  refine hK62 _ _ (WC.sr (WL.r 2 hs65 [0] rfl (WL.st tbk hs65 1 rfl rfl (fun _ hs66 => WL.r 1 hs66 [] rfl (WL.nil (WC.ret (retV2 rfl (resV.cellA tbk hs66 1 rfl rfl rfl rfl) (resV.tmp rfl) ?_)))))))
  obtain ⟨L67, L68, L69, hs73, ho70, ho71, ho72⟩ := ownDepotR.op hs66 ho41
  have hs74 := (((hs73.fb b2).fb b4).fb b22)
  obtain ⟨L76, hs75, ho77⟩ := ownDepotR.fl hs74 ho70 ho71 ho72
  have hs78 := (((hs75.fb b2).fb b4).fb b22)
  refine ⟨⟨⟨r39.Disk.Room, r39.Disk.Fuse, r39.Disk.Next, SlD.ofN ho70, SlD.of ho71, SlD.of ho72⟩, r39.Gen, (r39.Seq + (1)), _, r39.Stuck⟩, _, (by rw [hc, ← hS]; first | done | rfl), (St.keep1 (hs78.fr L76)), ?_, ?_⟩
  · exact (by exact ho77)
  · rw [hdn]; exact DepotD.ext' hRd hRg (by show _ + 1 = _ + 1; rw [hRq]; rfl) (by show _ + _ = _ + _; rw [hRs]; exact congrArg (fun l : List UInt8 => p.Size + (l.length : Int)) hfo) hRt
 have h0 : ¬ doneC p.dat.Disk (putOp p.dat data) = 0 := by exact fun h9 => (of_decide_eq_false h63) (hS.trans h9)
 have hdn := put_n hk hst hsq h0 h5
 refine WC.skip (hK62 _ _ (WC.sr (WL.r 2 hs43 [0] rfl (WL.st tbk hs43 1 rfl rfl (fun _ hs79 => WL.r 1 hs79 [] rfl (WL.nil (WC.ret ?_)))))))
 refine retV2 rfl (resV.cellA tbk hs79 1 rfl rfl rfl rfl) (resV.tmp rfl) ?_
 refine ⟨r39, _, (by rw [hc, ← hS]; first | done | rfl), (St.keep1 (hs79.fr L40)), ?_, ?_⟩
 · exact ho41
 · rw [hdn]; exact DepotD.ext' hRd hRg hRq hRs hRt
set_option maxHeartbeats 4000000 in
theorem k122_ (a : DepotR) (left : Int) (w : World) (f_a : okDepotR 9223372036854775807 w a) (h1 : 0 ≤ left) (h2 : left ≤ 1048576) :
    Calls Tryz.prog 10 #[.agg #[i64 a.Disk.Room, i64 a.Disk.Fuse, i64 a.Disk.Next, .slice a.Disk.Files.A a.Disk.Files.n a.Disk.Files.c, .slice a.Disk.Kept.A a.Disk.Kept.n a.Disk.Kept.c, .slice a.Disk.Turns.A a.Disk.Turns.n a.Disk.Turns.c, i64 a.Gen, i64 a.Seq, i64 a.Size, .bool a.Stuck], i64 left] w fun e w' => e = .returned (.int .i64 (szR left (totDepot a.dat))) ∧ St w [] [] w' := by
 have nb_a_Disk_Files := f_a.Disk.Files_n
 have nl_a_Disk_Files := f_a.Disk.Files.sl.len
 have nb_a_Disk_Kept := f_a.Disk.Kept_n
 have nl_a_Disk_Kept := f_a.Disk.Kept.len
 have nb_a_Disk_Turns := f_a.Disk.Turns_n
 have nl_a_Disk_Turns := f_a.Disk.Turns.len
 refine enter 12 Tryz.func10 rfl Tryz.ntmps10 rfl rfl ?_
 have hs1 := St.init w
 refine WC.sr (WL.bx hs1 rfl (fun b2 _ hs3 => WL.r 1 hs3 [] rfl (WL.nil (WC.sr (WL.r 3 hs3 [0] rfl ?_)))))
 refine WL.cl Tryz.call26 rfl (k63_ a.Disk _ _ (okDiskR.st0 f_a.Disk hs3) ?_ ?_) ?_
 · first | assumption | omega
 · first | assumption | omega | exact szR_b (by assumption) (by omega) (by first | assumption | omega)
 rintro _ whs4 ⟨rfl, hs4⟩
 replace hs4 := hs3.call0 hs4
 refine ⟨_, rfl, WL.r 1 hs4 [] rfl (WL.nil (WC.seq (fun K5 hK5 => WC.r1 hs4 [] rfl ?_)))⟩
 refine WC.cD rfl (fun qh6 => ?_) (fun qh6 => ?_)
 ·try have soh6 := szR_ok qh6 (by omega)
  try have sbh6 := szR_b qh6 (by omega) (by first | assumption | omega)
  try have snh6 := szR_no qh6
  refine WC.r1 hs4 [] rfl (WC.ret (tkR ?_))
  clear hK5
  refine rtv rfl rfl hs4 ?_
  simp only [totDepot, totDisk, DepotR.dat, DiskR.dat] at * <;> first | (rw [szR_lt (by omega)]; done) | (refine congrArg (Value.int _) ?_; symm; refine (szR_le ?_).trans ?_ <;> omega) | rfl
 try have soh6 := szR_ok qh6 (by omega)
 try have sbh6 := szR_b qh6 (by omega) (by first | assumption | omega)
 try have snh6 := szR_no qh6
 refine WC.skip (hK5 _ _ (WC.r1 hs4 [] rfl (WC.ret (rtv rfl rfl hs4 ?_))))
 simp only [totDepot, totDisk, DepotR.dat, DiskR.dat] at * <;> first | (rw [szR_lt (by omega)]; done) | (refine congrArg (Value.int _) ?_; symm; refine (szR_le ?_).trans ?_ <;> omega) | rfl
set_option maxHeartbeats 4000000 in
theorem k123_ (a : DepotR) (w : World) (f_a : okDepotR 549755813888 w a) :
    Calls Tryz.prog 12 #[.agg #[i64 a.Disk.Room, i64 a.Disk.Fuse, i64 a.Disk.Next, .slice a.Disk.Files.A a.Disk.Files.n a.Disk.Files.c, .slice a.Disk.Kept.A a.Disk.Kept.n a.Disk.Kept.c, .slice a.Disk.Turns.A a.Disk.Turns.n a.Disk.Turns.c, i64 a.Gen, i64 a.Seq, i64 a.Size, .bool a.Stuck]] w fun e w' => ∃ r L1, e = .returned (.agg #[i64 r.Disk.Room, i64 r.Disk.Fuse, i64 r.Disk.Next, .slice r.Disk.Files.A r.Disk.Files.n r.Disk.Files.c, .slice r.Disk.Kept.A r.Disk.Kept.n r.Disk.Kept.c, .slice r.Disk.Turns.A r.Disk.Turns.n r.Disk.Turns.c, i64 r.Gen, i64 r.Seq, i64 r.Size, .bool r.Stuck]) ∧ St w [] L1 w' ∧ ownDepotR r L1 ∧ r.dat = a.dat := by
 have nb_a_Disk_Files := f_a.Disk.Files_n
 have nl_a_Disk_Files := f_a.Disk.Files.sl.len
 have nb_a_Disk_Kept := f_a.Disk.Kept_n
 have nl_a_Disk_Kept := f_a.Disk.Kept.len
 have nb_a_Disk_Turns := f_a.Disk.Turns_n
 have nl_a_Disk_Turns := f_a.Disk.Turns.len
 refine enter 21 Tryz.func12 rfl Tryz.ntmps12 rfl rfl ?_
 have hs1 := St.init w
 refine WC.sr (WL.bx hs1 rfl (fun b2 _ hs3 => WL.al hs3 Tryz.zeroValue36 rfl rfl (fun b4 _ hs5 => WL.nil (WC.sr (WL.al hs5 Tryz.zeroValue36 rfl rfl (fun b6 _ hs7 => WL.nil (WC.sr ?_)))))))
 refine WL.r 2 hs7 [2] rfl (WL.cl Tryz.call28 rfl (k64_ a.Disk _ (okDiskR.st0 f_a.Disk hs7)) ?_)
 rintro _ whs8 ⟨r9, L1_10, rfl, hs8, ho11, hd12⟩
 replace hs8 := hs7.callF hs8
 refine ⟨_, rfl, ?_⟩
 replace hs8 := St.back [_, _, _] hs8
 refine WL.r 1 hs8 [] rfl (WL.st tbk hs8 0 rfl rfl (fun _ hs13 => WL.nil (WC.sr (WL.r 3 hs13 [2] rfl (WL.st tbk hs13 0 rfl rfl (fun _ hs14 => WL.nil (WC.sr ?_)))))))
 refine WL.r 3 hs14 [2] rfl (WL.st tbk hs14 0 rfl rfl (fun _ hs15 => WL.nil (WC.sr (WL.r 3 hs15 [2] rfl (WL.st tbk hs15 0 rfl rfl (fun _ hs16 => WL.nil (WC.sr ?_)))))))
 refine WL.r 3 hs16 [2] rfl (WL.st tbk hs16 0 rfl rfl (fun _ hs17 => WL.nil (WC.sr (WL.r 1 hs17 [0] rfl (WL.st tbk hs17 1 rfl rfl (fun _ hs18 => WL.nil (WC.ret ?_)))))))
 refine retV1 rfl (resV.cellA tbk hs18 1 rfl rfl rfl rfl) ?_
 obtain ⟨L19, L20, L21, hs25, ho22, ho23, ho24⟩ := ownDiskR.op hs18 ho11
 have hs26 := (((hs25.fb b2).fb b4).fb b6)
 obtain ⟨L28, hs27, ho29⟩ := ownDepotR.fl hs26 ho22 ho23 ho24
 have hs30 := (((hs27.fb b2).fb b4).fb b6)
 refine ⟨⟨⟨r9.Room, r9.Fuse, r9.Next, SlD.ofN ho22, SlD.of ho23, SlD.of ho24⟩, a.Gen, a.Seq, a.Size, a.Stuck⟩, _, rfl, (St.keep1 (hs30.fr L28)), ?_, ?_⟩
 · exact (by exact ho29)
 · exact DepotD.ext' hd12 rfl rfl rfl rfl
set_option maxHeartbeats 4000000 in
theorem k124_ (a : DepotR) (b : DepotR) (w : World) (f_a : okDepotR 549755813888 w a) (f_b : okDepotR 549755813888 w b) (hab : a.dat = b.dat) :
    Calls Tryz.prog 14 #[.agg #[i64 a.Disk.Room, i64 a.Disk.Fuse, i64 a.Disk.Next, .slice a.Disk.Files.A a.Disk.Files.n a.Disk.Files.c, .slice a.Disk.Kept.A a.Disk.Kept.n a.Disk.Kept.c, .slice a.Disk.Turns.A a.Disk.Turns.n a.Disk.Turns.c, i64 a.Gen, i64 a.Seq, i64 a.Size, .bool a.Stuck], .agg #[i64 b.Disk.Room, i64 b.Disk.Fuse, i64 b.Disk.Next, .slice b.Disk.Files.A b.Disk.Files.n b.Disk.Files.c, .slice b.Disk.Kept.A b.Disk.Kept.n b.Disk.Kept.c, .slice b.Disk.Turns.A b.Disk.Turns.n b.Disk.Turns.c, i64 b.Gen, i64 b.Seq, i64 b.Size, .bool b.Stuck]] w fun e w' => e = .returned (.bool true) ∧ St w [] [] w' := by
 have nb_a_Disk_Files := f_a.Disk.Files_n
 have nl_a_Disk_Files := f_a.Disk.Files.sl.len
 have nb_a_Disk_Kept := f_a.Disk.Kept_n
 have nl_a_Disk_Kept := f_a.Disk.Kept.len
 have nb_a_Disk_Turns := f_a.Disk.Turns_n
 have nl_a_Disk_Turns := f_a.Disk.Turns.len
 have nb_b_Disk_Files := f_b.Disk.Files_n
 have nl_b_Disk_Files := f_b.Disk.Files.sl.len
 have nb_b_Disk_Kept := f_b.Disk.Kept_n
 have nl_b_Disk_Kept := f_b.Disk.Kept.len
 have nb_b_Disk_Turns := f_b.Disk.Turns_n
 have nl_b_Disk_Turns := f_b.Disk.Turns.len
 have e_Disk : a.Disk.dat = b.Disk.dat := congrArg (fun d : DepotD => d.Disk) hab
 have e_Disk_Room : a.Disk.Room = b.Disk.Room := congrArg (fun d : DepotD => d.Disk.Room) hab
 have e_Disk_Fuse : a.Disk.Fuse = b.Disk.Fuse := congrArg (fun d : DepotD => d.Disk.Fuse) hab
 have e_Disk_Next : a.Disk.Next = b.Disk.Next := congrArg (fun d : DepotD => d.Disk.Next) hab
 have e_Disk_Files : a.Disk.Files.xs.map FileR.dat = b.Disk.Files.xs.map FileR.dat := congrArg (fun d : DepotD => d.Disk.Files) hab
 have e_Disk_Kept : a.Disk.Kept.xs = b.Disk.Kept.xs := congrArg (fun d : DepotD => d.Disk.Kept) hab
 have e_Disk_Turns : a.Disk.Turns.xs = b.Disk.Turns.xs := congrArg (fun d : DepotD => d.Disk.Turns) hab
 have e_Gen : a.Gen = b.Gen := congrArg (fun d : DepotD => d.Gen) hab
 have e_Seq : a.Seq = b.Seq := congrArg (fun d : DepotD => d.Seq) hab
 have e_Size : a.Size = b.Size := congrArg (fun d : DepotD => d.Size) hab
 have e_Stuck : a.Stuck = b.Stuck := congrArg (fun d : DepotD => d.Stuck) hab
 refine enter 31 Tryz.func14 rfl Tryz.ntmps14 rfl rfl ?_
 have hs1 := St.init w
 refine WC.sr (WL.bx hs1 rfl (fun b2 _ hs3 => WL.bx hs3 rfl (fun b4 _ hs5 => WL.r 1 hs5 [] rfl (WL.nil (WC.seq (fun K6 hK6 => WC.sr (WL.r 4 hs5 [1, 0] rfl ?_)))))))
 refine WL.cl Tryz.call30 rfl (k65_ a.Disk b.Disk _ (okDiskR.st0 f_a.Disk hs5) (okDiskR.st0 f_b.Disk hs5) ?_) ?_
 · first | assumption | rfl | omega
 rintro _ whs7 ⟨rfl, hs7⟩
 replace hs7 := hs5.call0 hs7
 refine ⟨_, rfl, WL.r 1 hs7 [] rfl (WL.nil (WC.condF rfl (by simp [e_Disk_Room, e_Disk_Fuse, e_Disk_Next, e_Gen, e_Seq, e_Size, e_Stuck]) (WC.skip (hK6 _ _ (WC.seq (fun K9 hK9 => WC.r1 hs7 [1, 0] rfl ?_))))))⟩
 refine WC.condF rfl (by simp [e_Disk_Room, e_Disk_Fuse, e_Disk_Next, e_Gen, e_Seq, e_Size, e_Stuck]) (WC.skip (hK9 _ _ (WC.seq (fun K11 hK11 => WC.r1 hs7 [1, 0] rfl (WC.condF rfl (by simp [e_Disk_Room, e_Disk_Fuse, e_Disk_Next, e_Gen, e_Seq, e_Size, e_Stuck]) (WC.skip (hK11 _ _ ?_)))))))
 refine WC.seq (fun K13 hK13 => WC.r1 hs7 [1, 0] rfl (WC.condF rfl (by simp [e_Disk_Room, e_Disk_Fuse, e_Disk_Next, e_Gen, e_Seq, e_Size, e_Stuck]) (WC.skip (hK13 _ _ (WC.seq (fun K15 hK15 => WC.r1 hs7 [1, 0] rfl (WC.condF rfl (by simp [e_Disk_Room, e_Disk_Fuse, e_Disk_Next, e_Gen, e_Seq, e_Size, e_Stuck]) ?_)))))))
 refine WC.skip (hK15 _ _ (WC.r1 hs7 [] rfl (WC.ret (rtv rfl rfl hs7 ?_))))
 rfl
theorem digB_zero (f : Nat) (a : List UInt8) : digB f 0 a = a := by
 cases f with
 | zero => rfl
 | succ f => unfold digB; rw [if_pos rfl]
theorem digB_step {f n : Nat} {a : List UInt8} (h : n < 10 ^ f) (h0 : 0 < n) : n / 10 < 10 ^ (f - 1) ∧ digB f n a = digB (f - 1) (n / 10) (ub (48 + ((n % 10 : Nat) : Int)) :: a) := by
 cases f with
 | zero => rw [Nat.pow_zero] at h; omega
 | succ f =>
  rw [Nat.add_sub_cancel]
  refine ⟨?_, ?_⟩
  ·rw [Nat.pow_succ] at h
   omega
  ·rw [digB, if_neg (by omega)]
theorem digB_room {f n : Nat} {a : List UInt8} {b : UInt8} (h : n < 10 ^ f) (h0 : 0 < n) (hl : a.length + f ≤ 40) : (b :: a).length + (f - 1) ≤ 40 := by
 cases f with
 | zero => rw [Nat.pow_zero] at h; omega
 | succ f => rw [List.length_cons]; omega
theorem k125_ (k : Int) (w : World) (hk : k ≤ 1099511627776) :
    Calls Tryz.prog 138 #[i64 k] w fun e w' => e = .returned (.string (markText k)) ∧ St w [] [] w' := by
 refine enter 20 Tryz.func138 rfl Tryz.ntmps138 rfl rfl ?_
 have hs1 := St.init w
 refine WC.r1 hs1 [] rfl (WC.seq (fun K2 hK2 => WC.r1 hs1 [] rfl ?_))
 refine WC.cD rfl (fun qh3 => ?_) (fun qh3 => ?_)
 ·refine WC.r1 hs1 [] rfl (WC.ret (tkR ?_))
  clear hK2
  refine rtv rfl rfl hs1 ?_
  rw [show markText k = ⟨#[109, 48]⟩ from by unfold markText; rw [if_pos (by omega)]]
 refine WC.skip (hK2 _ _ (WC.r1 hs1 [] rfl (WC.seq (fun K4 hK4 => WC.block ?_))))
 refine WC.lS [2, 5] rfl hs1 (fun k_ f w' => ∃ (d n : Nat) (z : List UInt8), k_ = n + n ∧ (n < 10 ^ d) ∧ (digB 40 k.toNat [] = digB d n z) ∧ (z.length + d ≤ 40) ∧ (n ≤ 1099511627776) ∧ Sub [(0, .int .i64 (n : Int)), (3, .string ⟨z.toArray⟩)] f) ((fun (d n : Nat) (z : List UInt8) => n + n) (40) (k.toNat) ([])) ?_ ?_
 ·refine ⟨40, k.toNat, [], rfl, ?_, ?_, ?_, ?_, ⟨?_, ?_, trivial⟩⟩
  · exact Nat.lt_of_le_of_lt (by omega : k.toNat ≤ 1099511627776) (by decide)
  · rfl
  · exact Nat.le_refl _
  · omega
  · (refine congrArg some (congrArg (Value.int _) ?_); omega)
  · rfl
 clear hs1
 rintro _ f w ⟨d, n, z, rfl, p0, p1, p2, p3, hG⟩ hF hs5
 refine WC.sub _ (hG.app hF) ?_
 clear hG hF
 refine WC.seq (fun K6 hK6 => WC.r1 hs5 [] rfl ?_)
 refine WC.cD rfl (fun qh7 => ?_) (fun qh7 => ?_)
 ·refine WC.skip (hK6 _ _ (WC.block (WC.sr (WL.r 1 hs5 [] rfl ?_))))
  refine WL.val rfl rfl rfl (Run.rem rfl rfl rfl ?_ ?_) ?_
  · omega
  · omega
  refine WL.r 2 hs5 [] rfl (WL.buildSlice hs5 Tryz.runUnderlying43 Tryz.sizeOf5 Tryz.zeroValue5 rfl rfl rfl rfl rfl rfl rfl rfl rfl rfl (fun b8 whs9 hs9 => WL.val rfl rfl rfl (Run.strOf (SlF.own1 (hs9.own _ (nthL_mem (i := 0) rfl)).1) Tryz.underlying43 Tryz.underlying5 Tryz.underlying9 rfl rfl) (WL.r 1 hs9 [] rfl ?_)))
  refine WL.val rfl rfl rfl (Run.addS rfl rfl rfl ?_) ?_
  · (show List.length _ + List.length _ ≤ _; simp; omega)
  refine WL.r 1 hs9 [] rfl (WL.nil (WC.region (WL.r 1 hs9 [] rfl (WL.val rfl rfl rfl (Run.quo rfl rfl rfl ?_ ?_ ?_) ?_))))
  · omega
  · omega
  · omega
  refine WL.r 1 hs9 [] rfl (WL.nil (ibN (tkN (⟨sbF rfl, (hs9.drop (by repeat (first | exact List.Sublist.refl _ | exact List.sublist_append_left _ _ | exact List.Sublist.trans (List.sublist_append_left _ _) (List.sublist_append_left _ _) | apply List.Sublist.cons | refine List.Sublist.trans ?_ (sR _)))), _, ?_, (d - 1), (n / 10), (ub (48 + ((n % 10 : Nat) : Int)) :: z), rfl, ?_, ?_, ?_, ?_, ⟨?_, ?_, trivial⟩⟩))))
  · omega
  · exact (digB_step (f := d) (n := n) (a := z) p0 (by omega)).1
  · exact p1.trans (digB_step (f := d) (n := n) (a := z) p0 (by omega)).2
  · exact digB_room p0 (by omega) p2
  · omega
  · (refine congrArg some (congrArg (Value.int _) ?_); omega)
  · (refine congrArg some (congrArg Value.string ?_); first | rfl | exact ByteArray.ext (by simp))
 refine WC.exit (hK4 _ _ (WC.sr (WL.r 1 hs5 [] rfl ?_)))
 refine WL.val rfl rfl rfl (Run.addS rfl rfl rfl ?_) ?_
 · (show List.length _ + List.length _ ≤ _; simp; omega)
 refine WL.r 1 hs5 [] rfl (WL.nil (WC.ret (rtv rfl rfl hs5 ?_)))
 rw [show markText k = ⟨(109 :: z).toArray⟩ from by unfold markText; rw [if_neg (by omega), p1, show n = 0 by omega, digB_zero]]; first | rfl | (congr 1; exact ByteArray.ext (by simp))
end Go.Proofs.YtcpnlodkmkfplaaGreatDoor
