/-
  The statement: for every input the law returns true. No condition. (And what it stands on, the last part.)
-/
import Derived.Test.YtpbflopkkfihaaaDoorKP3
namespace Go.Proofs.YtpbflopkkfihaaaDoor
open Go Go.RowKit
set_option linter.unusedVariables false
set_option linter.unusedSimpArgs false
set_option maxHeartbeats 8000000 in
theorem k48_ (A_s : Option Addr) (n_s c_s : Nat) (s : List UInt8) (w : World) (f_s : SlF encB w A_s n_s s) (ht : TabOk w) :
    Calls Tryd.prog 3 #[.slice A_s n_s c_s] w fun e w' => e = .returned (.bool true) ∧ St w [] [] w' := by
 have hbl := f_s.len
 refine enter 185 Tryd.func3 rfl Tryd.ntmps3 rfl rfl ?_
 have hs1 := St.init w
 refine WC.r1 hs1 [] rfl (WC.seq (fun K2 hK2 => WC.r1 hs1 [] rfl ?_))
 refine WC.cq rfl (fun h3 qh3 => ?_) (fun h3 qh3 => ?_)
 ·refine WC.r1 hs1 [] rfl (WC.ret (tkR ?_))
  clear hK2
  refine rtv rfl rfl hs1 ?_
  rfl
 have hn : n_s ≤ 1048576 := by have h9 := h3; simp at h9; omega
 refine WC.skip (hK2 _ _ (WC.sr (WL.r 1 hs1 [] rfl ?_)))
 refine WL.cl Tryd.call5 rfl (k38_ _ _ _ _ _ (SlF.st0 f_s hs1) ?_) ?_
 · first | assumption | rfl | omega | exact tab_st ht (by assumption) | exact ⟨Nat.zero_le _, Nat.zero_le _⟩ | (simp; first | done | omega)
 rintro _ whs4 ⟨A5, c6, zs7, L1_8, rfl, hs4, ho9, hzl10⟩
 replace hs4 := hs1.callF hs4
 refine ⟨_, rfl, ?_⟩
 have hzl9 := hzl10
 refine WL.r 1 hs4 [] rfl (WL.nil (WC.sr (WL.r 2 hs4 [] rfl (WL.val rfl rfl rfl (Run.quo rfl rfl rfl ?_ ?_ ?_) ?_))))
 · omega
 · omega
 · omega
 refine WL.r 1 hs4 [] rfl (WL.nil (WC.sr ?_))
 refine WL.val rfl rfl rfl (Run.build rfl rfl rfl rfl (built_26)) (WL.r 1 hs4 [] rfl ?_)
 refine WL.cl Tryd.call6 rfl (k39_ ⟨_, _, ⟨_, _, _, _⟩, ⟨_, _, _, _⟩⟩ _ _ _ _ _ ⟨(SlF.nil _ _), (by first | assumption | omega | simp), (by first | assumption | omega | (simp; omega) | simp), (SlF.nil _ _), (by first | assumption | omega | simp), (by first | assumption | omega | (simp; omega) | simp)⟩ (SlF.ofOwn ho9 (hs4.ow L1_8)) ?_ ?_) ?_
 iterate 2 focus first | assumption | rfl | omega | exact tab_st ht (by assumption) | exact ⟨Nat.zero_le _, Nat.zero_le _⟩ | (simp; first | done | omega)
 rintro _ whs11 ⟨r0_12, L0_13, A1_14, c1_15, x1_16, L1_17, rfl, hs11, ho18, ho19, hd0_20, hd1_21⟩
 replace hs11 := hs4.callF hs11
 refine ⟨_, rfl, ?_⟩
 replace hs11 := St.assoc hs11
 have hVP : r0_12.dat = (vpParse vp0 zs7).1 := hd0_20.trans (congrArg (·.1) vpBytes_vp0)
 have hLP : x1_16.map ActR.dat = (vpParse vp0 zs7).2 := hd1_21.trans (congrArg (·.2) vpBytes_vp0)
 have hOP : vpOk r0_12.dat = true := by rw [hVP]; exact vpParse_ok rfl
 have hlP := vpOk_len hOP
 have hsBP : smVp 549755813888 r0_12.dat := ⟨by omega, by omega⟩
 have hsMP : smVp 1048576 r0_12.dat := ⟨by omega, by omega⟩
 have hzP : r0_12.Args.xs.length = r0_12.Args.n := (ownVpR.ok (B := 549755813888) ho18 (hs11.ow L0_13) hsBP).Args.len
 have hyP : r0_12.Args.xs.length ≤ 8 := hlP.1
 have hsAP : ∀ y, y ∈ x1_16.map ActR.dat → smAct 549755813888 y := by rw [hLP]; exact acts_small rfl
 refine WL.r 3 hs11 [] rfl (WL.al hs11 Tryd.zeroValue26 rfl rfl (fun b22 _ hs23 => WL.st tbk hs23 0 rfl rfl (fun _ hs24 => WL.r 1 hs24 [] rfl (WL.nil (WC.sr ?_)))))
 refine WL.val rfl rfl rfl (Run.build rfl rfl rfl rfl (built_26)) (WL.r 2 hs24 [] rfl ?_)
 have hc_ := OwnF.cap ho9
 refine WL.val rfl rfl rfl (Run.sliceH ((zs7.length / 2)) Tryd.runUnderlying22 Tryd.sizeOf5 rfl rfl rfl ?_ ?_) ?_
 · first | rfl | (omega)
 · refine ⟨?_, ?_, ?_⟩ <;> (omega)
 refine WL.cl Tryd.call6 rfl (k39_ ⟨_, _, ⟨_, _, _, _⟩, ⟨_, _, _, _⟩⟩ _ _ _ _ _ ⟨(SlF.nil _ _), (by first | assumption | omega | simp), (by first | assumption | omega | (simp; omega) | simp), (SlF.nil _ _), (by first | assumption | omega | simp), (by first | assumption | omega | (simp; omega) | simp)⟩ (SlF.cutH ((zs7.length / 2)) (SlF.ofOwn ho9 (hs24.ow L1_8)) (by refine ⟨?_, ?_, ?_⟩ <;> (omega))) ?_ ?_) ?_
 iterate 2 focus first | assumption | rfl | omega | exact tab_st ht (by assumption) | exact ⟨Nat.zero_le _, Nat.zero_le _⟩ | (simp; first | done | omega)
 rintro _ whs25 ⟨r0_26, L0_27, A1_28, c1_29, x1_30, L1_31, rfl, hs25, ho32, ho33, hd0_34, hd1_35⟩
 replace hs25 := hs24.callF hs25
 refine ⟨_, rfl, ?_⟩
 replace hs25 := St.assoc hs25
 replace hs25 := St.back2 [_] hs25
 have hVQ : r0_26.dat = (vpParse vp0 (zs7.take (zs7.length / 2))).1 := hd0_34.trans ((congrArg (·.1) vpBytes_vp0).trans (congrArg (fun z => (vpParse vp0 z).1) (by simp)))
 have hLQ : x1_30.map ActR.dat = (vpParse vp0 (zs7.take (zs7.length / 2))).2 := hd1_35.trans ((congrArg (·.2) vpBytes_vp0).trans (congrArg (fun z => (vpParse vp0 z).2) (by simp)))
 have hOQ : vpOk r0_26.dat = true := by rw [hVQ]; exact vpParse_ok rfl
 have hlQ := vpOk_len hOQ
 have hsBQ : smVp 549755813888 r0_26.dat := ⟨by omega, by omega⟩
 have hsMQ : smVp 1048576 r0_26.dat := ⟨by omega, by omega⟩
 have hzQ : r0_26.Args.xs.length = r0_26.Args.n := (ownVpR.ok (B := 549755813888) ho32 (hs25.ow L0_27) hsBQ).Args.len
 have hyQ : r0_26.Args.xs.length ≤ 8 := hlQ.1
 have hsAQ : ∀ y, y ∈ x1_30.map ActR.dat → smAct 549755813888 y := by rw [hLQ]; exact acts_small rfl
 refine WL.r 3 hs25 [] rfl (WL.al hs25 Tryd.zeroValue26 rfl rfl (fun b36 _ hs37 => WL.st tbk hs37 0 rfl rfl (fun _ hs38 => WL.r 1 hs38 [] rfl (WL.nil (WC.seq (fun K39 hK39 => WC.rG 9 hs38 hs38 hs38 (fun _ hs40 => ?_)))))))
 refine WG.rn [0, 1, 2] hs40 [0] rfl rfl ?_
 have hc_ := OwnF.cap ho9
 refine WG.tk 3 rfl (by kernel_rfl) rfl rfl rfl hs40 (fun w_ hs_ => (Run.sliceL ((zs7.length / 2)) Tryd.runUnderlying22 Tryd.sizeOf5 rfl rfl rfl ?_ ?_)) ?_
 · first | rfl | (omega)
 · refine ⟨?_, ?_, ?_⟩ <;> (omega)
 refine WG.all [4, 8] (by kernel_rfl) rfl (WGs.cons (i := 4) rfl rfl ?_ (WGs.cons (i := 8) rfl rfl ?_ WGs.nil))
 ·refine WL.cl Tryd.call6 rfl (k39_ r0_26 _ _ _ _ _ (ownVpR.ok (B := 549755813888) ho32 (hs40.ow L0_27) hsBQ) (SlF.cutL ((zs7.length / 2)) (SlF.ofOwn ho9 (hs40.ow L1_8)) (by refine ⟨?_, ?_, ?_⟩ <;> (omega))) ?_ ?_) ?_
  iterate 2 focus first | assumption | rfl | omega | exact tab_st ht (by assumption) | exact ⟨Nat.zero_le _, Nat.zero_le _⟩ | (simp; first | done | omega)
  rintro _ whs41 ⟨r0_42, L0_43, A1_44, c1_45, x1_46, L1_47, rfl, hs41, ho48, ho49, hd0_50, hd1_51⟩
  replace hs41 := hs40.callF hs41
  refine ⟨_, rfl, ?_⟩
  replace hs41 := St.assoc hs41
  replace hs41 := St.back2 [_, _] hs41
  have hok9 : vpOk r0_26.dat = true := by rw [hVQ]; exact vpParse_ok rfl
  have hVR : r0_42.dat = (vpParse (vpParse vp0 (zs7.take (zs7.length / 2))).1 (zs7.drop (zs7.length / 2))).1 := by rw [hd0_50, vpBytes_ok hok9, hVQ]; try (congr 2; simp [List.take_of_length_le])
  have hLR : x1_46.map ActR.dat = (vpParse (vpParse vp0 (zs7.take (zs7.length / 2))).1 (zs7.drop (zs7.length / 2))).2 := by rw [hd1_51, vpBytes_ok hok9, hVQ]; try (congr 2; simp [List.take_of_length_le])
  have hOR : vpOk r0_42.dat = true := by rw [hVR]; exact vpParse_ok (vpParse_ok rfl)
  have hlR := vpOk_len hOR
  have hsBR : smVp 549755813888 r0_42.dat := ⟨by omega, by omega⟩
  have hsMR : smVp 1048576 r0_42.dat := ⟨by omega, by omega⟩
  have hzR : r0_42.Args.xs.length = r0_42.Args.n := (ownVpR.ok (B := 549755813888) ho48 (hs41.ow L0_43) hsBR).Args.len
  have hyR : r0_42.Args.xs.length ≤ 8 := hlR.1
  have hsAR : ∀ y, y ∈ x1_46.map ActR.dat → smAct 549755813888 y := by rw [hLR]; exact acts_small (vpParse_ok rfl)
  have hPR : r0_12.dat = r0_42.dat := by rw [hVP, hVR, halves zs7 (zs7.length / 2)]
  have hXX : (x1_30 ++ x1_46).map ActR.dat = x1_16.map ActR.dat := by rw [List.map_append, hLP, hLQ, hLR, halves zs7 (zs7.length / 2)]
  have e1 : r0_12.State = r0_42.State := congrArg VpD.State hPR
  have e2 : r0_12.Mark = r0_42.Mark := congrArg VpD.Mark hPR
  have e3 : r0_12.Part.xs = r0_42.Part.xs := congrArg VpD.Part hPR
  have e4 : r0_12.Args.xs = r0_42.Args.xs := congrArg VpD.Args hPR
  have e5 : x1_30.length + x1_46.length = x1_16.length := by have h9 := congrArg List.length hXX; simpa using h9
  have e5b : (x1_16.length : Int) = x1_30.length + x1_46.length := by omega
  have hxl : x1_16.length ≤ 300 := by have h9 := congrArg List.length hLP; rw [List.length_map] at h9; have h8 := vpParse_len (v := vp0) (l := zs7); omega
  have hsC : ∀ y, y ∈ (x1_30 ++ x1_46).map ActR.dat → smAct 549755813888 y := by rw [hXX]; exact hsAP
  refine WL.nil ⟨((hs41.rm L0_43).rm L1_47), WG.rn [5, 6, 7] ((hs41.rm L0_43).rm L1_47) [] rfl rfl (WG.o1 8 rfl rfl (WL.al hs41 Tryd.zeroValue26 rfl rfl (fun b52 _ hs53 => WL.nil ⟨((hs53.d1.rm L0_43).rm L1_47), WG.oK rfl (WL.st tbk hs53 0 rfl rfl (fun _ hs54 => WL.nil ⟨((hs54.d1.rm L0_43).rm L1_47), ?_⟩))⟩)))⟩
  refine WH.rn [10] ((hs54.d1.rm L0_43).rm L1_47) [] rfl rfl (WH.dn (hK39 _ _ (WC.seq (fun K55 hK55 => WC.sr (WL.r 6 hs54 [2, 0] rfl (WL.pO tbk 5 Acts.nil hs54 [2, 0] rfl rfl rfl rfl (fun g_ => ⟨rfl, rfl, trivial⟩) (WL.r 1 hs54 [] rfl ?_)))))))
  apply WL.gO 7 Acts.nil hs54 rfl
  ·intro g56 J57
   have qg56 := g56
   try simp only [bf, within_iff, within_not] at qg56
   refine WL.runA tbk 2 (Acts.nil.cons (j := 12) rfl g56) hs54 [2] rfl ⟨rfl, trivial⟩ (WL.val (wantF rfl g56) rfl rfl (Run.strOf (ownVpR.ok (B := 549755813888) ho18 (hs54.ow L0_13) hsBP).Part Tryd.underlying22 Tryd.underlying5 Tryd.underlying9 rfl rfl) (WL.runA tbk 2 (Acts.nil.cons (j := 12) rfl g56) hs54 [0] rfl ⟨rfl, trivial⟩ (WL.val (wantF rfl g56) rfl rfl (Run.strOf (ownVpR.ok (B := 549755813888) ho48 (hs54.ow L0_43) hsBR).Part Tryd.underlying22 Tryd.underlying5 Tryd.underlying9 rfl rfl) (WL.runA tbk 1 (Acts.nil.cons (j := 12) rfl g56) hs54 [] rfl trivial (WL.eO 7 Acts.nil J57 hs54 g56 rfl rfl)))))
  intro _ hs58
  refine WL.r 1 hs58 [] rfl ?_
  apply WL.gO 6 Acts.nil hs58 rfl
  ·intro g59 J60
   have qg59 := g59
   try simp only [bf, within_iff, within_not] at qg59
   refine WL.runA tbk 4 (Acts.nil.cons (j := 21) rfl g59) hs58 [2, 0] rfl ⟨rfl, rfl, trivial⟩ (WL.call (wantF rfl g59) rfl rfl (Run.call Tryd.call7 rfl rfl rfl) (k40_ _ _ _ _ _ _ _ _ _ (ownVpR.ok (B := 549755813888) ho18 (hs58.ow L0_13) hsBP).Args (ownVpR.ok (B := 549755813888) ho48 (hs58.ow L0_43) hsBR).Args ?_ ?_) ?_)
   iterate 2 focus first | assumption | rfl | omega | exact tab_st ht (by assumption) | exact ⟨Nat.zero_le _, Nat.zero_le _⟩ | (simp; first | done | omega)
   rintro _ whs61 ⟨rfl, hs61⟩
   replace hs61 := hs58.call0 hs61
   refine ⟨_, rfl, WL.runA tbk 1 (Acts.nil.cons (j := 21) rfl g59) hs61 [] rfl trivial (WL.eO 6 Acts.nil J60 hs61 g59 rfl rfl)⟩
  intro _ hs62
  refine WL.r 1 hs62 [] rfl ?_
  refine WL.pO tbk 8 Acts.nil hs62 [] rfl rfl rfl rfl (fun g_ => by (try simp only [bf, within_iff, within_not] at g_); exact ⟨by omega, trivial⟩) (WL.r 1 hs62 [] rfl ?_)
  apply WL.gO 3 Acts.nil hs62 rfl
  ·intro g63 J64
   have qg63 := g63
   try simp only [bf, within_iff, within_not] at qg63
   refine WL.runA tbk 1 (Acts.nil.cons (j := 39) rfl g63) hs62 [2] rfl ⟨rfl, trivial⟩ (WL.call (wantF rfl g63) rfl rfl (Run.call Tryd.call8 rfl rfl rfl) (k22_ r0_12 _ (ownVpR.ok (B := 549755813888) ho18 (hs62.ow L0_13) hsBP)) ?_)
   rintro _ whs65 ⟨rfl, hs65⟩
   replace hs65 := hs62.call0 hs65
   refine ⟨_, rfl, WL.runA tbk 1 (Acts.nil.cons (j := 39) rfl g63) hs65 [] rfl trivial (WL.eO 3 Acts.nil J64 hs65 g63 rfl rfl)⟩
  intro _ hs66
  refine WL.nil ?_
  refine WC.condF rfl (by first | (simp [e1, e2, e3, e4, e5b, hOP]; done) | grind) (WC.skip (hK55 _ _ (WC.sr (WL.r 1 hs66 [] rfl ?_))))
  refine WL.cl Tryd.call9 rfl (k37_ _ _ _ _ _ (SlF.st0 f_s hs66) ?_) ?_
  · first | assumption | rfl | omega | exact tab_st ht (by assumption) | exact ⟨Nat.zero_le _, Nat.zero_le _⟩ | (simp; first | done | omega)
  rintro _ whs68 ⟨r69, L1_70, rfl, hs68, ho71, hm72⟩
  replace hs68 := hs66.callF hs68
  refine ⟨_, rfl, ?_⟩
  replace hs68 := St.back [_, _, _] hs68
  have hma := hm72
  have hma8 := (areArgs_iff.1 (actOk_args hma)).1
  have hsra : smAct 549755813888 r69.dat := Nat.le_trans hma8 (by decide)
  have hzra : r69.Args.xs.length ≤ 1048576 := Nat.le_trans hma8 (by decide)
  refine WL.al hs68 Tryd.zeroValue33 rfl rfl (fun b73 _ hs74 => WL.st tbk hs74 0 rfl rfl (fun _ hs75 => WL.nil (WC.sr (WL.r 1 hs75 [0] rfl ?_))))
  refine WL.cl Tryd.call10 rfl (k47_ r69 _ (ownActR.ok (B := 549755813888) ho71 (hs75.ow L1_70) (by assumption)) ?_ ?_) ?_
  iterate 2 focus first | assumption | rfl | omega | exact tab_st ht (by assumption) | exact ⟨Nat.zero_le _, Nat.zero_le _⟩ | (simp; first | done | omega)
  rintro _ whs76 ⟨rfl, hs76⟩
  replace hs76 := hs75.call0 hs76
  refine ⟨_, rfl, ?_⟩
  have hab9 : (actT r69.dat).data.toList.length ≤ 1048576 := Nat.le_trans (actT_len hma) (by decide)
  have hab8 := actT_size hma
  refine WL.r 1 hs76 [] rfl (WL.nil (WC.sr ?_))
  refine WL.val rfl rfl rfl (Run.build rfl rfl rfl rfl (built_26)) (WL.r 1 hs76 [] rfl (WL.bytesOf hs76 Tryd.underlying9 Tryd.underlying22 Tryd.underlying5 rfl rfl rfl rfl rfl ?_ (fun A80 c81 L77 whs78 hs78 ho79 => ?_)))
  · omega
  replace hs78 := St.back [_, _, _, _] hs78
  refine WL.cl Tryd.call6 rfl (k39_ ⟨_, _, ⟨_, _, _, _⟩, ⟨_, _, _, _⟩⟩ _ _ _ _ _ ⟨(SlF.nil _ _), (by first | assumption | omega | simp), (by first | assumption | omega | (simp; omega) | simp), (SlF.nil _ _), (by first | assumption | omega | simp), (by first | assumption | omega | (simp; omega) | simp)⟩ (SlF.ofOwn ho79 (hs78.ow L77)) ?_ ?_) ?_
  iterate 2 focus first | assumption | rfl | omega | exact tab_st ht (by assumption) | exact ⟨Nat.zero_le _, Nat.zero_le _⟩ | (simp; first | done | omega)
  rintro _ whs82 ⟨r0_83, L0_84, A1_85, c1_86, x1_87, L1_88, rfl, hs82, ho89, ho90, hd0_91, hd1_92⟩
  replace hs82 := hs78.callF hs82
  refine ⟨_, rfl, ?_⟩
  replace hs82 := St.assoc hs82
  replace hs82 := St.back2 [_, _, _, _] hs82
  have hVL : r0_83.dat = (vpParse vp0 (actBy r69.dat)).1 := hd0_91.trans ((congrArg (·.1) vpBytes_vp0).trans (congrArg (fun z => (vpParse vp0 z).1) (actT_bytes hma)))
  have hLL : x1_87.map ActR.dat = (vpParse vp0 (actBy r69.dat)).2 := hd1_92.trans ((congrArg (·.2) vpBytes_vp0).trans (congrArg (fun z => (vpParse vp0 z).2) (actT_bytes hma)))
  have hOL : vpOk r0_83.dat = true := by rw [hVL]; exact vpParse_ok rfl
  have hlL := vpOk_len hOL
  have hsBL : smVp 549755813888 r0_83.dat := ⟨by omega, by omega⟩
  have hsML : smVp 1048576 r0_83.dat := ⟨by omega, by omega⟩
  have hzL : r0_83.Args.xs.length = r0_83.Args.n := (ownVpR.ok (B := 549755813888) ho89 (hs82.ow L0_84) hsBL).Args.len
  have hyL : r0_83.Args.xs.length ≤ 8 := hlL.1
  have hsAL : ∀ y, y ∈ x1_87.map ActR.dat → smAct 549755813888 y := by rw [hLL]; exact acts_small rfl
  have hone : x1_87.map ActR.dat = [r69.dat] := hLL.trans (actT_back hma).1
  have f1 : x1_87.length = 1 := by have h9 := congrArg List.length hone; simpa using h9
  have f2 : (gat encActR x1_87 0).dat = r69.dat := by have h9 : (gat encActR x1_87 0).dat ∈ x1_87.map ActR.dat := List.mem_map_of_mem (gat_mem (F := encActR) (by omega)); rw [hone, List.mem_singleton] at h9; exact h9
  have f3 : (gat encActR x1_87 0).Kind = r69.Kind := congrArg ActD.Kind f2
  have f4 : (gat encActR x1_87 0).R = r69.R := congrArg ActD.R f2
  have f5 : (gat encActR x1_87 0).Mark = r69.Mark := congrArg ActD.Mark f2
  have f6 : (gat encActR x1_87 0).Args.xs = r69.Args.xs := congrArg ActD.Args f2
  have f7 := actT_ne hma
  have hg0 := (SlN.nth (OwnN.ok ho90 (hs82.ow L1_88) (fun y Li hy h3 hl => h3.ok hl (by have h9_ := List.mem_map_of_mem (f := ActR.dat) hy; first | exact hsAP _ h9_ | exact hsAQ _ h9_ | exact hsAR _ h9_ | exact hsC _ h9_ | exact hsAL _ h9_))) (show 0 < x1_87.length by omega)).Args.len
  have hg9 : (gat encActR x1_87 0).Args.n ≤ 8 := by rw [← hg0, f6]; exact hma8
  refine WL.r 3 hs82 [] rfl (WL.al hs82 Tryd.zeroValue26 rfl rfl (fun b93 _ hs94 => WL.st tbk hs94 0 rfl rfl (fun _ hs95 => WL.r 1 hs95 [] rfl (WL.nil (WC.seq (fun K96 hK96 => WC.sq1 hs95 (WQ.r 3 [] rfl ?_)))))))
  refine WQ.pO tbk 3 Acts.nil [] rfl rfl rfl rfl (fun g_ => trivial) (WQ.r 1 [] rfl ?_)
  apply WQ.gO 7 Acts.nil rfl
  ·intro g97 J98
   have qg97 := g97
   try simp only [bf, within_iff, within_not] at qg97
   refine WQ.runA tbk 1 (Acts.nil.cons (j := 7) rfl g97) [] rfl trivial ?_
   refine WQ.val (wantF rfl g97) rfl rfl (fun w_ hs_ => (Run.idxK (0) Tryd.runUnderlying27 Tryd.sizeOf33 rfl rfl rfl ?_ ?_ ?_)) ?_
   · exact SlF.some_ (OwnN.sl ho90 ((hs_ : St _ _ _ _).ow L1_88))
   · first | omega | (simp only [List.length_append]; omega)
   · first | omega | (simp only [List.length_append]; omega)
   refine WQ.val (wantF rfl g97) rfl rfl (fun w_ hs_ => (Run.fieldO Tryd.runUnderlying33 rfl rfl rfl Tryd.sizeOf3 rfl)) ?_
   refine WQ.val (wantF rfl g97) rfl rfl (fun w_ hs_ => (Run.load Tryd.isAgg3 rfl rfl (SlF.fld (OwnN.sl ho90 ((hs_ : St _ _ _ _).ow L1_88)) ?_ rfl))) ?_
   · first | omega | (simp only [List.length_append]; omega)
   refine WQ.runA tbk 3 (Acts.nil.cons (j := 7) rfl g97) [1] rfl ⟨rfl, trivial⟩ (WQ.eO 7 Acts.nil J98 g97 rfl rfl)
  refine WQ.r 1 [] rfl ?_
  apply WQ.gO 7 Acts.nil rfl
  ·intro g99 J100
   have qg99 := g99
   try simp only [bf, within_iff, within_not] at qg99
   refine WQ.runA tbk 1 (Acts.nil.cons (j := 16) rfl g99) [] rfl trivial ?_
   refine WQ.val (wantF rfl g99) rfl rfl (fun w_ hs_ => (Run.idxK (0) Tryd.runUnderlying27 Tryd.sizeOf33 rfl rfl rfl ?_ ?_ ?_)) ?_
   · exact SlF.some_ (OwnN.sl ho90 ((hs_ : St _ _ _ _).ow L1_88))
   · first | omega | (simp only [List.length_append]; omega)
   · first | omega | (simp only [List.length_append]; omega)
   refine WQ.val (wantF rfl g99) rfl rfl (fun w_ hs_ => (Run.fieldO Tryd.runUnderlying33 rfl rfl rfl Tryd.sizeOf3 rfl)) ?_
   refine WQ.val (wantF rfl g99) rfl rfl (fun w_ hs_ => (Run.load Tryd.isAgg3 rfl rfl (SlF.fld (OwnN.sl ho90 ((hs_ : St _ _ _ _).ow L1_88)) ?_ rfl))) ?_
   · first | omega | (simp only [List.length_append]; omega)
   refine WQ.runA tbk 3 (Acts.nil.cons (j := 16) rfl g99) [1] rfl ⟨rfl, trivial⟩ (WQ.eO 7 Acts.nil J100 g99 rfl rfl)
  refine WQ.r 1 [] rfl ?_
  apply WQ.gO 7 Acts.nil rfl
  ·intro g101 J102
   have qg101 := g101
   try simp only [bf, within_iff, within_not] at qg101
   refine WQ.runA tbk 1 (Acts.nil.cons (j := 25) rfl g101) [] rfl trivial ?_
   refine WQ.val (wantF rfl g101) rfl rfl (fun w_ hs_ => (Run.idxK (0) Tryd.runUnderlying27 Tryd.sizeOf33 rfl rfl rfl ?_ ?_ ?_)) ?_
   · exact SlF.some_ (OwnN.sl ho90 ((hs_ : St _ _ _ _).ow L1_88))
   · first | omega | (simp only [List.length_append]; omega)
   · first | omega | (simp only [List.length_append]; omega)
   refine WQ.val (wantF rfl g101) rfl rfl (fun w_ hs_ => (Run.fieldO Tryd.runUnderlying33 rfl rfl rfl Tryd.sizeOf4 rfl)) ?_
   refine WQ.val (wantF rfl g101) rfl rfl (fun w_ hs_ => (Run.load Tryd.isAgg4 rfl rfl (SlF.fld (OwnN.sl ho90 ((hs_ : St _ _ _ _).ow L1_88)) ?_ rfl))) ?_
   · first | omega | (simp only [List.length_append]; omega)
   refine WQ.runA tbk 3 (Acts.nil.cons (j := 25) rfl g101) [1] rfl ⟨rfl, trivial⟩ (WQ.eO 7 Acts.nil J102 g101 rfl rfl)
  refine WQ.r 1 [] rfl ?_
  apply WQ.gO 8 Acts.nil rfl
  ·intro g103 J104
   have qg103 := g103
   try simp only [bf, within_iff, within_not] at qg103
   refine WQ.runA tbk 1 (Acts.nil.cons (j := 34) rfl g103) [] rfl trivial ?_
   refine WQ.val (wantF rfl g103) rfl rfl (fun w_ hs_ => (Run.idxK (0) Tryd.runUnderlying27 Tryd.sizeOf33 rfl rfl rfl ?_ ?_ ?_)) ?_
   · exact SlF.some_ (OwnN.sl ho90 ((hs_ : St _ _ _ _).ow L1_88))
   · first | omega | (simp only [List.length_append]; omega)
   · first | omega | (simp only [List.length_append]; omega)
   refine WQ.val (wantF rfl g103) rfl rfl (fun w_ hs_ => (Run.fieldO Tryd.runUnderlying33 rfl rfl rfl Tryd.sizeOf24 rfl)) ?_
   refine WQ.val (wantF rfl g103) rfl rfl (fun w_ hs_ => (Run.load Tryd.isAgg24 rfl rfl (SlF.fld (OwnN.sl ho90 ((hs_ : St _ _ _ _).ow L1_88)) ?_ rfl))) ?_
   · first | omega | (simp only [List.length_append]; omega)
   refine WQ.runA tbk 2 (Acts.nil.cons (j := 34) rfl g103) [1] rfl ⟨rfl, trivial⟩ ?_
   refine WQ.call (wantF rfl g103) rfl rfl (fun w_ hs_ => (Run.call Tryd.call7 rfl rfl rfl)) (fun w_ hs_ => (k40_ _ _ _ _ _ _ _ _ _ (SlN.nth (OwnN.ok ho90 ((hs_ : St _ _ _ _).ow L1_88) (fun y Li hy h3 hl => h3.ok hl (by have h9_ := List.mem_map_of_mem (f := ActR.dat) hy; first | exact hsAP _ h9_ | exact hsAQ _ h9_ | exact hsAR _ h9_ | exact hsC _ h9_ | exact hsAL _ h9_))) (by first | omega | (simp only [List.length_append]; omega))).Args (ownActR.ok (B := 549755813888) ho71 ((hs_ : St _ _ _ _).ow L1_70) (by assumption)).Args ?_ ?_).mono fun e_ w_ h_ => ⟨h_.1, (hs_ : St _ _ _ _).call0 h_.2⟩) ?_
   · first | assumption | rfl | omega
   · first | assumption | rfl | omega
   refine WQ.runA tbk 1 (Acts.nil.cons (j := 34) rfl g103) [] rfl trivial (WQ.eO 8 Acts.nil J104 g103 rfl rfl)
  refine WQ.nil (fun _ (hs105 : St _ _ _ _) => ?_)
  refine WC.condF rfl (by first | (simp [e1, e2, e3, e4, e5b, hOP, f1, f3, f4, f5, f6, f7]; done) | grind) (WC.skip (hK96 _ _ (WC.seq (fun K107 hK107 => WC.sr (WL.r 2 hs105 [] rfl ?_)))))
  obtain ⟨L108, L109, hs112, ho110, ho111⟩ := OwnN.open_ (hs105.fr L1_31) ho33
  have hs113 := (((((hs112.fb b22).fb b36).fb b52).fb b73).fb b93)
  obtain ⟨L114, L115, hs118, ho116, ho117⟩ := OwnN.open_ (hs113.fr L1_47) ho49
  have hs119 := (((((hs118.fb b22).fb b36).fb b52).fb b73).fb b93)
  refine WL.appendG (hs119.fr L108) ho110 (SlF.src (SlF.ofOwn ho116 (hs119.ow L114)) Tryd.underlying27) Tryd.underlying27 inf33 rfl rfl rfl rfl rfl rfl rfl rfl rfl rfl ?_ (fun A123 c124 L120 whs121 hs121 ho122 => ?_)
  · first | omega | (simp only [List.length_append]; omega)
  replace hs121 := St.back [_, _, _, _, _] hs121
  have hs125 := ((hs121.fr L115).fr L109)
  rw [← List.append_assoc L109 L115] at hs125
  have hs127 := (((((hs125.fb b22).fb b36).fb b52).fb b73).fb b93)
  obtain ⟨L129, hs128, ho130⟩ := OwnN.fold ((hs127.fr (L109 ++ L115)).fr L120) ho122 (Bag.append ho111 ho117)
  have hs131 := (((((hs128.fb b22).fb b36).fb b52).fb b73).fb b93)
  refine WL.r 2 hs131 [] rfl (WL.nil (WC.block (WC.lS [6, 19, 90, 145, 148, 149] rfl hs131 (fun k_ f w' => ∃ (i : Nat), k_ = x1_16.length - i ∧ (i ≤ x1_16.length) ∧ Sub [(150, .int .i64 i)] f) ((fun (i : Nat) => x1_16.length - i) (0)) ?_ ?_)))
  ·refine ⟨0, rfl, ?_, ⟨rfl, trivial⟩⟩
   · exact Nat.zero_le _
  clear hs131
  rintro _ f w ⟨i, rfl, p0, hG⟩ hF hs132
  refine WC.sub _ (hG.app hF) ?_
  clear hG hF
  refine WC.r1 hs132 [] rfl (WC.seq (fun K133 hK133 => ?_))
  refine WC.cq rfl (fun h134 qh134 => ?_) (fun h134 qh134 => ?_)
  ·have hil : i < x1_16.length := by have h9 := h134; simp at h9; omega
   have hgd := gat_dat (F := encActR) (i := i) hXX (by simp only [List.length_append]; omega)
   have d1 : (gat encActR (x1_30 ++ x1_46) i).Kind = (gat encActR x1_16 i).Kind := congrArg ActD.Kind hgd
   have d2 : (gat encActR (x1_30 ++ x1_46) i).R = (gat encActR x1_16 i).R := congrArg ActD.R hgd
   have d4 : (gat encActR (x1_30 ++ x1_46) i).Args.xs = (gat encActR x1_16 i).Args.xs := congrArg ActD.Args hgd
   have hgl := (SlN.nth (OwnN.ok ho130 (hs132.ow L129) (fun y Li hy h3 hl => h3.ok hl (by have h9_ := List.mem_map_of_mem (f := ActR.dat) hy; first | exact hsAP _ h9_ | exact hsAQ _ h9_ | exact hsAR _ h9_ | exact hsC _ h9_ | exact hsAL _ h9_))) (show i < (x1_30 ++ x1_46).length by simp only [List.length_append]; omega)).Args.len
   have hgm : (gat encActR (x1_30 ++ x1_46) i).dat.Args.length ≤ 549755813888 := hsC _ (List.mem_map_of_mem (gat_mem (F := encActR) (by simp only [List.length_append]; omega)))
   have hgx : (gat encActR (x1_30 ++ x1_46) i).Args.xs.length ≤ 8 := by have h9 : (gat encActR (x1_30 ++ x1_46) i).dat ∈ (x1_30 ++ x1_46).map ActR.dat := List.mem_map_of_mem (gat_mem (F := encActR) (by simp only [List.length_append]; omega)); rw [hXX, hLP] at h9; exact vpParse_act (v := vp0) rfl _ h9
   refine WC.skip (hK133 _ _ (WC.seq (fun K135 hK135 => WC.block (WC.sr (WL.r 1 hs132 [] rfl ?_)))))
   refine WL.val rfl rfl rfl (Run.idxN Tryd.runUnderlying27 Tryd.sizeOf33 rfl rfl rfl ?_ ?_ ?_) ?_
   · exact SlF.some_ (OwnN.sl ho130 (hs132.ow L129))
   · first | omega | (simp only [List.length_append]; omega)
   · first | omega | (simp only [List.length_append]; omega)
   refine WL.val rfl rfl rfl (Run.loadA Tryd.isAgg33 Tryd.sizeOf33 rfl rfl (SlF.whole (OwnN.sl ho130 (hs132.ow L129)) ?_)) ?_
   · first | omega | (simp only [List.length_append]; omega)
   refine WL.al hs132 Tryd.zeroValue33 rfl rfl (fun b136 _ hs137 => WL.r 1 hs137 [] rfl (WL.st tbk hs137 0 rfl rfl (fun _ hs138 => WL.nil (WC.sq1 hs138 (WQ.r 4 [0] rfl ?_)))))
   refine WQ.val rfl rfl rfl (fun w_ hs_ => (Run.idxN Tryd.runUnderlying27 Tryd.sizeOf33 rfl rfl rfl ?_ ?_ ?_)) ?_
   · exact SlF.some_ (OwnN.sl ho19 ((hs_ : St _ _ _ _).ow L1_17))
   · first | omega | (simp only [List.length_append]; omega)
   · first | omega | (simp only [List.length_append]; omega)
   refine WQ.val rfl rfl rfl (fun w_ hs_ => (Run.fieldO Tryd.runUnderlying33 rfl rfl rfl Tryd.sizeOf3 rfl)) ?_
   refine WQ.val rfl rfl rfl (fun w_ hs_ => (Run.load Tryd.isAgg3 rfl rfl (SlF.fld (OwnN.sl ho19 ((hs_ : St _ _ _ _).ow L1_17)) ?_ rfl))) ?_
   · first | omega | (simp only [List.length_append]; omega)
   refine WQ.r 2 [] rfl ?_
   apply WQ.gO 8 Acts.nil rfl
   ·intro g139 J140
    have qg139 := g139
    try simp only [bf, within_iff, within_not] at qg139
    refine WQ.runA tbk 4 (Acts.nil.cons (j := 8) rfl g139) [0] rfl ⟨rfl, trivial⟩ ?_
    refine WQ.val (wantF rfl g139) rfl rfl (fun w_ hs_ => (Run.idxN Tryd.runUnderlying27 Tryd.sizeOf33 rfl rfl rfl ?_ ?_ ?_)) ?_
    · exact SlF.some_ (OwnN.sl ho19 ((hs_ : St _ _ _ _).ow L1_17))
    · first | omega | (simp only [List.length_append]; omega)
    · first | omega | (simp only [List.length_append]; omega)
    refine WQ.val (wantF rfl g139) rfl rfl (fun w_ hs_ => (Run.fieldO Tryd.runUnderlying33 rfl rfl rfl Tryd.sizeOf3 rfl)) ?_
    refine WQ.val (wantF rfl g139) rfl rfl (fun w_ hs_ => (Run.load Tryd.isAgg3 rfl rfl (SlF.fld (OwnN.sl ho19 ((hs_ : St _ _ _ _).ow L1_17)) ?_ rfl))) ?_
    · first | omega | (simp only [List.length_append]; omega)
    refine WQ.runA tbk 1 (Acts.nil.cons (j := 8) rfl g139) [] rfl trivial (WQ.eO 8 Acts.nil J140 g139 rfl rfl)
   refine WQ.r 1 [] rfl ?_
   apply WQ.gO 9 Acts.nil rfl
   ·intro g141 J142
    have qg141 := g141
    try simp only [bf, within_iff, within_not] at qg141
    refine WQ.runA tbk 4 (Acts.nil.cons (j := 18) rfl g141) [0] rfl ⟨rfl, trivial⟩ ?_
    refine WQ.val (wantF rfl g141) rfl rfl (fun w_ hs_ => (Run.idxN Tryd.runUnderlying27 Tryd.sizeOf33 rfl rfl rfl ?_ ?_ ?_)) ?_
    · exact SlF.some_ (OwnN.sl ho19 ((hs_ : St _ _ _ _).ow L1_17))
    · first | omega | (simp only [List.length_append]; omega)
    · first | omega | (simp only [List.length_append]; omega)
    refine WQ.val (wantF rfl g141) rfl rfl (fun w_ hs_ => (Run.fieldO Tryd.runUnderlying33 rfl rfl rfl Tryd.sizeOf24 rfl)) ?_
    refine WQ.val (wantF rfl g141) rfl rfl (fun w_ hs_ => (Run.load Tryd.isAgg24 rfl rfl (SlF.fld (OwnN.sl ho19 ((hs_ : St _ _ _ _).ow L1_17)) ?_ rfl))) ?_
    · first | omega | (simp only [List.length_append]; omega)
    refine WQ.call (wantF rfl g141) rfl rfl (fun w_ hs_ => (Run.call Tryd.call7 rfl rfl rfl)) (fun w_ hs_ => (k40_ _ _ _ _ _ _ _ _ _ (SlN.nth (OwnN.ok ho130 ((hs_ : St _ _ _ _).ow L129) (fun y Li hy h3 hl => h3.ok hl (by have h9_ := List.mem_map_of_mem (f := ActR.dat) hy; first | exact hsAP _ h9_ | exact hsAQ _ h9_ | exact hsAR _ h9_ | exact hsC _ h9_ | exact hsAL _ h9_))) (by first | omega | (simp only [List.length_append]; omega))).Args (SlN.nth (OwnN.ok ho19 ((hs_ : St _ _ _ _).ow L1_17) (fun y Li hy h3 hl => h3.ok hl (by have h9_ := List.mem_map_of_mem (f := ActR.dat) hy; first | exact hsAP _ h9_ | exact hsAQ _ h9_ | exact hsAR _ h9_ | exact hsC _ h9_ | exact hsAL _ h9_))) (by first | omega | (simp only [List.length_append]; omega))).Args ?_ ?_).mono fun e_ w_ h_ => ⟨h_.1, (hs_ : St _ _ _ _).call0 h_.2⟩) ?_
    · first | assumption | rfl | omega
    · first | assumption | rfl | omega
    refine WQ.runA tbk 1 (Acts.nil.cons (j := 18) rfl g141) [] rfl trivial (WQ.eO 9 Acts.nil J142 g141 rfl rfl)
   refine WQ.nil (fun _ (hs143 : St _ _ _ _) => ?_)
   refine WC.condF rfl (by first | (simp [e1, e2, e3, e4, e5b, hOP, f1, f3, f4, f5, f6, f7, d1, d2, d4]; done) | grind) (WC.skip (hK135 _ _ (WC.region (WL.r 2 hs143 [] rfl (WL.nil (tkN ?_))))))
   refine ⟨sbF rfl, (hs143.drop (by repeat (first | exact List.Sublist.refl _ | exact List.sublist_append_left _ _ | exact List.Sublist.trans (List.sublist_append_left _ _) (List.sublist_append_left _ _) | apply List.Sublist.cons | refine List.Sublist.trans ?_ (sR _)))), _, ?_, i + 1, rfl, ?_, ⟨rfl, trivial⟩⟩
   · omega
   · omega
  refine WC.exit (hK107 _ _ (WC.r1 hs132 [] rfl (WC.ret (rtv rfl rfl hs132 ?_))))
  rfl
 refine WL.al hs40 Tryd.zeroValue26 rfl rfl (fun b145 _ hs146 => WL.nil ⟨hs146.d1, WG.o1 4 rfl rfl ?_⟩)
 refine WL.cl Tryd.call6 rfl (k39_ r0_26 _ _ _ _ _ (ownVpR.ok (B := 549755813888) ho32 (hs146.ow L0_27) hsBQ) (SlF.cutL ((zs7.length / 2)) (SlF.ofOwn ho9 (hs146.ow L1_8)) (by refine ⟨?_, ?_, ?_⟩ <;> (omega))) ?_ ?_) ?_
 iterate 2 focus first | assumption | rfl | omega | exact tab_st ht (by assumption) | exact ⟨Nat.zero_le _, Nat.zero_le _⟩ | (simp; first | done | omega)
 rintro _ whs147 ⟨r0_148, L0_149, A1_150, c1_151, x1_152, L1_153, rfl, hs147, ho154, ho155, hd0_156, hd1_157⟩
 replace hs147 := hs146.callF hs147
 refine ⟨_, rfl, ?_⟩
 replace hs147 := St.assoc hs147
 replace hs147 := St.back2 [_, _, _] hs147
 have hok9 : vpOk r0_26.dat = true := by rw [hVQ]; exact vpParse_ok rfl
 have hVR : r0_148.dat = (vpParse (vpParse vp0 (zs7.take (zs7.length / 2))).1 (zs7.drop (zs7.length / 2))).1 := by rw [hd0_156, vpBytes_ok hok9, hVQ]; try (congr 2; simp [List.take_of_length_le])
 have hLR : x1_152.map ActR.dat = (vpParse (vpParse vp0 (zs7.take (zs7.length / 2))).1 (zs7.drop (zs7.length / 2))).2 := by rw [hd1_157, vpBytes_ok hok9, hVQ]; try (congr 2; simp [List.take_of_length_le])
 have hOR : vpOk r0_148.dat = true := by rw [hVR]; exact vpParse_ok (vpParse_ok rfl)
 have hlR := vpOk_len hOR
 have hsBR : smVp 549755813888 r0_148.dat := ⟨by omega, by omega⟩
 have hsMR : smVp 1048576 r0_148.dat := ⟨by omega, by omega⟩
 have hzR : r0_148.Args.xs.length = r0_148.Args.n := (ownVpR.ok (B := 549755813888) ho154 (hs147.ow L0_149) hsBR).Args.len
 have hyR : r0_148.Args.xs.length ≤ 8 := hlR.1
 have hsAR : ∀ y, y ∈ x1_152.map ActR.dat → smAct 549755813888 y := by rw [hLR]; exact acts_small (vpParse_ok rfl)
 have hPR : r0_12.dat = r0_148.dat := by rw [hVP, hVR, halves zs7 (zs7.length / 2)]
 have hXX : (x1_30 ++ x1_152).map ActR.dat = x1_16.map ActR.dat := by rw [List.map_append, hLP, hLQ, hLR, halves zs7 (zs7.length / 2)]
 have e1 : r0_12.State = r0_148.State := congrArg VpD.State hPR
 have e2 : r0_12.Mark = r0_148.Mark := congrArg VpD.Mark hPR
 have e3 : r0_12.Part.xs = r0_148.Part.xs := congrArg VpD.Part hPR
 have e4 : r0_12.Args.xs = r0_148.Args.xs := congrArg VpD.Args hPR
 have e5 : x1_30.length + x1_152.length = x1_16.length := by have h9 := congrArg List.length hXX; simpa using h9
 have e5b : (x1_16.length : Int) = x1_30.length + x1_152.length := by omega
 have hxl : x1_16.length ≤ 300 := by have h9 := congrArg List.length hLP; rw [List.length_map] at h9; have h8 := vpParse_len (v := vp0) (l := zs7); omega
 have hsC : ∀ y, y ∈ (x1_30 ++ x1_152).map ActR.dat → smAct 549755813888 y := by rw [hXX]; exact hsAP
 refine WL.nil ⟨((hs147.d1.rm L0_149).rm L1_153), WG.rn [5, 6, 7] ((hs147.d1.rm L0_149).rm L1_153) [] rfl rfl (WG.oK rfl (WL.st tbk hs147 0 rfl rfl (fun _ hs158 => WL.nil ⟨((hs158.d1.rm L0_149).rm L1_153), WH.rn [10] ((hs158.d1.rm L0_149).rm L1_153) [] rfl rfl (WH.dn (hK39 _ _ ?_))⟩)))⟩
 refine WC.seq (fun K159 hK159 => WC.sr (WL.r 6 hs158 [2, 0] rfl (WL.pO tbk 5 Acts.nil hs158 [2, 0] rfl rfl rfl rfl (fun g_ => ⟨rfl, rfl, trivial⟩) (WL.r 1 hs158 [] rfl ?_))))
 apply WL.gO 7 Acts.nil hs158 rfl
 ·intro g160 J161
  have qg160 := g160
  try simp only [bf, within_iff, within_not] at qg160
  refine WL.runA tbk 2 (Acts.nil.cons (j := 12) rfl g160) hs158 [2] rfl ⟨rfl, trivial⟩ (WL.val (wantF rfl g160) rfl rfl (Run.strOf (ownVpR.ok (B := 549755813888) ho18 (hs158.ow L0_13) hsBP).Part Tryd.underlying22 Tryd.underlying5 Tryd.underlying9 rfl rfl) (WL.runA tbk 2 (Acts.nil.cons (j := 12) rfl g160) hs158 [0] rfl ⟨rfl, trivial⟩ (WL.val (wantF rfl g160) rfl rfl (Run.strOf (ownVpR.ok (B := 549755813888) ho154 (hs158.ow L0_149) hsBR).Part Tryd.underlying22 Tryd.underlying5 Tryd.underlying9 rfl rfl) (WL.runA tbk 1 (Acts.nil.cons (j := 12) rfl g160) hs158 [] rfl trivial (WL.eO 7 Acts.nil J161 hs158 g160 rfl rfl)))))
 intro _ hs162
 refine WL.r 1 hs162 [] rfl ?_
 apply WL.gO 6 Acts.nil hs162 rfl
 ·intro g163 J164
  have qg163 := g163
  try simp only [bf, within_iff, within_not] at qg163
  refine WL.runA tbk 4 (Acts.nil.cons (j := 21) rfl g163) hs162 [2, 0] rfl ⟨rfl, rfl, trivial⟩ (WL.call (wantF rfl g163) rfl rfl (Run.call Tryd.call7 rfl rfl rfl) (k40_ _ _ _ _ _ _ _ _ _ (ownVpR.ok (B := 549755813888) ho18 (hs162.ow L0_13) hsBP).Args (ownVpR.ok (B := 549755813888) ho154 (hs162.ow L0_149) hsBR).Args ?_ ?_) ?_)
  iterate 2 focus first | assumption | rfl | omega | exact tab_st ht (by assumption) | exact ⟨Nat.zero_le _, Nat.zero_le _⟩ | (simp; first | done | omega)
  rintro _ whs165 ⟨rfl, hs165⟩
  replace hs165 := hs162.call0 hs165
  refine ⟨_, rfl, WL.runA tbk 1 (Acts.nil.cons (j := 21) rfl g163) hs165 [] rfl trivial (WL.eO 6 Acts.nil J164 hs165 g163 rfl rfl)⟩
 intro _ hs166
 refine WL.r 1 hs166 [] rfl ?_
 refine WL.pO tbk 8 Acts.nil hs166 [] rfl rfl rfl rfl (fun g_ => by (try simp only [bf, within_iff, within_not] at g_); exact ⟨by omega, trivial⟩) (WL.r 1 hs166 [] rfl ?_)
 apply WL.gO 3 Acts.nil hs166 rfl
 ·intro g167 J168
  have qg167 := g167
  try simp only [bf, within_iff, within_not] at qg167
  refine WL.runA tbk 1 (Acts.nil.cons (j := 39) rfl g167) hs166 [2] rfl ⟨rfl, trivial⟩ (WL.call (wantF rfl g167) rfl rfl (Run.call Tryd.call8 rfl rfl rfl) (k22_ r0_12 _ (ownVpR.ok (B := 549755813888) ho18 (hs166.ow L0_13) hsBP)) ?_)
  rintro _ whs169 ⟨rfl, hs169⟩
  replace hs169 := hs166.call0 hs169
  refine ⟨_, rfl, WL.runA tbk 1 (Acts.nil.cons (j := 39) rfl g167) hs169 [] rfl trivial (WL.eO 3 Acts.nil J168 hs169 g167 rfl rfl)⟩
 intro _ hs170
 refine WL.nil ?_
 refine WC.condF rfl (by first | (simp [e1, e2, e3, e4, e5b, hOP, f1, f3, f4, f5, f6, f7, d1, d2, d4, e1, e2, e3, e4, e5b, hOP]; done) | grind) (WC.skip (hK159 _ _ (WC.sr (WL.r 1 hs170 [] rfl ?_))))
 refine WL.cl Tryd.call9 rfl (k37_ _ _ _ _ _ (SlF.st0 f_s hs170) ?_) ?_
 · first | assumption | rfl | omega | exact tab_st ht (by assumption) | exact ⟨Nat.zero_le _, Nat.zero_le _⟩ | (simp; first | done | omega)
 rintro _ whs172 ⟨r173, L1_174, rfl, hs172, ho175, hm176⟩
 replace hs172 := hs170.callF hs172
 refine ⟨_, rfl, ?_⟩
 replace hs172 := St.back [_, _, _] hs172
 have hma := hm176
 have hma8 := (areArgs_iff.1 (actOk_args hma)).1
 have hsra : smAct 549755813888 r173.dat := Nat.le_trans hma8 (by decide)
 have hzra : r173.Args.xs.length ≤ 1048576 := Nat.le_trans hma8 (by decide)
 refine WL.al hs172 Tryd.zeroValue33 rfl rfl (fun b177 _ hs178 => WL.st tbk hs178 0 rfl rfl (fun _ hs179 => WL.nil (WC.sr (WL.r 1 hs179 [0] rfl ?_))))
 refine WL.cl Tryd.call10 rfl (k47_ r173 _ (ownActR.ok (B := 549755813888) ho175 (hs179.ow L1_174) (by assumption)) ?_ ?_) ?_
 iterate 2 focus first | assumption | rfl | omega | exact tab_st ht (by assumption) | exact ⟨Nat.zero_le _, Nat.zero_le _⟩ | (simp; first | done | omega)
 rintro _ whs180 ⟨rfl, hs180⟩
 replace hs180 := hs179.call0 hs180
 refine ⟨_, rfl, ?_⟩
 have hab9 : (actT r173.dat).data.toList.length ≤ 1048576 := Nat.le_trans (actT_len hma) (by decide)
 have hab8 := actT_size hma
 refine WL.r 1 hs180 [] rfl (WL.nil (WC.sr ?_))
 refine WL.val rfl rfl rfl (Run.build rfl rfl rfl rfl (built_26)) (WL.r 1 hs180 [] rfl (WL.bytesOf hs180 Tryd.underlying9 Tryd.underlying22 Tryd.underlying5 rfl rfl rfl rfl rfl ?_ (fun A184 c185 L181 whs182 hs182 ho183 => ?_)))
 · omega
 replace hs182 := St.back [_, _, _, _] hs182
 refine WL.cl Tryd.call6 rfl (k39_ ⟨_, _, ⟨_, _, _, _⟩, ⟨_, _, _, _⟩⟩ _ _ _ _ _ ⟨(SlF.nil _ _), (by first | assumption | omega | simp), (by first | assumption | omega | (simp; omega) | simp), (SlF.nil _ _), (by first | assumption | omega | simp), (by first | assumption | omega | (simp; omega) | simp)⟩ (SlF.ofOwn ho183 (hs182.ow L181)) ?_ ?_) ?_
 iterate 2 focus first | assumption | rfl | omega | exact tab_st ht (by assumption) | exact ⟨Nat.zero_le _, Nat.zero_le _⟩ | (simp; first | done | omega)
 rintro _ whs186 ⟨r0_187, L0_188, A1_189, c1_190, x1_191, L1_192, rfl, hs186, ho193, ho194, hd0_195, hd1_196⟩
 replace hs186 := hs182.callF hs186
 refine ⟨_, rfl, ?_⟩
 replace hs186 := St.assoc hs186
 replace hs186 := St.back2 [_, _, _, _] hs186
 have hVL : r0_187.dat = (vpParse vp0 (actBy r173.dat)).1 := hd0_195.trans ((congrArg (·.1) vpBytes_vp0).trans (congrArg (fun z => (vpParse vp0 z).1) (actT_bytes hma)))
 have hLL : x1_191.map ActR.dat = (vpParse vp0 (actBy r173.dat)).2 := hd1_196.trans ((congrArg (·.2) vpBytes_vp0).trans (congrArg (fun z => (vpParse vp0 z).2) (actT_bytes hma)))
 have hOL : vpOk r0_187.dat = true := by rw [hVL]; exact vpParse_ok rfl
 have hlL := vpOk_len hOL
 have hsBL : smVp 549755813888 r0_187.dat := ⟨by omega, by omega⟩
 have hsML : smVp 1048576 r0_187.dat := ⟨by omega, by omega⟩
 have hzL : r0_187.Args.xs.length = r0_187.Args.n := (ownVpR.ok (B := 549755813888) ho193 (hs186.ow L0_188) hsBL).Args.len
 have hyL : r0_187.Args.xs.length ≤ 8 := hlL.1
 have hsAL : ∀ y, y ∈ x1_191.map ActR.dat → smAct 549755813888 y := by rw [hLL]; exact acts_small rfl
 have hone : x1_191.map ActR.dat = [r173.dat] := hLL.trans (actT_back hma).1
 have f1 : x1_191.length = 1 := by have h9 := congrArg List.length hone; simpa using h9
 have f2 : (gat encActR x1_191 0).dat = r173.dat := by have h9 : (gat encActR x1_191 0).dat ∈ x1_191.map ActR.dat := List.mem_map_of_mem (gat_mem (F := encActR) (by omega)); rw [hone, List.mem_singleton] at h9; exact h9
 have f3 : (gat encActR x1_191 0).Kind = r173.Kind := congrArg ActD.Kind f2
 have f4 : (gat encActR x1_191 0).R = r173.R := congrArg ActD.R f2
 have f5 : (gat encActR x1_191 0).Mark = r173.Mark := congrArg ActD.Mark f2
 have f6 : (gat encActR x1_191 0).Args.xs = r173.Args.xs := congrArg ActD.Args f2
 have f7 := actT_ne hma
 have hg0 := (SlN.nth (OwnN.ok ho194 (hs186.ow L1_192) (fun y Li hy h3 hl => h3.ok hl (by have h9_ := List.mem_map_of_mem (f := ActR.dat) hy; first | exact hsAP _ h9_ | exact hsAQ _ h9_ | exact hsAR _ h9_ | exact hsC _ h9_ | exact hsAL _ h9_))) (show 0 < x1_191.length by omega)).Args.len
 have hg9 : (gat encActR x1_191 0).Args.n ≤ 8 := by rw [← hg0, f6]; exact hma8
 refine WL.r 3 hs186 [] rfl (WL.al hs186 Tryd.zeroValue26 rfl rfl (fun b197 _ hs198 => WL.st tbk hs198 0 rfl rfl (fun _ hs199 => WL.r 1 hs199 [] rfl (WL.nil (WC.seq (fun K200 hK200 => WC.sq1 hs199 (WQ.r 3 [] rfl ?_)))))))
 refine WQ.pO tbk 3 Acts.nil [] rfl rfl rfl rfl (fun g_ => trivial) (WQ.r 1 [] rfl ?_)
 apply WQ.gO 7 Acts.nil rfl
 ·intro g201 J202
  have qg201 := g201
  try simp only [bf, within_iff, within_not] at qg201
  refine WQ.runA tbk 1 (Acts.nil.cons (j := 7) rfl g201) [] rfl trivial ?_
  refine WQ.val (wantF rfl g201) rfl rfl (fun w_ hs_ => (Run.idxK (0) Tryd.runUnderlying27 Tryd.sizeOf33 rfl rfl rfl ?_ ?_ ?_)) ?_
  · exact SlF.some_ (OwnN.sl ho194 ((hs_ : St _ _ _ _).ow L1_192))
  · first | omega | (simp only [List.length_append]; omega)
  · first | omega | (simp only [List.length_append]; omega)
  refine WQ.val (wantF rfl g201) rfl rfl (fun w_ hs_ => (Run.fieldO Tryd.runUnderlying33 rfl rfl rfl Tryd.sizeOf3 rfl)) ?_
  refine WQ.val (wantF rfl g201) rfl rfl (fun w_ hs_ => (Run.load Tryd.isAgg3 rfl rfl (SlF.fld (OwnN.sl ho194 ((hs_ : St _ _ _ _).ow L1_192)) ?_ rfl))) ?_
  · first | omega | (simp only [List.length_append]; omega)
  refine WQ.runA tbk 3 (Acts.nil.cons (j := 7) rfl g201) [1] rfl ⟨rfl, trivial⟩ (WQ.eO 7 Acts.nil J202 g201 rfl rfl)
 refine WQ.r 1 [] rfl ?_
 apply WQ.gO 7 Acts.nil rfl
 ·intro g203 J204
  have qg203 := g203
  try simp only [bf, within_iff, within_not] at qg203
  refine WQ.runA tbk 1 (Acts.nil.cons (j := 16) rfl g203) [] rfl trivial ?_
  refine WQ.val (wantF rfl g203) rfl rfl (fun w_ hs_ => (Run.idxK (0) Tryd.runUnderlying27 Tryd.sizeOf33 rfl rfl rfl ?_ ?_ ?_)) ?_
  · exact SlF.some_ (OwnN.sl ho194 ((hs_ : St _ _ _ _).ow L1_192))
  · first | omega | (simp only [List.length_append]; omega)
  · first | omega | (simp only [List.length_append]; omega)
  refine WQ.val (wantF rfl g203) rfl rfl (fun w_ hs_ => (Run.fieldO Tryd.runUnderlying33 rfl rfl rfl Tryd.sizeOf3 rfl)) ?_
  refine WQ.val (wantF rfl g203) rfl rfl (fun w_ hs_ => (Run.load Tryd.isAgg3 rfl rfl (SlF.fld (OwnN.sl ho194 ((hs_ : St _ _ _ _).ow L1_192)) ?_ rfl))) ?_
  · first | omega | (simp only [List.length_append]; omega)
  refine WQ.runA tbk 3 (Acts.nil.cons (j := 16) rfl g203) [1] rfl ⟨rfl, trivial⟩ (WQ.eO 7 Acts.nil J204 g203 rfl rfl)
 refine WQ.r 1 [] rfl ?_
 apply WQ.gO 7 Acts.nil rfl
 ·intro g205 J206
  have qg205 := g205
  try simp only [bf, within_iff, within_not] at qg205
  refine WQ.runA tbk 1 (Acts.nil.cons (j := 25) rfl g205) [] rfl trivial ?_
  refine WQ.val (wantF rfl g205) rfl rfl (fun w_ hs_ => (Run.idxK (0) Tryd.runUnderlying27 Tryd.sizeOf33 rfl rfl rfl ?_ ?_ ?_)) ?_
  · exact SlF.some_ (OwnN.sl ho194 ((hs_ : St _ _ _ _).ow L1_192))
  · first | omega | (simp only [List.length_append]; omega)
  · first | omega | (simp only [List.length_append]; omega)
  refine WQ.val (wantF rfl g205) rfl rfl (fun w_ hs_ => (Run.fieldO Tryd.runUnderlying33 rfl rfl rfl Tryd.sizeOf4 rfl)) ?_
  refine WQ.val (wantF rfl g205) rfl rfl (fun w_ hs_ => (Run.load Tryd.isAgg4 rfl rfl (SlF.fld (OwnN.sl ho194 ((hs_ : St _ _ _ _).ow L1_192)) ?_ rfl))) ?_
  · first | omega | (simp only [List.length_append]; omega)
  refine WQ.runA tbk 3 (Acts.nil.cons (j := 25) rfl g205) [1] rfl ⟨rfl, trivial⟩ (WQ.eO 7 Acts.nil J206 g205 rfl rfl)
 refine WQ.r 1 [] rfl ?_
 apply WQ.gO 8 Acts.nil rfl
 ·intro g207 J208
  have qg207 := g207
  try simp only [bf, within_iff, within_not] at qg207
  refine WQ.runA tbk 1 (Acts.nil.cons (j := 34) rfl g207) [] rfl trivial ?_
  refine WQ.val (wantF rfl g207) rfl rfl (fun w_ hs_ => (Run.idxK (0) Tryd.runUnderlying27 Tryd.sizeOf33 rfl rfl rfl ?_ ?_ ?_)) ?_
  · exact SlF.some_ (OwnN.sl ho194 ((hs_ : St _ _ _ _).ow L1_192))
  · first | omega | (simp only [List.length_append]; omega)
  · first | omega | (simp only [List.length_append]; omega)
  refine WQ.val (wantF rfl g207) rfl rfl (fun w_ hs_ => (Run.fieldO Tryd.runUnderlying33 rfl rfl rfl Tryd.sizeOf24 rfl)) ?_
  refine WQ.val (wantF rfl g207) rfl rfl (fun w_ hs_ => (Run.load Tryd.isAgg24 rfl rfl (SlF.fld (OwnN.sl ho194 ((hs_ : St _ _ _ _).ow L1_192)) ?_ rfl))) ?_
  · first | omega | (simp only [List.length_append]; omega)
  refine WQ.runA tbk 2 (Acts.nil.cons (j := 34) rfl g207) [1] rfl ⟨rfl, trivial⟩ ?_
  refine WQ.call (wantF rfl g207) rfl rfl (fun w_ hs_ => (Run.call Tryd.call7 rfl rfl rfl)) (fun w_ hs_ => (k40_ _ _ _ _ _ _ _ _ _ (SlN.nth (OwnN.ok ho194 ((hs_ : St _ _ _ _).ow L1_192) (fun y Li hy h3 hl => h3.ok hl (by have h9_ := List.mem_map_of_mem (f := ActR.dat) hy; first | exact hsAP _ h9_ | exact hsAQ _ h9_ | exact hsAR _ h9_ | exact hsC _ h9_ | exact hsAL _ h9_))) (by first | omega | (simp only [List.length_append]; omega))).Args (ownActR.ok (B := 549755813888) ho175 ((hs_ : St _ _ _ _).ow L1_174) (by assumption)).Args ?_ ?_).mono fun e_ w_ h_ => ⟨h_.1, (hs_ : St _ _ _ _).call0 h_.2⟩) ?_
  · first | assumption | rfl | omega
  · first | assumption | rfl | omega
  refine WQ.runA tbk 1 (Acts.nil.cons (j := 34) rfl g207) [] rfl trivial (WQ.eO 8 Acts.nil J208 g207 rfl rfl)
 refine WQ.nil (fun _ (hs209 : St _ _ _ _) => ?_)
 refine WC.condF rfl (by first | (simp [e1, e2, e3, e4, e5b, hOP, f1, f3, f4, f5, f6, f7, d1, d2, d4, e1, e2, e3, e4, e5b, hOP, f1, f3, f4, f5, f6, f7]; done) | grind) (WC.skip (hK200 _ _ (WC.seq (fun K211 hK211 => WC.sr (WL.r 2 hs209 [] rfl ?_)))))
 obtain ⟨L212, L213, hs216, ho214, ho215⟩ := OwnN.open_ (hs209.fr L1_31) ho33
 have hs217 := (((((hs216.fb b22).fb b36).fb b145).fb b177).fb b197)
 obtain ⟨L218, L219, hs222, ho220, ho221⟩ := OwnN.open_ (hs217.fr L1_153) ho155
 have hs223 := (((((hs222.fb b22).fb b36).fb b145).fb b177).fb b197)
 refine WL.appendG (hs223.fr L212) ho214 (SlF.src (SlF.ofOwn ho220 (hs223.ow L218)) Tryd.underlying27) Tryd.underlying27 inf33 rfl rfl rfl rfl rfl rfl rfl rfl rfl rfl ?_ (fun A227 c228 L224 whs225 hs225 ho226 => ?_)
 · first | omega | (simp only [List.length_append]; omega)
 replace hs225 := St.back [_, _, _, _, _] hs225
 have hs229 := ((hs225.fr L219).fr L213)
 rw [← List.append_assoc L213 L219] at hs229
 have hs231 := (((((hs229.fb b22).fb b36).fb b145).fb b177).fb b197)
 obtain ⟨L233, hs232, ho234⟩ := OwnN.fold ((hs231.fr (L213 ++ L219)).fr L224) ho226 (Bag.append ho215 ho221)
 have hs235 := (((((hs232.fb b22).fb b36).fb b145).fb b177).fb b197)
 refine WL.r 2 hs235 [] rfl (WL.nil (WC.block (WC.lS [6, 19, 90, 145, 148, 149] rfl hs235 (fun k_ f w' => ∃ (i : Nat), k_ = x1_16.length - i ∧ (i ≤ x1_16.length) ∧ Sub [(150, .int .i64 i)] f) ((fun (i : Nat) => x1_16.length - i) (0)) ?_ ?_)))
 ·refine ⟨0, rfl, ?_, ⟨rfl, trivial⟩⟩
  · exact Nat.zero_le _
 clear hs235
 rintro _ f w ⟨i, rfl, p0, hG⟩ hF hs236
 refine WC.sub _ (hG.app hF) ?_
 clear hG hF
 refine WC.r1 hs236 [] rfl (WC.seq (fun K237 hK237 => ?_))
 refine WC.cq rfl (fun h238 qh238 => ?_) (fun h238 qh238 => ?_)
 ·have hil : i < x1_16.length := by have h9 := h238; simp at h9; omega
  have hgd := gat_dat (F := encActR) (i := i) hXX (by simp only [List.length_append]; omega)
  have d1 : (gat encActR (x1_30 ++ x1_152) i).Kind = (gat encActR x1_16 i).Kind := congrArg ActD.Kind hgd
  have d2 : (gat encActR (x1_30 ++ x1_152) i).R = (gat encActR x1_16 i).R := congrArg ActD.R hgd
  have d4 : (gat encActR (x1_30 ++ x1_152) i).Args.xs = (gat encActR x1_16 i).Args.xs := congrArg ActD.Args hgd
  have hgl := (SlN.nth (OwnN.ok ho234 (hs236.ow L233) (fun y Li hy h3 hl => h3.ok hl (by have h9_ := List.mem_map_of_mem (f := ActR.dat) hy; first | exact hsAP _ h9_ | exact hsAQ _ h9_ | exact hsAR _ h9_ | exact hsC _ h9_ | exact hsAL _ h9_))) (show i < (x1_30 ++ x1_152).length by simp only [List.length_append]; omega)).Args.len
  have hgm : (gat encActR (x1_30 ++ x1_152) i).dat.Args.length ≤ 549755813888 := hsC _ (List.mem_map_of_mem (gat_mem (F := encActR) (by simp only [List.length_append]; omega)))
  have hgx : (gat encActR (x1_30 ++ x1_152) i).Args.xs.length ≤ 8 := by have h9 : (gat encActR (x1_30 ++ x1_152) i).dat ∈ (x1_30 ++ x1_152).map ActR.dat := List.mem_map_of_mem (gat_mem (F := encActR) (by simp only [List.length_append]; omega)); rw [hXX, hLP] at h9; exact vpParse_act (v := vp0) rfl _ h9
  refine WC.skip (hK237 _ _ (WC.seq (fun K239 hK239 => WC.block (WC.sr (WL.r 1 hs236 [] rfl ?_)))))
  refine WL.val rfl rfl rfl (Run.idxN Tryd.runUnderlying27 Tryd.sizeOf33 rfl rfl rfl ?_ ?_ ?_) ?_
  · exact SlF.some_ (OwnN.sl ho234 (hs236.ow L233))
  · first | omega | (simp only [List.length_append]; omega)
  · first | omega | (simp only [List.length_append]; omega)
  refine WL.val rfl rfl rfl (Run.loadA Tryd.isAgg33 Tryd.sizeOf33 rfl rfl (SlF.whole (OwnN.sl ho234 (hs236.ow L233)) ?_)) ?_
  · first | omega | (simp only [List.length_append]; omega)
  refine WL.al hs236 Tryd.zeroValue33 rfl rfl (fun b240 _ hs241 => WL.r 1 hs241 [] rfl (WL.st tbk hs241 0 rfl rfl (fun _ hs242 => WL.nil (WC.sq1 hs242 (WQ.r 4 [0] rfl ?_)))))
  refine WQ.val rfl rfl rfl (fun w_ hs_ => (Run.idxN Tryd.runUnderlying27 Tryd.sizeOf33 rfl rfl rfl ?_ ?_ ?_)) ?_
  · exact SlF.some_ (OwnN.sl ho19 ((hs_ : St _ _ _ _).ow L1_17))
  · first | omega | (simp only [List.length_append]; omega)
  · first | omega | (simp only [List.length_append]; omega)
  refine WQ.val rfl rfl rfl (fun w_ hs_ => (Run.fieldO Tryd.runUnderlying33 rfl rfl rfl Tryd.sizeOf3 rfl)) ?_
  refine WQ.val rfl rfl rfl (fun w_ hs_ => (Run.load Tryd.isAgg3 rfl rfl (SlF.fld (OwnN.sl ho19 ((hs_ : St _ _ _ _).ow L1_17)) ?_ rfl))) ?_
  · first | omega | (simp only [List.length_append]; omega)
  refine WQ.r 2 [] rfl ?_
  apply WQ.gO 8 Acts.nil rfl
  ·intro g243 J244
   have qg243 := g243
   try simp only [bf, within_iff, within_not] at qg243
   refine WQ.runA tbk 4 (Acts.nil.cons (j := 8) rfl g243) [0] rfl ⟨rfl, trivial⟩ ?_
   refine WQ.val (wantF rfl g243) rfl rfl (fun w_ hs_ => (Run.idxN Tryd.runUnderlying27 Tryd.sizeOf33 rfl rfl rfl ?_ ?_ ?_)) ?_
   · exact SlF.some_ (OwnN.sl ho19 ((hs_ : St _ _ _ _).ow L1_17))
   · first | omega | (simp only [List.length_append]; omega)
   · first | omega | (simp only [List.length_append]; omega)
   refine WQ.val (wantF rfl g243) rfl rfl (fun w_ hs_ => (Run.fieldO Tryd.runUnderlying33 rfl rfl rfl Tryd.sizeOf3 rfl)) ?_
   refine WQ.val (wantF rfl g243) rfl rfl (fun w_ hs_ => (Run.load Tryd.isAgg3 rfl rfl (SlF.fld (OwnN.sl ho19 ((hs_ : St _ _ _ _).ow L1_17)) ?_ rfl))) ?_
   · first | omega | (simp only [List.length_append]; omega)
   refine WQ.runA tbk 1 (Acts.nil.cons (j := 8) rfl g243) [] rfl trivial (WQ.eO 8 Acts.nil J244 g243 rfl rfl)
  refine WQ.r 1 [] rfl ?_
  apply WQ.gO 9 Acts.nil rfl
  ·intro g245 J246
   have qg245 := g245
   try simp only [bf, within_iff, within_not] at qg245
   refine WQ.runA tbk 4 (Acts.nil.cons (j := 18) rfl g245) [0] rfl ⟨rfl, trivial⟩ ?_
   refine WQ.val (wantF rfl g245) rfl rfl (fun w_ hs_ => (Run.idxN Tryd.runUnderlying27 Tryd.sizeOf33 rfl rfl rfl ?_ ?_ ?_)) ?_
   · exact SlF.some_ (OwnN.sl ho19 ((hs_ : St _ _ _ _).ow L1_17))
   · first | omega | (simp only [List.length_append]; omega)
   · first | omega | (simp only [List.length_append]; omega)
   refine WQ.val (wantF rfl g245) rfl rfl (fun w_ hs_ => (Run.fieldO Tryd.runUnderlying33 rfl rfl rfl Tryd.sizeOf24 rfl)) ?_
   refine WQ.val (wantF rfl g245) rfl rfl (fun w_ hs_ => (Run.load Tryd.isAgg24 rfl rfl (SlF.fld (OwnN.sl ho19 ((hs_ : St _ _ _ _).ow L1_17)) ?_ rfl))) ?_
   · first | omega | (simp only [List.length_append]; omega)
   refine WQ.call (wantF rfl g245) rfl rfl (fun w_ hs_ => (Run.call Tryd.call7 rfl rfl rfl)) (fun w_ hs_ => (k40_ _ _ _ _ _ _ _ _ _ (SlN.nth (OwnN.ok ho234 ((hs_ : St _ _ _ _).ow L233) (fun y Li hy h3 hl => h3.ok hl (by have h9_ := List.mem_map_of_mem (f := ActR.dat) hy; first | exact hsAP _ h9_ | exact hsAQ _ h9_ | exact hsAR _ h9_ | exact hsC _ h9_ | exact hsAL _ h9_))) (by first | omega | (simp only [List.length_append]; omega))).Args (SlN.nth (OwnN.ok ho19 ((hs_ : St _ _ _ _).ow L1_17) (fun y Li hy h3 hl => h3.ok hl (by have h9_ := List.mem_map_of_mem (f := ActR.dat) hy; first | exact hsAP _ h9_ | exact hsAQ _ h9_ | exact hsAR _ h9_ | exact hsC _ h9_ | exact hsAL _ h9_))) (by first | omega | (simp only [List.length_append]; omega))).Args ?_ ?_).mono fun e_ w_ h_ => ⟨h_.1, (hs_ : St _ _ _ _).call0 h_.2⟩) ?_
   · first | assumption | rfl | omega
   · first | assumption | rfl | omega
   refine WQ.runA tbk 1 (Acts.nil.cons (j := 18) rfl g245) [] rfl trivial (WQ.eO 9 Acts.nil J246 g245 rfl rfl)
  refine WQ.nil (fun _ (hs247 : St _ _ _ _) => ?_)
  refine WC.condF rfl (by first | (simp [e1, e2, e3, e4, e5b, hOP, f1, f3, f4, f5, f6, f7, d1, d2, d4, e1, e2, e3, e4, e5b, hOP, f1, f3, f4, f5, f6, f7, d1, d2, d4]; done) | grind) (WC.skip (hK239 _ _ (WC.region (WL.r 2 hs247 [] rfl (WL.nil (tkN ?_))))))
  refine ⟨sbF rfl, (hs247.drop (by repeat (first | exact List.Sublist.refl _ | exact List.sublist_append_left _ _ | exact List.Sublist.trans (List.sublist_append_left _ _) (List.sublist_append_left _ _) | apply List.Sublist.cons | refine List.Sublist.trans ?_ (sR _)))), _, ?_, i + 1, rfl, ?_, ⟨rfl, trivial⟩⟩
  · omega
  · omega
 refine WC.exit (hK211 _ _ (WC.r1 hs236 [] rfl (WC.ret (rtv rfl rfl hs236 ?_))))
 rfl
open Go Go.RowKit Go.ChangeShapes Go.WideShapes Go.ChangeAt Go.Deep
section
variable {H : Type} {enc : TypeId × Value → H} {P : Program} {w : World} {base : Nat} {spare : Nat → Bool} {held : Bool} {fuel : Nat} {t e : TypeId} {cs : List Value} {x : DataW H × List MemPlace}
theorem open_SlB (ht : P.underlying t = some (.slice e)) (he : P.underlying e = some (.int .u8)) (hc : P.cellsOf e = 1) (h : DataW.trod enc P w base spare held fuel t cs = some x) :
  ∃ A n c xs, cs = [.slice A n c] ∧ SlB w A n xs ∧ n ≤ 9223372036854775807 := by
 rcases open_ints ht he hc h with ⟨rfl, _⟩ | ⟨a, l, c, zs, rfl, _, hl, hm, hz, _, hcell, hwz⟩
 ·exact ⟨none, 0, 0, [], rfl, ⟨rfl, SlR.nil _ _ _⟩, by omega⟩
 ·have hlz : l ≤ zs.length := by rw [hz]; split <;> omega
  refine ⟨some a, l, c, (zs.take l).map (fun z => UInt8.ofNat z.toNat), rfl, ⟨by simp; omega, ⟨by rw [rows_len]; simp [encB]; omega, fun _ => rfl, fun j v hv => ?_⟩⟩, by simp only [maxLen] at hm; omega⟩
  have hj : j < l := by
   have := (List.getElem?_eq_some_iff.1 hv).1
   simp [bytesV_len] at this; omega
  have hc1 := hcell j (by omega)
  have hw := hwz (zs.getD j 0) (by rw [List.getD_eq_getElem?_getD, List.getElem?_eq_getElem (show j < zs.length by omega)]; exact List.getElem_mem _)
  simp [Lit.wf, IntKind.min, IntKind.max, IntKind.signed, IntKind.bits] at hw
  show w.cell? (a.add j) = some v
  rw [hc1, ← hv]
  have hlt : j < zs.length := by omega
  have e1 : zs.getD j 0 = zs[j] := by rw [List.getD_eq_getElem?_getD, List.getElem?_eq_getElem hlt]; rfl
  rw [e1]
  simp only [List.getElem?_eq_getElem hlt, Option.getD_some] at hw
  simp [bytesV_map, hj, List.getElem?_eq_getElem hlt, UInt8.toNat_ofNat']
  omega
end
namespace fnParse
open Go.ChangeShapes Go.WideShapes Go.ChangeAt Go.WideMaps Go.WideElems Go.RowKit
theorem own : ownKnob Tryd.prog.godebug = none := by kernel_rfl
theorem laidOut : laidOutB Tryd.prog = true := by kernel_rfl
def laid3 : List (String × DataW Unit) := [("math/bits.deBruijn32tab", Rows.laid_math_bits_deBruijn32tab), ("math/bits.deBruijn64tab", Rows.laid_math_bits_deBruijn64tab), ("internal/strconv.uint64pow10", Rows.laid_internal_strconv_uint64pow10)]
theorem door_met (os : Os) (args : Array Value) : laidMetH Tryd.prog laid3 ((World.doorLaid Tryd.prog 400 os).forCall (fun _ _ => 0) ⟨#[], args, []⟩).memory :=
  laidMetH_of_parts3 (fuel := 8) (laidMet_of_run' 8 (by kernel_rfl) (by kernel_rfl)) (by kernel_rfl) (by kernel_rfl)
theorem tabData_is : (Rows.laid_internal_strconv_uint64pow10 : DataW Unit) = Go.Lib.tabData .u64 Go.Lib.pow10Tab := by kernel_rfl
theorem tab_of {W : World} (h : laidMetH Tryd.prog laid3 W) : TabOk W := by
  rw [MakeChecks.laidMetH_plain _ _ _ (by kernel_rfl)] at h
  obtain ⟨ps, ⟨_, _, _, _, _, _, _, _, _, _, ⟨_, _, _, _, _, _, _, _, _, _, ⟨g, t, cs, fuel, p, q, hg, ht, hvar, hd, _, _⟩, _⟩, _⟩, _, _⟩ := h
  obtain rfl := Option.some.inj ((show Tryd.prog.globalNamed "internal/strconv.uint64pow10" = some 1 by kernel_rfl).symm.trans hg)
  have hty : (Tryd.prog.globals[1]?).map (·.type) = some t := ht
  obtain rfl := Option.some.inj ((show (Tryd.prog.globals[1]?).map (·.type) = some 96 by kernel_rfl).symm.trans hty)
  rw [tabData_is] at hd
  unfold TabOk Go.Lib.TabIs
  rw [hvar, ← Go.Lib.cells_of_tab Tryd.underlying96 Tryd.underlying89 (show Tryd.prog.cellsOf 89 = 1 by kernel_rfl) (show Tryd.prog.cellsOf 96 = 20 by kernel_rfl) hd]
set_option maxRecDepth 100000 in
set_option maxHeartbeats 1000000 in
theorem lifted (os : Os) (started : os.Started) (H : Type) (enc : TypeId × Value → H) :
    ReturnsInHanded {} Tryd.checked os 3 .any (fun w args => (Rows.fnParseSpec.pre enc Tryd.prog Tryd.f3 [] false w args ∧ laidMetH Tryd.prog laid3 w) ∧ sizedMet enc Tryd.prog Tryd.f3 (OpenSpec.ofChange Rows.fnParseSpec) false w args) (Rows.fnParseSpec.post enc Tryd.prog Tryd.f3 false true false false) := by
  refine returnsInHanded_of_change_and (C := Tryd.checked) (X := fun w _ => laidMetH Tryd.prog laid3 w) (fun _ _ _ hh h => h.of_heap hh) own started (by kernel_rfl) Tryd.func3
    (ChangeSpec.witness_shaped (enc := enc) (C := Tryd.checked) (os := os) (X := fun w _ => laidMetH Tryd.prog laid3 w) false (World.doorLaid Tryd.prog 400 os) #[.slice none 0 0] 8 rfl (World.shaped_of_RefB (by kernel_rfl) (by kernel_rfl)) (by kernel_rfl) (by kernel_rfl) (by kernel_rfl) (door_met os _)) ?_
  intro W base args ds gs before hval0 hW _ _ hL _
  have hval : ∀ (j : Nat) t v, Tryd.f3.params[j]? = some t → args[j]? = some v → Value.okWide Tryd.prog W .any base t v := hval0
  have hW' := hW
  obtain ⟨p, q, hA0, hV, rfl, hfz, hnd⟩ := hW
  have hA : DataW.TrodAll enc Tryd.prog W 0 (fun _ => true) true Tryd.f3.params.toList args.toList ds p := hA0
  rw [Tryd.params3] at hA hval
  obtain ⟨v0, vs0, d0, ds0, p0, q0, hargs, rfl, rfl, h0, r0⟩ := trodAll_cons hA
  obtain ⟨rfl, rfl, rfl⟩ := trodAll_nil r0
  obtain rfl : args = #[v0] := by cases args; simp_all
  obtain ⟨rfl, rfl⟩ := trodVars_none hV
  have k0 := h0
  have lt0 : ∀ x ∈ p0, x.block < W.heap.size := by obtain ⟨m, hm⟩ := k0; exact DataW.trod_lt m _ _ _ hm
  obtain ⟨a0, l0, q0, rfl⟩ := okWide_slice Tryd.underlying22 (hval 0 22 v0 rfl rfl)
  obtain ⟨fuel0, hf0⟩ := h0
  replace hf0 : DataW.trod _ _ _ _ _ _ _ 22 [.slice a0 l0 q0] = _ := hf0
  obtain ⟨A_s, n_s, c_s, s, e0, f_s, w_s⟩ := open_SlB Tryd.underlying22 Tryd.underlying5 (by kernel_rfl) hf0
  obtain ⟨rfl, rfl, rfl⟩ : A_s = a0 ∧ n_s = l0 ∧ c_s = q0 := by cases e0; exact ⟨rfl, rfl, rfl⟩
  have htab := tab_of hL
  clear hA0 hval0
  refine (k48_ A_s n_s c_s s W f_s htab).mono fun e W' ⟨he, hst⟩ => ?_
  have bel := hst.toBelow
  subst he
  exact ⟨_, rfl, _, _, _, [], _, [], hW', trodAll_mk1 (shut_bool Tryd.underlying4 _), (trodAll_cons_mk (Below.trod laidOut (by kernel_rfl) (of_decide_eq_true (by kernel_rfl)) k0 bel lt0) trodAll_mk0), rfl, bel.frame _, fun h => by cases h⟩
theorem over : Rows.FnParseSaid :=
  OpenClaim.holds_of_wide 3 Tryd.f3 rfl rfl rfl rfl rfl rfl rfl ⟨rfl, rfl, rfl, rfl, rfl⟩ rfl rfl rfl rfl rfl (by kernel_rfl) Tryd.func3 (by kernel_rfl)
    (of_decide_eq_true (by kernel_rfl)) (by unfold Func.isWrapper; first | (rw [if_pos (by decide +kernel)]; kernel_rfl) | (rw [if_neg (by decide +kernel)]; exact ⟨rfl, rfl⟩))
    (fun os started H enc _ => lifted os started H enc)
end fnParse
theorem fnParse_holds : Rows.FnParseCardSaid :=
  Claim7.holds_tied_plain_at .later [] [.data, .data, .data] true (true, "8ff4406ad3204752b6d210d978a720f33a215dc23176343fab7496e9f77897be") false
    fnParse.over (fun _ h => by cases h) (by kernel_rfl) (fun _ h => by cases h) fnParse_row_tie rfl ⟨rfl, rfl⟩ (by kernel_rfl) rfl
    (fun f fn hf hfn => by
      obtain rfl : f = 3 := Option.some.inj ((show Tryd.prog.funcNamed "loop.example/g00661/laws.FnParse" = some 3 by kernel_rfl).symm.trans hf) |>.symm
      obtain rfl : fn = Tryd.f3 := (Option.some.inj (Tryd.func3.symm.trans hfn)).symm
      exact ⟨by kernel_rfl, fun j t ht => by
        rw [Tryd.params3] at ht
        have hm : t ∈ [22] := by simpa using Array.mem_of_getElem? ht
        have hall : ([22].all fun u => !Tryd.prog.wantsStandIn u) = true := by kernel_rfl
        exact (show Tryd.prog.wantsStandIn t = false by simpa using List.all_eq_true.1 hall t hm)⟩)
    (by kernel_rfl)
end Go.Proofs.YtpbflopkkfihaaaDoor
