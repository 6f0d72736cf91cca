/-
  What the proof stands on, part 5.
-/
import Derived.Test.YtcpnlodkmkfplaaGreatDoorKC4
namespace Go.Proofs.YtcpnlodkmkfplaaGreatDoor
open Go Go.RowKit
set_option linter.unusedVariables false
set_option linter.unusedSimpArgs false
theorem built_36_0_1_2 (x0 : Value) (x1 : Value) (x2 : Value) (x3 : Value) (x4 : Value) (x5 : Value) (x6 : Int) (x7 : Int) : Tryz.prog.built 36 [(0, .agg [x0, x1, x2, x3, x4, x5].toArray), (1, .int .i64 x6), (2, .int .i64 x7)] = some (List.toArray [x0, x1, x2, x3, x4, x5, .int .i64 x6, .int .i64 x7, .int .i64 0, .bool false]) := by kernel_rfl
theorem built_109_0 (x0 : Value) (x1 : Value) (x2 : Value) (x3 : Value) (x4 : Value) (x5 : Value) (x6 : Value) (x7 : Value) (x8 : Value) (x9 : Value) : Tryz.prog.built 109 [(0, .agg [x0, x1, x2, x3, x4, x5, x6, x7, x8, x9].toArray)] = some (List.toArray [x0, x1, x2, x3, x4, x5, x6, x7, x8, x9, .int .i64 0]) := by kernel_rfl
theorem k119_ (d : DiskR) (gen : Int) (seq : Int) (A_data : Option Addr) (n_data c_data : Nat) (data : List UInt8) (w : World) (f_d : okDiskR 549755813888 w d) (f_data : SlF encB w A_data n_data data) (hb : totDisk d.dat ≤ 1048576) (hl9 : LibOk w) (hn : n_data ≤ 1048576) :
    Calls Tryz.prog 29 #[.agg #[i64 d.Room, i64 d.Fuse, i64 d.Next, .slice d.Files.A d.Files.n d.Files.c, .slice d.Kept.A d.Kept.n d.Kept.c, .slice d.Turns.A d.Turns.n d.Turns.c], i64 gen, i64 seq, .slice A_data n_data c_data] w fun e w' => ∃ r L1, e = .returned (.tuple #[.agg #[i64 r.Disk.Room, i64 r.Disk.Fuse, i64 r.Disk.Next, .slice r.Disk.Files.A r.Disk.Files.n r.Disk.Files.c, .slice r.Disk.Kept.A r.Disk.Kept.n r.Disk.Kept.c, .slice r.Disk.Turns.A r.Disk.Turns.n r.Disk.Turns.c, i64 r.Gen, i64 r.Seq, i64 r.Size, .bool r.Stuck], .int .i64 (beginC d.dat gen seq data)]) ∧ St w [] L1 w' ∧ ownDepotR r L1 ∧ r.dat = beginD d.dat gen seq data := by
 have nb_d_Files := f_d.Files_n
 have nl_d_Files := f_d.Files.sl.len
 have nb_d_Kept := f_d.Kept_n
 have nl_d_Kept := f_d.Kept.len
 have nb_d_Turns := f_d.Turns_n
 have nl_d_Turns := f_d.Turns.len
 have hsmD : smDisk 1048576 d.dat := totDisk_sm hb
 have hl := f_data.len
 refine enter 62 Tryz.func29 rfl Tryz.ntmps29 rfl rfl ?_
 have hs1 := St.init w
 refine WC.sr (WL.bx hs1 rfl (fun b2 _ hs3 => WL.al hs3 Tryz.zeroValue36 rfl rfl (fun b4 _ hs5 => WL.r 1 hs5 [] rfl (WL.nil (WC.r1 hs5 [] rfl (WC.seq (fun K6 hK6 => WC.sr ?_)))))))
 refine WL.r 1 hs5 [] rfl (WL.cl Tryz.call61 rfl (k3_ _ _ _ _) ?_)
 rintro _ whs7 ⟨rfl, hs7⟩
 replace hs7 := hs5.call0 hs7
 refine ⟨_, rfl, WL.nil (WC.cq rfl (fun h8 qh8 => ?_) (fun h8 qh8 => ?_))⟩
 ·have hw : within gen 0 999999999 = true := h8
  have hw2 := within_iff.1 hw
  refine WC.region (WL.r 4 hs7 [] rfl (WL.cl Tryz.call74 rfl (k106_ _ _ _ _ _ _ _ (SlF.st0 f_data hs7) ?_) ?_))
  · first | assumption | rfl | omega | exact hb | exact hcb | exact hck | exact lib_st hl9 (by assumption) | exact lib_tab hl9 (by assumption) | exact far_of hl9 (by assumption) (fun k_ hk_ => by simp only [List.map_append, List.map_cons, List.map_nil, List.cons_append, List.nil_append, List.append_assoc, List.mem_cons, List.mem_append] at hk_ ⊢; rcases hk_ with h_ | h_ <;> simp [h_])
  rintro _ whs9 ⟨A10, c11, L1_12, rfl, hs9, ho13⟩
  replace hs9 := hs7.callF hs9
  refine ⟨_, rfl, ?_⟩
  replace hs9 := St.back [_, _] hs9
  refine WL.r 5 hs9 [] rfl (WL.nil (hK6 _ _ (WC.seq (fun K14 hK14 => WC.sr (WL.r 3 hs9 [] rfl ?_)))))
  apply WL.gO 3 Acts.nil hs9 rfl
  ·intro g15 J16
   have qg15 := g15
   try simp only [bf, within_iff, within_not] at qg15
   refine WL.runA tbk 1 (Acts.nil.cons (j := 2) rfl g15) hs9 [1] rfl ⟨rfl, trivial⟩ (WL.call (wantF rfl g15) rfl rfl (Run.call Tryz.call56 rfl rfl rfl) (k74_ d _ (okDiskR.st0 f_d hs9) ?_) ?_)
   · first | assumption | rfl | omega | exact hb | exact hcb | exact hck | exact lib_st hl9 (by assumption) | exact lib_tab hl9 (by assumption) | exact far_of hl9 (by assumption) (fun k_ hk_ => by simp only [List.map_append, List.map_cons, List.map_nil, List.cons_append, List.nil_append, List.append_assoc, List.mem_cons, List.mem_append] at hk_ ⊢; rcases hk_ with h_ | h_ <;> simp [h_])
   rintro _ whs17 ⟨rfl, hs17⟩
   replace hs17 := hs9.call0 hs17
   refine ⟨_, rfl, WL.runA tbk 1 (Acts.nil.cons (j := 2) rfl g15) hs17 [] rfl trivial (WL.eO 3 Acts.nil J16 hs17 g15 rfl rfl)⟩
  intro _ hs18
  refine WL.nil (WC.cq rfl (fun h19 qh19 => ?_) (fun h19 qh19 => ?_))
  ·have hk : beginOk d.dat gen seq data = false := by first | assumption | (unfold beginOk; have h9 := h19; revert h9; cases snapOk (gen + 1) seq data <;> cases diskOk d.dat <;> simp)
   obtain ⟨hdn, hc⟩ := begin_bad hk
   refine WC.sr ?_
   refine WL.val rfl rfl rfl (Run.build rfl rfl rfl rfl (built_36)) (WL.st tbk hs18 0 rfl rfl (fun _ hs20 => WL.r 1 hs20 [] rfl (WL.nil (WC.ret (tkR ?_)))))
   clear hK14
   refine retV2 rfl (resV.cellA tbk hs20 0 rfl rfl rfl rfl) (resV.tmp rfl) ?_
   obtain ⟨L25, hs24, ho26⟩ := ownDepotR.fl hs20 (OwnN.nil _ _ _) (OwnF.nil _ _) (OwnF.nil _ _)
   have hs27 := ((hs24.fb b2).fb b4)
   refine ⟨⟨⟨0, 0, 0, ⟨none, 0, 0, []⟩, ⟨none, 0, 0, []⟩, ⟨none, 0, 0, []⟩⟩, 0, 0, 0, false⟩, _, (by rw [hc]; first | done | rfl | rw [← hRc]), (St.keep1 (hs27.fr L25)), ?_, ?_⟩
   · exact (by exact ho26)
   · rw [hdn]; rfl
  have hsk : snapOk (gen + 1) seq data = true ∧ diskOk d.dat = true := by have h9 := h19; revert h9; cases snapOk (gen + 1) seq data <;> cases diskOk d.dat <;> simp
  obtain ⟨hsn, hok⟩ := hsk
  have hk : beginOk d.dat gen seq data = true := by unfold beginOk; rw [hok, hw, hsn]; rfl
  obtain ⟨hdn, hc⟩ := begin_do hk
  obtain ⟨hgn, hg1, hg2, hg3⟩ := snapOk_P hsn
  have hsl : (snapOut (gen + 1) seq data).length ≤ 400000 := by rw [snapOut_y hsn]; have h9 := snapL_len hsn; omega
  refine WC.skip (hK14 _ _ (WC.sr (WL.r 1 hs18 [1] rfl ?_)))
  refine WL.cl Tryz.call75 rfl (k85_ d _ (okDiskR.st0 f_d hs18) ?_) ?_
  · first | assumption | rfl | omega | exact hb | exact hcb | exact hck | exact lib_st hl9 (by assumption) | exact lib_tab hl9 (by assumption) | exact far_of hl9 (by assumption) (fun k_ hk_ => by simp only [List.map_append, List.map_cons, List.map_nil, List.cons_append, List.nil_append, List.append_assoc, List.mem_cons, List.mem_append] at hk_ ⊢; rcases hk_ with h_ | h_ <;> simp [h_])
  rintro _ whs28 ⟨r29, L1_30, rfl, hs28, ho31, hd32⟩
  replace hs28 := hs18.callF hs28
  refine ⟨_, rfl, ?_⟩
  replace hs28 := St.back [_, _] hs28
  have hcp := hd32
  have hcb : totDisk (DiskR.dat r29) ≤ 1048576 := by rw [hcp]; exact hb
  have hck : diskOk (DiskR.dat r29) = true := by rw [hcp]; exact hok
  refine WL.r 2 hs28 [] rfl ?_
  refine WL.val rfl rfl rfl (Run.build rfl rfl rfl rfl (built_36_0_1_2 _ _ _ _ _ _ _ _)) ?_
  refine WL.val rfl rfl rfl (Run.build rfl rfl rfl rfl (built_109_0 _ _ _ _ _ _ _ _ _ _)) (WL.bx hs28 rfl (fun b33 _ hs34 => WL.r 1 hs34 [] rfl (WL.nil (WC.seq (fun K35 hK35 => WC.sr (WL.r 4 hs34 [] rfl ?_))))))
  obtain ⟨L36, L37, L38, hs42, ho39, ho40, ho41⟩ := ownDiskR.op hs34 ho31
  have hs43 := (((hs42.fb b2).fb b4).fb b33)
  obtain ⟨L45, hs44, ho46⟩ := ownstarterR.fl hs43 ho39 ho40 ho41
  have hs47 := (((hs44.fb b2).fb b4).fb b33)
  have hF48 := ((hs47.fr L45).fb b33)
  refine WL.cl Tryz.call76 rfl (k118_ _ ⟨⟨⟨r29.Room, r29.Fuse, r29.Next, SlD.ofN ho39, SlD.of ho40, SlD.of ho41⟩, gen, seq, 0, false⟩, 0⟩ _ _ _ _ _ _ _ (St.headP hF48) (by exact ho46) (St.ownP hF48) (SlF.ofOwn ho13 (hs47.ow L1_12)) (OwnF.cap ho13) (St.nodupP hF48) (OwnF.sep (L1 := (_, _) :: _) hF48 (fun p_ hp_ => (List.mem_append_right [_, _] (List.mem_append_left _ hp_))) ho13) ?_ ?_ ?_ ?_ ?_ ?_) ?_
  iterate 6 first | assumption | rfl | omega | exact hb | exact hcb | exact hck | exact lib_st hl9 (by assumption) | exact lib_tab hl9 (by assumption) | exact far_of hl9 (by assumption) (fun k_ hk_ => by simp only [List.map_append, List.map_cons, List.map_nil, List.cons_append, List.nil_append, List.append_assoc, List.mem_cons, List.mem_append] at hk_ ⊢; rcases hk_ with h_ | h_ <;> simp [h_])
  rintro _ whs49 ⟨r50, L51, rfl, hs49, ho52, hd53⟩
  replace hs49 := St.lendP hF48 hs49
  refine ⟨_, rfl, ?_⟩
  have hs54 := (((hs49.fb b2).fb b4).fb b33)
  have hR : starterR.dat r50 = (⟨⟨(beginP d.dat gen seq data).1, gen, seq, 0, false⟩, (beginP d.dat gen seq data).2⟩ : starterD) := hd53.trans ((congrArg (a₂ := (⟨⟨d.dat, gen, seq, 0, false⟩, 0⟩ : starterD)) (fun q => setS q (tailS (fillS (stp (gone (gone (stp (sd q) opY) tempP) (logName (gen + 1))) opY) (snapOut (gen + 1) seq data)) (gen + 1))) (by exact starterD.ext' (DepotD.ext' hcp rfl rfl rfl rfl) rfl)).trans (by rw [snapOut_y hsn]; rfl))
  have hRc : r50.code = (beginP d.dat gen seq data).2 := congrArg starterD.code hR
  have hRd := congrArg starterD.depot hR
  have hRD := congrArg DepotD.Disk hRd
  have hRs := congrArg DepotD.Seq hRd
  have hRz := congrArg DepotD.Size hRd
  have hRt := congrArg DepotD.Stuck hRd
  have hRg := congrArg DepotD.Gen hRd
  refine WL.nil (WC.r1 hs54 [0] rfl (WC.cq rfl (fun h55 qh55 => ?_) (fun h55 qh55 => ?_)))
  ·have h0 : (beginP d.dat gen seq data).2 = 0 := hRc.symm.trans (of_decide_eq_true h55)
   refine WC.region (WL.r 6 hs54 [] rfl (WL.st tbk hs54 0 rfl rfl (fun _ hs56 => WL.nil (hK35 _ _ (WC.seq (fun K57 hK57 => WC.rG 8 (hs56.fb b4).d1 hs56 hs56 (fun _ hs58 => ?_)))))))
   refine WG.rn [0, 1, 2, 3, 4, 5, 6] hs58 [0] rfl rfl (WG.all [7, 8] (by kernel_rfl) rfl (WGs.cons (i := 7) rfl rfl ?_ (WGs.consK rfl ?_ WGs.nil)))
   ·refine WL.r 1 hs58 [0] rfl (WL.nil ⟨hs58, WG.oK rfl (WL.st tbk hs58 1 rfl rfl (fun _ hs59 => WL.nil ⟨(hs59.fb b4).d1, WH.rn [9] (hs59.fb b4).d1 [] rfl rfl (WH.dn (hK57 _ _ ?_))⟩))⟩)
    refine WC.ret (retV2 rfl (resV.cellA tbk hs59 1 rfl rfl rfl rfl) (resV.tmp rfl) ?_)
    obtain ⟨L60, L61, L62, hs66, ho63, ho64, ho65⟩ := ownstarterR.op hs59 ho52
    have hs67 := (((hs66.fb b2).fb b4).fb b33)
    obtain ⟨L69, hs68, ho70⟩ := ownDepotR.fl hs67 ho63 ho64 ho65
    have hs71 := (((hs68.fb b2).fb b4).fb b33)
    refine ⟨⟨⟨r50.depot.Disk.Room, r50.depot.Disk.Fuse, r50.depot.Disk.Next, SlD.ofN ho63, SlD.of ho64, SlD.of ho65⟩, (gen + (1)), r50.depot.Seq, r50.depot.Size, r50.depot.Stuck⟩, _, (by rw [hc]; first | done | rfl | rw [← hRc]), (St.keep1 (hs71.fr L69)), ?_, ?_⟩
    · exact (by exact ho70)
    · rw [hdn]; exact DepotD.ext' hRD (if_pos h0).symm hRs hRz hRt
   refine WL.st tbk hs58 1 rfl rfl (fun _ hs72 => WL.nil ⟨(hs72.fb b4).d1, WH.rn [7, 9] (hs72.fb b4).d1 [0] rfl rfl (WH.dn (hK57 _ _ (WC.ret (retV2 rfl (resV.cellA tbk hs72 1 rfl rfl rfl rfl) (resV.tmp rfl) ?_))))⟩)
   obtain ⟨L73, L74, L75, hs79, ho76, ho77, ho78⟩ := ownstarterR.op hs72 ho52
   have hs80 := (((hs79.fb b2).fb b4).fb b33)
   obtain ⟨L82, hs81, ho83⟩ := ownDepotR.fl hs80 ho76 ho77 ho78
   have hs84 := (((hs81.fb b2).fb b4).fb b33)
   refine ⟨⟨⟨r50.depot.Disk.Room, r50.depot.Disk.Fuse, r50.depot.Disk.Next, SlD.ofN ho76, SlD.of ho77, SlD.of ho78⟩, (gen + (1)), r50.depot.Seq, r50.depot.Size, r50.depot.Stuck⟩, _, (by rw [hc]; first | done | rfl | rw [← hRc]), (St.keep1 (hs84.fr L82)), ?_, ?_⟩
   · exact (by exact ho83)
   · rw [hdn]; exact DepotD.ext' hRD (if_pos h0).symm hRs hRz hRt
  have h0 : ¬ (beginP d.dat gen seq data).2 = 0 := fun h9 => (of_decide_eq_false h55) (hRc.trans h9)
  refine WC.skip (hK35 _ _ (WC.seq (fun K85 hK85 => WC.rG 8 (hs54.fb b4).d1 hs54 hs54 (fun _ hs86 => ?_))))
  refine WG.rn [0, 1, 2, 3, 4, 5, 6] hs86 [0] rfl rfl (WG.all [7, 8] (by kernel_rfl) rfl (WGs.cons (i := 7) rfl rfl ?_ (WGs.consK rfl ?_ WGs.nil)))
  ·refine WL.r 1 hs86 [0] rfl (WL.nil ⟨hs86, WG.oK rfl (WL.st tbk hs86 1 rfl rfl (fun _ hs87 => WL.nil ⟨(hs87.fb b4).d1, WH.rn [9] (hs87.fb b4).d1 [] rfl rfl (WH.dn (hK85 _ _ ?_))⟩))⟩)
   refine WC.ret (retV2 rfl (resV.cellA tbk hs87 1 rfl rfl rfl rfl) (resV.tmp rfl) ?_)
   obtain ⟨L88, L89, L90, hs94, ho91, ho92, ho93⟩ := ownstarterR.op hs87 ho52
   have hs95 := (((hs94.fb b2).fb b4).fb b33)
   obtain ⟨L97, hs96, ho98⟩ := ownDepotR.fl hs95 ho91 ho92 ho93
   have hs99 := (((hs96.fb b2).fb b4).fb b33)
   refine ⟨⟨⟨r50.depot.Disk.Room, r50.depot.Disk.Fuse, r50.depot.Disk.Next, SlD.ofN ho91, SlD.of ho92, SlD.of ho93⟩, r50.depot.Gen, r50.depot.Seq, r50.depot.Size, r50.depot.Stuck⟩, _, (by rw [hc]; first | done | rfl | rw [← hRc]), (St.keep1 (hs99.fr L97)), ?_, ?_⟩
   · exact (by exact ho98)
   · rw [hdn]; exact DepotD.ext' hRD (hRg.trans (if_neg h0).symm) hRs hRz hRt
  refine WL.st tbk hs86 1 rfl rfl (fun _ hs100 => WL.nil ⟨(hs100.fb b4).d1, WH.rn [7, 9] (hs100.fb b4).d1 [0] rfl rfl (WH.dn (hK85 _ _ (WC.ret (retV2 rfl (resV.cellA tbk hs100 1 rfl rfl rfl rfl) (resV.tmp rfl) ?_))))⟩)
  obtain ⟨L101, L102, L103, hs107, ho104, ho105, ho106⟩ := ownstarterR.op hs100 ho52
  have hs108 := (((hs107.fb b2).fb b4).fb b33)
  obtain ⟨L110, hs109, ho111⟩ := ownDepotR.fl hs108 ho104 ho105 ho106
  have hs112 := (((hs109.fb b2).fb b4).fb b33)
  refine ⟨⟨⟨r50.depot.Disk.Room, r50.depot.Disk.Fuse, r50.depot.Disk.Next, SlD.ofN ho104, SlD.of ho105, SlD.of ho106⟩, r50.depot.Gen, r50.depot.Seq, r50.depot.Size, r50.depot.Stuck⟩, _, (by rw [hc]; first | done | rfl | rw [← hRc]), (St.keep1 (hs112.fr L110)), ?_, ?_⟩
  · exact (by exact ho111)
  · rw [hdn]; exact DepotD.ext' hRD (hRg.trans (if_neg h0).symm) hRs hRz hRt
 have hw : within gen 0 999999999 = false := h8
 have hk : beginOk d.dat gen seq data = false := by unfold beginOk; rw [hw, Bool.and_false]; rfl
 obtain ⟨hdn, hc⟩ := begin_bad hk
 refine WC.skip (hK6 _ _ (WC.seq (fun K113 hK113 => WC.sr (WL.r 3 hs7 [] rfl ?_))))
 apply WL.gO 3 Acts.nil hs7 rfl
 ·intro g114 J115
  have qg114 := g114
  try simp only [bf, within_iff, within_not] at qg114
  refine WL.runA tbk 1 (Acts.nil.cons (j := 2) rfl g114) hs7 [1] rfl ⟨rfl, trivial⟩ (WL.call (wantF rfl g114) rfl rfl (Run.call Tryz.call56 rfl rfl rfl) (k74_ d _ (okDiskR.st0 f_d hs7) ?_) ?_)
  · first | assumption | rfl | omega | exact hb | exact hcb | exact hck | exact lib_st hl9 (by assumption) | exact lib_tab hl9 (by assumption) | exact far_of hl9 (by assumption) (fun k_ hk_ => by simp only [List.map_append, List.map_cons, List.map_nil, List.cons_append, List.nil_append, List.append_assoc, List.mem_cons, List.mem_append] at hk_ ⊢; rcases hk_ with h_ | h_ <;> simp [h_])
  rintro _ whs116 ⟨rfl, hs116⟩
  replace hs116 := hs7.call0 hs116
  refine ⟨_, rfl, WL.runA tbk 1 (Acts.nil.cons (j := 2) rfl g114) hs116 [] rfl trivial (WL.eO 3 Acts.nil J115 hs116 g114 rfl rfl)⟩
 intro _ hs117
 refine WL.nil (WC.condT rfl (by simp) (WC.sr ?_))
 refine WL.val rfl rfl rfl (Run.build rfl rfl rfl rfl (built_36)) (WL.st tbk hs117 0 rfl rfl (fun _ hs119 => WL.r 1 hs119 [] rfl (WL.nil (WC.ret (tkR ?_)))))
 clear hK113
 refine retV2 rfl (resV.cellA tbk hs119 0 rfl rfl rfl rfl) (resV.tmp rfl) ?_
 obtain ⟨L124, hs123, ho125⟩ := ownDepotR.fl hs119 (OwnN.nil _ _ _) (OwnF.nil _ _) (OwnF.nil _ _)
 have hs126 := ((hs123.fb b2).fb b4)
 refine ⟨⟨⟨0, 0, 0, ⟨none, 0, 0, []⟩, ⟨none, 0, 0, []⟩, ⟨none, 0, 0, []⟩⟩, 0, 0, 0, false⟩, _, (by rw [hc]; first | done | rfl | rw [← hRc]), (St.keep1 (hs126.fr L124)), ?_, ?_⟩
 · exact (by exact ho125)
 · rw [hdn]; rfl
theorem k120_ (p : DepotR) (A_data : Option Addr) (n_data c_data : Nat) (data : List UInt8) (w : World) (f_p : okDepotR 549755813888 w p) (f_data : SlF encB w A_data n_data data) (hb : totDisk p.dat.Disk ≤ 1048576) (hn : n_data ≤ 1048576) (hl9 : LibOk w) :
    Calls Tryz.prog 33 #[.agg #[i64 p.Disk.Room, i64 p.Disk.Fuse, i64 p.Disk.Next, .slice p.Disk.Files.A p.Disk.Files.n p.Disk.Files.c, .slice p.Disk.Kept.A p.Disk.Kept.n p.Disk.Kept.c, .slice p.Disk.Turns.A p.Disk.Turns.n p.Disk.Turns.c, i64 p.Gen, i64 p.Seq, i64 p.Size, .bool p.Stuck], .slice A_data n_data c_data] w fun e w' => ∃ r L1, e = .returned (.tuple #[.agg #[i64 r.Disk.Room, i64 r.Disk.Fuse, i64 r.Disk.Next, .slice r.Disk.Files.A r.Disk.Files.n r.Disk.Files.c, .slice r.Disk.Kept.A r.Disk.Kept.n r.Disk.Kept.c, .slice r.Disk.Turns.A r.Disk.Turns.n r.Disk.Turns.c, i64 r.Gen, i64 r.Seq, i64 r.Size, .bool r.Stuck], .int .i64 (compC p.dat data)]) ∧ St w [] L1 w' ∧ ownDepotR r L1 ∧ r.dat = compD p.dat data := by
 have nb_p_Disk_Files := f_p.Disk.Files_n
 have nl_p_Disk_Files := f_p.Disk.Files.sl.len
 have nb_p_Disk_Kept := f_p.Disk.Kept_n
 have nl_p_Disk_Kept := f_p.Disk.Kept.len
 have nb_p_Disk_Turns := f_p.Disk.Turns_n
 have nl_p_Disk_Turns := f_p.Disk.Turns.len
 have hsmD : smDisk 1048576 p.dat.Disk := totDisk_sm hb
 have hsmB : smDepot 549755813888 p.dat := dep_sm hb
 refine enter 42 Tryz.func33 rfl Tryz.ntmps33 rfl rfl ?_
 have hs1 := St.init w
 refine WC.sr (WL.bx hs1 rfl (fun b2 _ hs3 => WL.al hs3 Tryz.zeroValue36 rfl rfl (fun b4 _ hs5 => WL.r 1 hs5 [] rfl (WL.nil (WC.seq (fun K6 hK6 => WC.block (WC.sr ?_)))))))
 refine WL.r 1 hs5 [1] rfl (WL.cl Tryz.call25 rfl (k87_ p _ (okDepotR.st0 f_p hs5) ?_ ?_) ?_)
 iterate 2 first | assumption | rfl | omega | exact hb | exact lib_st hl9 (by assumption) | exact lib_tab hl9 (by assumption)
 rintro _ whs7 ⟨rfl, hs7⟩
 replace hs7 := hs5.call0 hs7
 refine ⟨_, rfl, WL.r 2 hs7 [] rfl (WL.nil (WC.cq rfl (fun h8 qh8 => ?_) (fun h8 qh8 => ?_)))⟩
 ·have hk : depotOk p.dat = false := by have h9 := h8; simpa using h9
  obtain ⟨hdn, hc⟩ := comp_bad (b := data) hk
  refine WC.sr ?_
  refine WL.val rfl rfl rfl (Run.build rfl rfl rfl rfl (built_36)) (WL.st tbk hs7 0 rfl rfl (fun _ hs9 => WL.r 1 hs9 [] rfl (WL.nil (WC.ret (ibR (tkR ?_))))))
  clear hK6
  refine retV2 rfl (resV.cellA tbk hs9 0 rfl rfl rfl rfl) (resV.tmp rfl) ?_
  obtain ⟨L14, hs13, ho15⟩ := ownDepotR.fl hs9 (OwnN.nil _ _ _) (OwnF.nil _ _) (OwnF.nil _ _)
  have hs16 := ((hs13.fb b2).fb b4)
  refine ⟨⟨⟨0, 0, 0, ⟨none, 0, 0, []⟩, ⟨none, 0, 0, []⟩, ⟨none, 0, 0, []⟩⟩, 0, 0, 0, false⟩, _, (by rw [hc]; first | done | rfl), (St.keep1 (hs16.fr L14)), ?_, ?_⟩
  · exact (by exact ho15)
  · rw [hdn]; rfl
 have hk : depotOk p.dat = true := by have h9 := h8; simpa using h9
 refine WC.r1 hs7 [1] rfl (WC.cq rfl (fun h17 qh17 => ?_) (fun h17 qh17 => ?_))
 ·have hst : p.dat.Stuck = true := by show p.Stuck = true; have h9 := h17; simpa using h9
  obtain ⟨hdn, hc⟩ := comp_st (b := data) hk hst
  refine WC.sr (WL.r 1 hs7 [1] rfl (WL.cl Tryz.call42 rfl (k88_ p _ (okDepotR.st0 f_p hs7) ?_) ?_))
  · first | assumption | rfl | omega | exact hb | exact lib_st hl9 (by assumption) | exact lib_tab hl9 (by assumption)
  rintro _ whs18 ⟨r19, L1_20, rfl, hs18, ho21, hd22⟩
  replace hs18 := hs7.callF hs18
  refine ⟨_, rfl, ?_⟩
  replace hs18 := St.back [_, _] hs18
  refine WL.st tbk hs18 0 rfl rfl (fun _ hs23 => WL.r 1 hs23 [] rfl (WL.nil (WC.ret (ibR (tkR ?_)))))
  clear hK6
  refine retV2 rfl (resV.cellA tbk hs23 0 rfl rfl rfl rfl) (resV.tmp rfl) ?_
  refine ⟨r19, _, (by rw [hc]; first | done | rfl), (St.keep1 (hs23.fr L1_20)), ?_, ?_⟩
  · exact ho21
  · rw [hdn]; exact hd22
 have hst : p.dat.Stuck = false := by show p.Stuck = false; have h9 := h17; simpa using h9
 refine WC.skip (hK6 _ _ (WC.sr (WL.r 7 hs7 [1, 1, 1] rfl ?_)))
 refine WL.cl Tryz.call29 rfl (k119_ p.Disk _ _ _ _ _ _ _ (okDiskR.st0 f_p.Disk hs7) (SlF.st0 f_data hs7) ?_ ?_ ?_) ?_
 iterate 3 first | assumption | rfl | omega | exact hb | exact lib_st hl9 (by assumption) | exact lib_tab hl9 (by assumption)
 rintro _ whs24 ⟨r25, L1_26, rfl, hs24, ho27, hd28⟩
 replace hs24 := hs7.callF hs24
 refine ⟨_, rfl, ?_⟩
 replace hs24 := St.back [_, _] hs24
 have hbg := hd28
 refine WL.r 3 hs24 [] rfl (WL.al hs24 Tryz.zeroValue36 rfl rfl (fun b29 _ hs30 => WL.st tbk hs30 0 rfl rfl (fun _ hs31 => WL.r 1 hs31 [] rfl (WL.nil (WC.seq (fun K32 hK32 => WC.r1 hs31 [] rfl (WC.block ?_)))))))
 refine WC.r1 hs31 [] rfl (WC.cq rfl (fun h33 qh33 => ?_) (fun h33 qh33 => ?_))
 ·have h0 : compK p.dat data = 0 := of_decide_eq_true h33
  obtain ⟨hdn, hc⟩ := comp_0 hk hst h0
  refine WC.sr (WL.r 1 hs31 [0] rfl (WL.st tbk hs31 1 rfl rfl (fun _ hs34 => WL.r 1 hs34 [] rfl (WL.nil (WC.ret (ibR (tkR ?_)))))))
  clear hK32
  refine retV2 rfl (resV.cellA tbk hs34 1 rfl rfl rfl rfl) (resV.tmp rfl) ?_
  refine ⟨r25, _, (by rw [hc]; first | done | rfl), (St.keep1 (hs34.fr L1_26)), ?_, ?_⟩
  · exact ho27
  · rw [hdn]; exact hd28
 have h0 : ¬ compK p.dat data = 0 := of_decide_eq_false h33
 refine WC.r1 hs31 [] rfl (WC.cq rfl (fun h35 qh35 => ?_) (fun h35 qh35 => ?_))
 ·have h1 : compK p.dat data = 1 := of_decide_eq_true h35
  obtain ⟨hdn, hc⟩ := comp_1 hk hst h1
  refine WC.sr (WL.r 1 hs31 [2] rfl (WL.cl Tryz.call42 rfl (k88_ p _ (okDepotR.st0 f_p hs31) ?_) ?_))
  · first | assumption | rfl | omega | exact hb | exact lib_st hl9 (by assumption) | exact lib_tab hl9 (by assumption)
  rintro _ whs36 ⟨r37, L1_38, rfl, hs36, ho39, hd40⟩
  replace hs36 := hs31.callF hs36
  refine ⟨_, rfl, ?_⟩
  replace hs36 := St.back [_, _, _] hs36
  refine WL.st tbk hs36 1 rfl rfl (fun _ hs41 => WL.r 1 hs41 [] rfl (WL.nil (WC.ret (ibR (tkR ?_)))))
  clear hK32
  refine retV2 rfl (resV.cellA tbk hs41 1 rfl rfl rfl rfl) (resV.tmp rfl) ?_
  refine ⟨r37, _, (by rw [hc]; first | done | rfl), (St.keep1 (hs41.fr L1_38)), ?_, ?_⟩
  · exact ho39
  · rw [hdn]; exact hd40
 have h1 : ¬ compK p.dat data = 1 := of_decide_eq_false h35
 obtain ⟨hdn, hc⟩ := comp_n hk hst h0 h1
 refine WC.skip (hK32 _ _ (WC.sr (WL.r 3 hs31 [0] rfl (WL.st tbk hs31 2 rfl rfl (fun _ hs42 => WL.nil (WC.sr (WL.r 2 hs42 [2] rfl ?_)))))))
 refine WL.st tbk hs42 1 rfl rfl (fun _ hs43 => WL.r 1 hs43 [] rfl (WL.nil (WC.ret (retV2 rfl (resV.cellA tbk hs43 1 rfl rfl rfl rfl) (resV.tmp rfl) ?_))))
 obtain ⟨L44, L45, L46, hs50, ho47, ho48, ho49⟩ := ownDepotR.op hs43 ho27
 have hs51 := (((hs50.fb b2).fb b4).fb b29)
 obtain ⟨L53, hs52, ho54⟩ := ownDepotR.fl hs51 ho47 ho48 ho49
 have hs55 := (((hs52.fb b2).fb b4).fb b29)
 refine ⟨⟨⟨r25.Disk.Room, r25.Disk.Fuse, r25.Disk.Next, SlD.ofN ho47, SlD.of ho48, SlD.of ho49⟩, p.Gen, p.Seq, p.Size, p.Stuck⟩, _, (by rw [hc]; first | done | rfl), (St.keep1 (hs55.fr L53)), ?_, ?_⟩
 · exact (by exact ho54)
 · rw [hdn]; have q_ := congrArg DepotD.Disk hbg; exact DepotD.ext' q_ rfl rfl rfl rfl
set_option maxHeartbeats 4000000 in
theorem k121_ (d : DiskR) (w : World) (f_d : okDiskR 549755813888 w d) (hb : totDisk d.dat ≤ 1048576) :
    Calls Tryz.prog 52 #[.agg #[i64 d.Room, i64 d.Fuse, i64 d.Next, .slice d.Files.A d.Files.n d.Files.c, .slice d.Kept.A d.Kept.n d.Kept.c, .slice d.Turns.A d.Turns.n d.Turns.c]] w fun e w' => e = .returned (.bool (diskOk d.dat)) ∧ St w [] [] w' := by
 have nb_d_Files := f_d.Files_n
 have nl_d_Files := f_d.Files.sl.len
 have nb_d_Kept := f_d.Kept_n
 have nl_d_Kept := f_d.Kept.len
 have nb_d_Turns := f_d.Turns_n
 have nl_d_Turns := f_d.Turns.len
 let w0 := w
 obtain ⟨⟨hb1, hb2, hb3⟩, hb4⟩ := totDisk_facts hb
 have hl1 := f_d.Files.sl.len
 have hl2 := f_d.Kept.len
 have hl3 := f_d.Turns.len
 have hm1 : d.Files.n ≤ 1048576 := by rw [← hl1, ← List.length_map (f := FileR.dat)]; exact hb1
 have hm2 : d.Kept.n ≤ 1048576 := by rw [← hl2]; exact hb2
 have hm3 : d.Turns.n ≤ 1048576 := by rw [← hl3]; exact hb3
 refine enter 193 Tryz.func52 rfl Tryz.ntmps52 rfl rfl ?_
 have hs1 := St.init w
 refine WC.sr (WL.bx hs1 rfl (fun b2 _ hs3 => WL.r 1 hs3 [] rfl (WL.nil (WC.seq (fun K4 hK4 => WC.sq1 hs3 (WQ.r 4 [0] rfl (WQ.pO tbk 3 Acts.nil [0] rfl rfl rfl rfl (fun g_ => ⟨rfl, trivial⟩) ?_)))))))
 refine WQ.r 1 [] rfl (WQ.pO tbk 3 Acts.nil [0] rfl rfl rfl rfl (fun g_ => ⟨rfl, trivial⟩) (WQ.r 1 [] rfl (WQ.pO tbk 3 Acts.nil [0] rfl rfl rfl rfl (fun g_ => ⟨rfl, trivial⟩) (WQ.r 1 [] rfl (WQ.pO tbk 3 Acts.nil [0] rfl rfl rfl rfl (fun g_ => ⟨rfl, trivial⟩) (WQ.r 1 [] rfl (WQ.pO tbk 3 Acts.nil [0] rfl rfl rfl rfl (fun g_ => ⟨rfl, trivial⟩) ?_)))))))
 refine WQ.r 1 [] rfl (WQ.pO tbk 4 Acts.nil [0] rfl rfl rfl rfl (fun g_ => ⟨rfl, trivial⟩) (WQ.r 1 [] rfl (WQ.pO tbk 4 Acts.nil [0] rfl rfl rfl rfl (fun g_ => ⟨rfl, trivial⟩) (WQ.r 1 [] rfl (WQ.pO tbk 4 Acts.nil [0] rfl rfl rfl rfl (fun g_ => ⟨rfl, trivial⟩) (WQ.r 1 [] rfl ?_))))))
 apply WQ.gO 5 Acts.nil rfl
 ·intro g5 J6
  have qg5 := g5
  try simp only [bf, within_iff, within_not] at qg5
  refine WQ.runA tbk 1 (Acts.nil.cons (j := 46) rfl g5) [0] rfl ⟨rfl, trivial⟩ ?_
  refine WQ.call (wantF rfl g5) rfl rfl (fun w_ hs_ => (Run.call Tryz.call101 rfl rfl rfl)) (fun w_ hs_ => (k59_ d _ (okDiskR.st0 f_d (hs_ : St _ _ _ _)) ?_).mono fun e_ w_ h_ => ⟨h_.1, (hs_ : St _ _ _ _).call0 h_.2⟩) ?_
  · first | assumption | rfl | omega
  refine WQ.runA tbk 3 (Acts.nil.cons (j := 46) rfl g5) [0] rfl ⟨rfl, trivial⟩ (WQ.eO 5 Acts.nil J6 g5 rfl rfl)
 refine WQ.nil (fun _ (hs7 : St _ _ _ _) => ?_)
 refine WC.cq rfl (fun h8 qh8 => ?_) (fun h8 qh8 => ?_)
 ·have hbad := disk_front hl1 hl2 hl3
  rw [h8, Bool.not_true] at hbad
  refine WC.r1 hs7 [] rfl (WC.ret (tkR ?_))
  clear hK4
  refine rtv rfl rfl hs7 ?_
  unfold diskOk; rw [hbad]; rfl
 have hA := disk_front hl1 hl2 hl3
 rw [h8, Bool.not_false, Bool.and_eq_true] at hA
 obtain ⟨hA1, hA2⟩ := hA
 refine WC.skip (hK4 _ _ (WC.sr (WL.buildF (F := encI) hs7 ([]) Tryz.runUnderlying64 Tryz.sizeOf3 Tryz.zeroValue3 rfl rfl rfl rfl rfl rfl rfl rfl rfl rfl rfl rfl (fun A12 c13 L9 whs10 hs10 ho11 => ?_))))
 replace hs10 := St.back [_] hs10
 refine WL.r 1 hs10 [] rfl (WL.nil (WC.seq (fun K14 hK14 => WC.r1 hs10 [0] rfl (WC.block ?_))))
 refine WC.lO [1, 66, 69, 70] rfl (hs10.fr L9) (fun k_ f L_ => ∃ (zs : List Int) (i : Nat) (A15 : Option Addr) (c16 : Nat), k_ = d.Files.n - i ∧ (i ≤ d.Files.n) ∧ (zs = (d.Files.xs.take i).map (·.Id)) ∧ (∀ j, j < i → fileOkAt d.Next d.dat.Files j = true) ∧ OwnF encI 3 (.slice A15 (zs.length) c16) (zs) L_ ∧ Sub [(3, .slice A15 (zs.length) c16), (71, .int .i64 i)] f) (((fun (zs : List Int) (i : Nat) => d.Files.n - i) ([]) (0))) ?_ ?_
 ·refine ⟨[], 0, _, _, rfl, ?_, ?_, ?_, ho11, ⟨rfl, rfl, trivial⟩⟩
  · exact Nat.zero_le _
  · rfl
  · exact fun j hj => absurd hj (by omega)
 clear hs10
 rintro _ f w L17 ⟨zs, i, A15, c16, rfl, p0, p1, p2, ho18, hG⟩ hF hs19
 refine WC.sub _ (hG.app hF) ?_
 clear hG hF
 replace hs19 := St.back [_] hs19
 have hzl : zs.length ≤ d.Files.n := by rw [p1, List.length_map, List.length_take]; omega
 refine WC.r1 hs19 [] rfl (WC.seq (fun K20 hK20 => ?_))
 refine WC.cq rfl (fun h21 qh21 => ?_) (fun h21 qh21 => ?_)
 ·have hbl := (f_d.Files.all _ (gat_mem (F := encFileR) (xs := d.Files.xs) (k := i) (by omega))).Body.len
  refine WC.skip (hK20 _ _ (WC.seq (fun K22 hK22 => WC.block (WC.sr (WL.r 1 hs19 [] rfl ?_)))))
  refine WL.val rfl rfl rfl (Run.idxN Tryz.runUnderlying30 Tryz.sizeOf123 rfl rfl rfl ?_ ?_ ?_) ?_
  · exact SlF.some_ (SlF.st0 f_d.Files.sl hs19)
  · omega
  · omega
  refine WL.val rfl rfl rfl (Run.loadA Tryz.isAgg123 Tryz.sizeOf123 rfl rfl (SlF.whole (SlF.st0 f_d.Files.sl hs19) ?_)) ?_
  · omega
  refine WL.al hs19 Tryz.zeroValue123 rfl rfl (fun b23 _ hs24 => WL.r 1 hs24 [] rfl (WL.st tbk hs24 0 rfl rfl (fun _ hs25 => WL.nil (WC.seq (fun K26 hK26 => WC.sq1 hs25 (WQ.r 4 [0] rfl (WQ.pO tbk 5 Acts.nil [0, 1] rfl rfl rfl rfl (fun g_ => ⟨rfl, rfl, trivial⟩) ?_)))))))
  refine WQ.r 1 [] rfl ?_
  apply WQ.gO 14 Acts.nil rfl
  ·intro g27 J28
   have qg27 := g27
   try simp only [bf, within_iff, within_not] at qg27
   refine WQ.runA tbk 3 (Acts.nil.cons (j := 10) rfl g27) [] rfl trivial ?_
   apply WQ.gA 10 (Acts.nil.cons (j := 10) rfl g27) rfl
   ·intro g29 J30
    have qg29 := g29
    try simp only [bf, within_iff, within_not] at qg29
    refine WQ.runA tbk 4 (Acts.nil.cons (j := 13) rfl g29) [1] rfl ⟨by omega, rfl, trivial⟩ ?_
    refine WQ.val (wantT rfl g29) rfl rfl (fun w_ hs_ => (Run.idxK ((i - 1)) Tryz.runUnderlying30 Tryz.sizeOf123 rfl rfl rfl ?_ ?_ ?_)) ?_
    · exact SlF.some_ (SlF.st0 f_d.Files.sl (hs_ : St _ _ _ _))
    · omega
    · omega
    refine WQ.val (wantT rfl g29) rfl rfl (fun w_ hs_ => (Run.fieldO Tryz.runUnderlying123 rfl rfl rfl Tryz.sizeOf3 rfl)) ?_
    refine WQ.val (wantT rfl g29) rfl rfl (fun w_ hs_ => (Run.load Tryz.isAgg3 rfl rfl (SlF.fld (SlF.st0 f_d.Files.sl (hs_ : St _ _ _ _)) ?_ rfl))) ?_
    · omega
    refine WQ.runA tbk 3 (Acts.nil.cons (j := 13) rfl g29) [0] rfl ⟨rfl, trivial⟩ (WQ.eA 10 (Acts.nil.cons (j := 10) rfl g27) J30 g29 rfl rfl)
   exact WQ.eO 4 Acts.nil J28 g27 rfl rfl
  refine WQ.r 1 [] rfl (WQ.pO tbk 3 Acts.nil [0] rfl rfl rfl rfl (fun g_ => ⟨rfl, trivial⟩) (WQ.r 1 [] rfl (WQ.pO tbk 6 Acts.nil [0, 0] rfl rfl rfl rfl (fun g_ => ⟨rfl, rfl, trivial⟩) (WQ.nil (fun _ (hs31 : St _ _ _ _) => ?_)))))
  refine WC.cq rfl (fun h32 qh32 => ?_) (fun h32 qh32 => ?_)
  ·have hbad : filesOk d.dat.Next d.dat.Files = false := range_no (i := i) (by have h9 : d.dat.Files.length = d.Files.xs.length := List.length_map _; omega) (by show fileOkAt d.Next d.dat.Files i = false; rw [fileOk_spec (by omega) hbl, h32]; rfl)
   refine WC.r1 hs31 [] rfl (WC.ret (tkR (ibR (tkR (tkR (ibR (tkR ?_)))))))
   clear hK26 hK22 hK14
   refine rtv rfl rfl hs31 ?_
   simp [diskOk, hbad]
  have hgood : fileOkAt d.Next d.dat.Files i = true := by rw [fileOk_spec (by omega) hbl, h32]; rfl
  refine WC.skip (hK26 _ _ (WC.region (WL.r 3 hs31 [0] rfl (WL.buildSlice hs31 Tryz.runUnderlying64 Tryz.sizeOf3 Tryz.zeroValue3 rfl rfl rfl rfl rfl rfl rfl rfl rfl rfl (fun b33 whs34 hs34 => ?_)))))
  refine WL.appendG (hs34.fr L17) ho18 (srcI1 Tryz.underlying64 (hs34.own _ (nthL_mem (i := 0) rfl)).1) Tryz.underlying64 inf3 rfl rfl rfl rfl rfl rfl rfl rfl rfl rfl ?_ (fun A38 c39 L35 whs36 hs36 ho37 => ?_)
  · simp; omega
  replace hs36 := St.back [_, _, _] hs36
  refine WL.r 1 hs36 [] rfl (WL.nil (hK22 _ _ (WC.region (WL.r 2 hs36 [] rfl (WL.nil (tkN ?_))))))
  replace hs36 := hs36.d1.d1
  refine ⟨sbF rfl, _, (hs36.fr L35), _, ?_, _, i + 1, _, _, rfl, ?_, ?_, ?_, ho37, ⟨rfl, rfl, trivial⟩⟩
  · omega
  · omega
  · rw [p1, List.take_add_one, gat_get (F := encFileR) (by omega), List.map_append]; rfl
  · intro j hj; rcases Nat.lt_or_ge j i with h_ | h_
    · exact p2 j h_
    · obtain rfl : j = i := by omega
      exact hgood
 have hzs : zs = fileIds d.dat := by rw [p1, List.take_of_length_le (by omega)]; simp [fileIds, DiskR.dat, FileR.dat, Function.comp_def]
 have hF : filesOk d.Next d.dat.Files = true := range_all fun j hj => p2 j (by have h9 : d.dat.Files.length = d.Files.xs.length := List.length_map _; omega)
 refine WC.exit (hK14 _ _ (WC.seq (fun K40 hK40 => WC.r1 hs19 [0] rfl (WC.block ?_))))
 refine WC.lS [1, 3, 66, 72, 122, 123] rfl hs19 (fun k_ f w' => ∃ (i : Nat), k_ = d.Kept.n - i ∧ (i ≤ d.Kept.n) ∧ (∀ j, j < i → keptOkAt d.Kept.xs j = true) ∧ Sub [(124, .int .i64 i)] f) ((fun (i : Nat) => d.Kept.n - i) (0)) ?_ ?_
 ·refine ⟨0, rfl, ?_, ?_, ⟨rfl, trivial⟩⟩
  · exact Nat.zero_le _
  · exact fun j hj => absurd hj (by omega)
 clear hs19
 rintro _ f w ⟨i, rfl, p0, p1, hG⟩ hF hs41
 refine WC.sub _ (hG.app hF) ?_
 clear hG hF
 refine WC.r1 hs41 [] rfl (WC.seq (fun K42 hK42 => ?_))
 refine WC.cq rfl (fun h43 qh43 => ?_) (fun h43 qh43 => ?_)
 ·have hkz : (gat encLink d.Kept.xs i).Name.size ≤ 549755813888 := f_d.Kept_s _ (gat_mem (F := encLink) (xs := d.Kept.xs) (k := i) (by omega))
  refine WC.skip (hK42 _ _ (WC.seq (fun K44 hK44 => WC.block (WC.sr (WL.r 1 hs41 [] rfl ?_)))))
  refine WL.val rfl rfl rfl (Run.idxN Tryz.runUnderlying31 Tryz.sizeOf101 rfl rfl rfl ?_ ?_ ?_) ?_
  · exact SlF.some_ (SlF.st0 f_d.Kept hs41)
  · omega
  · omega
  refine WL.val rfl rfl rfl (Run.loadA Tryz.isAgg101 Tryz.sizeOf101 rfl rfl (SlF.whole (SlF.st0 f_d.Kept hs41) ?_)) ?_
  · omega
  refine WL.al hs41 Tryz.zeroValue101 rfl rfl (fun b45 _ hs46 => WL.r 1 hs46 [] rfl (WL.st tbk hs46 0 rfl rfl (fun _ hs47 => WL.nil (WC.sq1 hs47 (WQ.r 2 [0] rfl ?_)))))
  refine WQ.call rfl rfl rfl (fun w_ hs_ => (Run.call Tryz.call102 rfl rfl rfl)) (fun w_ hs_ => (k65_ _ _ ?_).mono fun e_ w_ h_ => ⟨h_.1, (hs_ : St _ _ _ _).call0 h_.2⟩) ?_
  · first | assumption | rfl | omega
  refine WQ.r 2 [] rfl ?_
  apply WQ.gO 14 Acts.nil rfl
  ·intro g48 J49
   have qg48 := g48
   try simp only [bf, within_iff, within_not] at qg48
   refine WQ.runA tbk 3 (Acts.nil.cons (j := 4) rfl g48) [] rfl trivial ?_
   apply WQ.gA 10 (Acts.nil.cons (j := 4) rfl g48) rfl
   ·intro g50 J51
    have qg50 := g50
    try simp only [bf, within_iff, within_not] at qg50
    refine WQ.runA tbk 4 (Acts.nil.cons (j := 7) rfl g50) [1] rfl ⟨by omega, rfl, trivial⟩ ?_
    refine WQ.val (wantT rfl g50) rfl rfl (fun w_ hs_ => (Run.idxK ((i - 1)) Tryz.runUnderlying31 Tryz.sizeOf101 rfl rfl rfl ?_ ?_ ?_)) ?_
    · exact SlF.some_ (SlF.st0 f_d.Kept (hs_ : St _ _ _ _))
    · omega
    · omega
    refine WQ.val (wantT rfl g50) rfl rfl (fun w_ hs_ => (Run.fieldO Tryz.runUnderlying101 rfl rfl rfl Tryz.sizeOf9 rfl)) ?_
    refine WQ.val (wantT rfl g50) rfl rfl (fun w_ hs_ => (Run.load Tryz.isAgg9 rfl rfl (SlF.fld (SlF.st0 f_d.Kept (hs_ : St _ _ _ _)) ?_ rfl))) ?_
    · omega
    refine WQ.runA tbk 2 (Acts.nil.cons (j := 7) rfl g50) [0] rfl ⟨rfl, trivial⟩ ?_
    refine WQ.val (wantT rfl g50) rfl rfl (fun w_ hs_ => (Run.geqT rfl rfl rfl)) ?_
    exact WQ.eA 10 (Acts.nil.cons (j := 4) rfl g48) J51 g50 rfl rfl
   exact WQ.eO 4 Acts.nil J49 g48 rfl rfl
  refine WQ.nil (fun _ (hs52 : St _ _ _ _) => ?_)
  refine WC.cq rfl (fun h53 qh53 => ?_) (fun h53 qh53 => ?_)
  ·have hbad : keptOk d.dat.Kept = false := range_no (i := i) (by have h9 : d.dat.Kept.length = d.Kept.xs.length := rfl; omega) (by rw [kept_spec]; show (!_) = false; rw [show d.dat.Kept = d.Kept.xs from rfl, h53]; rfl)
   refine WC.r1 hs52 [] rfl (WC.ret (ibR (tkR (tkR (ibR (tkR ?_))))))
   clear hK44 hK40
   refine rtv rfl rfl hs52 ?_
   simp [diskOk, hbad]
  have hgood : keptOkAt d.Kept.xs i = true := by rw [kept_spec, h53]; rfl
  refine WC.skip (hK44 _ _ (WC.region (WL.r 2 hs52 [] rfl (WL.nil (tkN ?_)))))
  refine ⟨sbF rfl, (hs52.drop (by repeat (first | exact List.Sublist.refl _ | exact List.sublist_append_left _ _ | exact List.Sublist.trans (List.sublist_append_left _ _) (List.sublist_append_left _ _) | apply List.Sublist.cons | refine List.Sublist.trans ?_ (sR _)))), _, ?_, i + 1, rfl, ?_, ?_, ⟨rfl, trivial⟩⟩
  · omega
  · omega
  · intro j hj; rcases Nat.lt_or_ge j i with h_ | h_
    · exact p1 j h_
    · obtain rfl : j = i := by omega
      exact hgood
 have hK : keptOk d.dat.Kept = true := range_all fun j hj => p1 j (by have h9 : d.dat.Kept.length = d.Kept.xs.length := rfl; omega)
 refine WC.exit (hK40 _ _ (WC.sr (WL.r 1 hs41 [0] rfl ?_)))
 refine WL.cl Tryz.call103 rfl (k58_ d _ (okDiskR.st0 f_d hs41) ?_ ?_) ?_
 iterate 2 first | assumption | rfl | omega
 rintro _ whs54 ⟨A55, c56, L1_57, rfl, hs54, ho58⟩
 replace hs54 := hs41.callF hs54
 refine ⟨_, rfl, ?_⟩
 replace hs54 := St.back [_] hs54
 refine WL.r 1 hs54 [] rfl (WL.nil (WC.seq (fun K59 hK59 => WC.r1 hs54 [] rfl ?_)))
 refine WC.cq rfl (fun h60 qh60 => ?_) (fun h60 qh60 => ?_)
 ·have hbad : idsOk (idsD d.dat) (fileIds d.dat) = false := by unfold idsOk; rw [decide_eq_false (by have h9 := h60; rw [← hzs]; simp at h9; omega)]; rfl
  refine WC.r1 hs54 [] rfl (WC.ret (tkR ?_))
  clear hK59
  refine rtv rfl rfl hs54 ?_
  simp [diskOk, hbad]
 have hil : (idsD d.dat).length = (fileIds d.dat).length := by have h9 := h60; rw [← hzs]; simp at h9; omega
 refine WC.skip (hK59 _ _ (WC.seq (fun K61 hK61 => WC.r1 hs54 [] rfl (WC.block ?_))))
 refine WC.lS [1, 3, 8, 66, 72, 125, 156, 157, 158] rfl hs54 (fun k_ f w' => ∃ (i : Nat), k_ = (idsD d.dat).length - i ∧ (i ≤ (idsD d.dat).length) ∧ (∀ j, j < i → idsOkAt (idsD d.dat) (fileIds d.dat) j = true) ∧ Sub [(159, .int .i64 i)] f) ((fun (i : Nat) => (idsD d.dat).length - i) (0)) ?_ ?_
 ·refine ⟨0, rfl, ?_, ?_, ⟨rfl, trivial⟩⟩
  · exact Nat.zero_le _
  · exact fun j hj => absurd hj (by omega)
 clear hs54
 rintro _ f w ⟨i, rfl, p0, p1, hG⟩ hF hs62
 refine WC.sub _ (hG.app hF) ?_
 clear hG hF
 refine WC.r1 hs62 [] rfl (WC.seq (fun K63 hK63 => ?_))
 refine WC.cq rfl (fun h64 qh64 => ?_) (fun h64 qh64 => ?_)
 ·refine WC.skip (hK63 _ _ (WC.seq (fun K65 hK65 => WC.block (WC.sr (WL.r 1 hs62 [] rfl ?_)))))
  refine WL.val rfl rfl rfl (Run.idxN Tryz.runUnderlying64 Tryz.sizeOf3 rfl rfl rfl ?_ ?_ ?_) ?_
  · exact SlF.some_ (SlF.ofOwn ho58 (hs62.ow L1_57))
  · omega
  · omega
  refine WL.val rfl rfl rfl (Run.load Tryz.isAgg3 rfl rfl (SlF.one1 (SlF.ofOwn ho58 (hs62.ow L1_57)) ?_ rfl)) ?_
  · omega
  refine WL.r 2 hs62 [] rfl (WL.nil (WC.sr (WL.r 2 hs62 [] rfl ?_)))
  have ho66 := OwnF.take (k := i) ho58 (by omega)
  have hcho66 := OwnF.cap ho66
  refine WL.val rfl rfl rfl (Run.sliceH0 (i) Tryz.runUnderlying64 Tryz.sizeOf3 rfl rfl rfl ?_ ?_) ?_
  · first | rfl | (omega)
  · first | (exact Nat.zero_le _) | (omega)
  refine WL.r 1 hs62 [] rfl (WL.cl Tryz.call104 rfl (k66_ _ _ _ _ _ _ (SlF.ofOwn ho66 (hs62.ow L1_57)) ?_) ?_)
  · first | assumption | rfl | omega
  rintro _ whs67 ⟨rfl, hs67⟩
  replace hs67 := hs62.call0 hs67
  refine ⟨_, rfl, WL.r 1 hs67 [] rfl ?_⟩
  apply WL.gO 4 Acts.nil hs67 rfl
  ·intro g68 J69
   have qg68 := g68
   try simp only [bf, within_iff, within_not] at qg68
   refine WL.runA tbk 2 (Acts.nil.cons (j := 5) rfl g68) hs67 [] rfl trivial (WL.call (wantF rfl g68) rfl rfl (Run.call Tryz.call104 rfl rfl rfl) (k66_ _ _ _ _ _ _ (SlF.ofOwn ho18 (hs67.ow L17)) ?_) ?_)
   · first | assumption | rfl | omega
   rintro _ whs70 ⟨rfl, hs70⟩
   replace hs70 := hs67.call0 hs70
   refine ⟨_, rfl, WL.runA tbk 1 (Acts.nil.cons (j := 5) rfl g68) hs70 [] rfl trivial (WL.eO 4 Acts.nil J69 hs70 g68 rfl rfl)⟩
  intro _ hs71
  refine WL.nil (WC.cq rfl (fun h72 qh72 => ?_) (fun h72 qh72 => ?_))
  ·have hbad : idsOk (idsD d.dat) (fileIds d.dat) = false := by unfold idsOk; rw [range_no (i := i) (by omega) (by rw [idsAt_spec, ← hzs, h72]; rfl), Bool.and_false]
   refine WC.r1 hs71 [] rfl (WC.ret (ibR (tkR (tkR (ibR (tkR ?_))))))
   clear hK65 hK61
   refine rtv rfl rfl hs71 ?_
   simp [diskOk, hbad]
  have hgood : idsOkAt (idsD d.dat) (fileIds d.dat) i = true := by rw [idsAt_spec, ← hzs, h72]; rfl
  refine WC.skip (hK65 _ _ (WC.region (WL.r 2 hs71 [] rfl (WL.nil (tkN ?_)))))
  refine ⟨sbF rfl, hs71, _, ?_, i + 1, rfl, ?_, ?_, ⟨rfl, trivial⟩⟩
  · omega
  · omega
  · intro j hj; rcases Nat.lt_or_ge j i with h_ | h_
    · exact p1 j h_
    · obtain rfl : j = i := by omega
      exact hgood
 have hI : idsOk (idsD d.dat) (fileIds d.dat) = true := by unfold idsOk; rw [decide_eq_true hil]; exact range_all fun j hj => p1 j (by omega)
 refine WC.exit (hK61 _ _ (WC.r1 hs62 [0] rfl (WC.seq (fun K73 hK73 => WC.r1 hs62 [0] rfl (WC.block ?_)))))
 refine WC.lO [66, 72, 125, 156, 160, 179, 180] rfl (hs62.fr ([] : Hp)) (fun k_ f L_ => ∃ (zs : List LinkD) (i n9 : Nat) (A75 : Option Addr) (c76 : Nat), k_ = d.Turns.n - i ∧ (i ≤ d.Turns.n) ∧ (zs = turnsL d.Kept.xs (d.Turns.xs.take i)) ∧ (runS d.Kept.xs (d.Turns.xs.take i) = true) ∧ AnyF w0 encLink 101 (.slice A75 (n9) c76) (zs) L_ ∧ Sub [(11, .slice A75 (n9) c76), (181, .int .i64 i)] f) (((fun (zs : List LinkD) (i n9 : Nat) => d.Turns.n - i) (d.Kept.xs) (0) (d.Kept.n))) ?_ ?_
 ·refine ⟨d.Kept.xs, 0, d.Kept.n, _, _, rfl, ?_, ?_, ?_, (AnyF.rdo f_d.Kept), ⟨rfl, rfl, trivial⟩⟩
  · exact Nat.zero_le _
  · rfl
  · rfl
 clear hs62
 rintro _ f w L77 ⟨zs, i, n9, A75, c76, rfl, p0, p1, p2, ho78, hG⟩ hF hs79
 refine WC.sub _ (hG.app hF) ?_
 clear hG hF
 replace hs79 := St.back [_] hs79
 have hzl : zs.length = n9 := AnyF.cap ho78
 have hzn : zs.length ≤ 2097152 := by rw [p1]; have h9 := turnsL_len (dir := d.Kept.xs) (l := d.Turns.xs.take i); rw [List.length_take] at h9; omega
 refine WC.r1 hs79 [] rfl (WC.seq (fun K80 hK80 => ?_))
 refine WC.cq rfl (fun h81 qh81 => ?_) (fun h81 qh81 => ?_)
 ·obtain ⟨htz1, htz2⟩ := f_d.Turns_s _ (gat_mem (F := encTurn) (xs := d.Turns.xs) (k := i) (by omega))
  refine WC.skip (hK80 _ _ (WC.seq (fun K82 hK82 => WC.block (WC.sr ?_))))
  refine WL.val rfl rfl rfl (Run.idxN Tryz.runUnderlying32 Tryz.sizeOf137 rfl rfl rfl ?_ ?_ ?_) ?_
  · exact SlF.some_ (SlF.st0 f_d.Turns hs79)
  · omega
  · omega
  refine WL.val rfl rfl rfl (Run.loadA Tryz.isAgg137 Tryz.sizeOf137 rfl rfl (SlF.whole (SlF.st0 f_d.Turns hs79) ?_)) ?_
  · omega
  refine WL.al hs79 Tryz.zeroValue137 rfl rfl (fun b83 _ hs84 => WL.st tbk hs84 0 rfl rfl (fun _ hs85 => WL.nil (WC.seq (fun K86 hK86 => WC.sr (WL.r 2 hs85 [0] rfl ?_)))))
  refine WL.cl Tryz.call105 rfl (k68_ _ _ _ _ _ _ _ _ _ (AnyF.rd ho78 hs85 (hs85.ow L77)) ?_ ?_ ?_) ?_
  iterate 3 first | assumption | rfl | omega
  rintro _ whs87 ⟨rfl, hs87⟩
  replace hs87 := hs85.call0 hs87
  refine ⟨_, rfl, WL.r 1 hs87 [] rfl (WL.nil (WC.cq rfl (fun h88 qh88 => ?_) (fun h88 qh88 => ?_)))⟩
  ·have hbad : runS d.Kept.xs d.Turns.xs = false := runS_bad (i := i) (by omega) (by rw [← p1]; have h9 := h88; simpa using h9)
   refine WC.r1 hs87 [] rfl (WC.ret (tkR (ibR (tkR (tkR (ibR (tkR ?_)))))))
   clear hK86 hK82 hK73
   refine rtv rfl rfl hs87 ?_
   unfold diskOk; rw [show runS d.dat.Kept d.dat.Turns = false from hbad, Bool.and_false]
  have hgood : turnOk (turnsL d.Kept.xs (d.Turns.xs.take i)) (gat encTurn d.Turns.xs i) = true := by rw [← p1]; have h9 := h88; simpa using h9
  refine WC.skip (hK86 _ _ (WC.region (WL.r 2 hs87 [0] rfl ?_)))
  refine WL.cl Tryz.call106 rfl (k67_ _ _ _ _ _ _ _ _ _ (AnyF.rd ho78 hs87 (hs87.ow L77)) ?_) ?_
  · first | assumption | rfl | omega
  rintro _ whs89 ⟨A90, c91, L1_92, rfl, hs89, ho93⟩
  replace hs89 := hs87.callF hs89
  refine ⟨_, rfl, ?_⟩
  replace hs89 := St.back [_, _] hs89
  refine WL.r 1 hs89 [] rfl (WL.nil (hK82 _ _ (WC.region (WL.r 2 hs89 [] rfl (WL.nil (tkN ?_))))))
  replace hs89 := (hs89.d1.rm L77)
  refine ⟨sbF rfl, _, (hs89.fr L1_92), _, ?_, _, i + 1, _, _, _, rfl, ?_, ?_, ?_, (AnyF.of ho93), ⟨rfl, rfl, trivial⟩⟩
  · omega
  · omega
  · rw [turnsL_take (by omega), ← p1]
  · exact runS_take (by omega) p2 hgood
 have hR : runS d.Kept.xs d.Turns.xs = true := by rw [List.take_of_length_le (by omega)] at p2; exact p2
 refine WC.exit (hK73 _ _ (WC.r1 hs79 [] rfl (WC.ret (rtv rfl rfl hs79 ?_))))
 unfold diskOk; rw [hA1, hA2, show filesOk d.dat.Next d.dat.Files = true from hF, hK, hI, show runS d.dat.Kept d.dat.Turns = true from hR]; rfl
theorem k122_ (d : DiskR) (n : Nat) (w : World) (f_d : okDiskR 549755813888 w d) (hn : n ≤ d.Turns.n) (h1 : d.Kept.n ≤ 1048576) (h2 : d.Turns.n ≤ 1048576) :
    Calls Tryz.prog 123 #[.agg #[i64 d.Room, i64 d.Fuse, i64 d.Next, .slice d.Files.A d.Files.n d.Files.c, .slice d.Kept.A d.Kept.n d.Kept.c, .slice d.Turns.A d.Turns.n d.Turns.c], .int .i64 n] w fun e w' => ∃ A c L1, e = .returned (.slice A (turnsL d.Kept.xs (d.Turns.xs.take n)).length c) ∧ St w [] L1 w' ∧ OwnF encLink 101 (.slice A (turnsL d.Kept.xs (d.Turns.xs.take n)).length c) (turnsL d.Kept.xs (d.Turns.xs.take n)) L1 := by
 have nb_d_Files := f_d.Files_n
 have nl_d_Files := f_d.Files.sl.len
 have nb_d_Kept := f_d.Kept_n
 have nl_d_Kept := f_d.Kept.len
 have nb_d_Turns := f_d.Turns_n
 have nl_d_Turns := f_d.Turns.len
 have hl2 := f_d.Kept.len
 have hl3 := f_d.Turns.len
 refine enter 24 Tryz.func123 rfl Tryz.ntmps123 rfl rfl ?_
 have hs1 := St.init w
 refine WC.sr (WL.bx hs1 rfl (fun b2 _ hs3 => WL.r 1 hs3 [] rfl (WL.nil (WC.sr (WL.buildF (F := encLink) hs3 ([]) Tryz.runUnderlying31 Tryz.sizeOf101 Tryz.zeroValue101 rfl rfl rfl rfl rfl rfl rfl rfl rfl rfl rfl rfl (fun A7 c8 L4 whs5 hs5 ho6 => ?_))))))
 replace hs5 := St.back [_] hs5
 refine WL.r 2 hs5 [0] rfl (WL.appendG (hs5.fr L4) ho6 (SlF.src (SlF.st0 f_d.Kept hs5) Tryz.underlying31) Tryz.underlying31 inf101 rfl rfl rfl rfl rfl rfl rfl rfl rfl rfl ?_ (fun A12 c13 L9 whs10 hs10 ho11 => ?_))
 · simp; omega
 replace hs10 := St.back [_] hs10
 refine WL.r 1 hs10 [] rfl (WL.nil (WC.seq (fun K14 hK14 => WC.r1 hs10 [] rfl (WC.block ?_))))
 refine WC.lO [1, 2, 4] rfl (hs10.fr L9) (fun k_ f L_ => ∃ (zs : List LinkD) (i : Nat) (A15 : Option Addr) (c16 : Nat), k_ = n - i ∧ (i ≤ n) ∧ (zs = turnsL d.Kept.xs (d.Turns.xs.take i)) ∧ OwnF encLink 101 (.slice A15 (zs.length) c16) (zs) L_ ∧ Sub [(5, .slice A15 (zs.length) c16), (6, .int .i64 i)] f) (((fun (zs : List LinkD) (i : Nat) => n - i) (d.Kept.xs) (0))) ?_ ?_
 ·refine ⟨d.Kept.xs, 0, _, _, rfl, ?_, ?_, ho11, ⟨rfl, rfl, trivial⟩⟩
  · exact Nat.zero_le _
  · rfl
 clear hs10
 rintro _ f w L17 ⟨zs, i, A15, c16, rfl, p0, p1, ho18, hG⟩ hF hs19
 refine WC.sub _ (hG.app hF) ?_
 clear hG hF
 replace hs19 := St.back [_] hs19
 have hzn : zs.length ≤ 2097152 := by rw [p1]; have h9 := turnsL_len (dir := d.Kept.xs) (l := (d.Turns.xs.take i)); rw [List.length_take] at h9; omega
 refine WC.seq (fun K20 hK20 => WC.r1 hs19 [] rfl ?_)
 refine WC.cq rfl (fun h21 qh21 => ?_) (fun h21 qh21 => ?_)
 ·refine WC.skip (hK20 _ _ (WC.seq (fun K22 hK22 => WC.block (WC.region (WL.r 4 hs19 [0] rfl ?_)))))
  refine WL.val rfl rfl rfl (Run.idxN Tryz.runUnderlying32 Tryz.sizeOf137 rfl rfl rfl ?_ ?_ ?_) ?_
  · exact SlF.some_ (SlF.st0 f_d.Turns hs19)
  · omega
  · omega
  refine WL.val rfl rfl rfl (Run.loadA Tryz.isAgg137 Tryz.sizeOf137 rfl rfl (SlF.whole (SlF.st0 f_d.Turns hs19) ?_)) ?_
  · omega
  refine WL.cl Tryz.call106 rfl (k67_ _ _ _ _ _ _ _ _ _ (SlF.ofOwn ho18 (hs19.ow L17)) ?_) ?_
  · first | assumption | rfl | omega
  rintro _ whs23 ⟨A24, c25, L1_26, rfl, hs23, ho27⟩
  replace hs23 := hs19.callF hs23
  refine ⟨_, rfl, ?_⟩
  replace hs23 := St.back [_] hs23
  refine WL.r 1 hs23 [] rfl (WL.nil (hK22 _ _ (WC.region (WL.r 3 hs23 [] rfl (WL.nil (tkN ?_))))))
  replace hs23 := (hs23.rm L17)
  refine ⟨sbF rfl, _, (hs23.fr L1_26), _, ?_, _, i + 1, _, _, rfl, ?_, ?_, ho27, ⟨rfl, rfl, trivial⟩⟩
  · omega
  · omega
  · rw [turnsL_take (by omega), ← p1]
 refine WC.exit (hK14 _ _ (WC.r1 hs19 [] rfl (WC.ret (retV1 rfl (resV.tmp rfl) ?_))))
 have hx_ := OwnF.eqOf (xs := turnsL d.Kept.xs (d.Turns.xs.take n)) ho18 (by rw [p1, show i = n by omega])
 rw [← hx_]
 first | exact ⟨_, _, _, rfl, (St.keep1 (hs19.fr L17)), ho18⟩ | exact ⟨A15, c16, _, by rw [OwnF.len_ ho18], (St.keep1 (hs19.fr L17)), by rw [OwnF.len_ ho18]; exact ho18⟩
theorem k123_ (d : DiskR) (w : World) (f_d : okDiskR 549755813888 w d) (hok : diskOk d.dat = true) (hb : totDisk d.dat ≤ 1048576) :
    Calls Tryz.prog 69 #[.agg #[i64 d.Room, i64 d.Fuse, i64 d.Next, .slice d.Files.A d.Files.n d.Files.c, .slice d.Kept.A d.Kept.n d.Kept.c, .slice d.Turns.A d.Turns.n d.Turns.c]] w fun e w' => ∃ A c L1, e = .returned (.slice A (dirD d.dat).length c) ∧ St w [] L1 w' ∧ OwnF encLink 101 (.slice A (dirD d.dat).length c) (dirD d.dat) L1 := by
 have nb_d_Files := f_d.Files_n
 have nl_d_Files := f_d.Files.sl.len
 have nb_d_Kept := f_d.Kept_n
 have nl_d_Kept := f_d.Kept.len
 have nb_d_Turns := f_d.Turns_n
 have nl_d_Turns := f_d.Turns.len
 have hD := diskOk_P hok
 obtain ⟨hs1, hs2, hs3, hs4, hs5, hs6, hs7, hs8⟩ := hD.small
 have hl1 := f_d.Files.sl.len
 have hl2 := f_d.Kept.len
 have hl3 := f_d.Turns.len
 have hm1 : d.Files.n ≤ 10 := by rw [← hl1, ← List.length_map (f := FileR.dat)]; exact hs1
 have hm2 : d.Kept.n ≤ 10 := by rw [← hl2]; exact hs2
 have hm3 : d.Turns.n ≤ 30 := by rw [← hl3]; exact hs3
 have hdl : (dirD d.dat).length ≤ 40 := Nat.le_trans turnsL_len (by show d.Kept.xs.length + d.Turns.xs.length ≤ 40; omega)
 refine enter 11 Tryz.func69 rfl Tryz.ntmps69 rfl rfl ?_
 have hs1 := St.init w
 refine WC.sr (WL.bx hs1 rfl (fun b2 _ hs3 => WL.r 1 hs3 [] rfl (WL.nil (WC.seq (fun K4 hK4 => WC.sr (WL.r 1 hs3 [0] rfl ?_))))))
 refine WL.cl Tryz.call52 rfl (k121_ d _ (okDiskR.st0 f_d hs3) ?_) ?_
 · first | assumption | rfl | omega | exact Nat.le_refl _
 rintro _ whs5 ⟨rfl, hs5⟩
 replace hs5 := hs3.call0 hs5
 refine ⟨_, rfl, WL.r 1 hs5 [] rfl (WL.nil (WC.cq rfl (fun h6 qh6 => ?_) (fun h6 qh6 => ?_)))⟩
 ·exfalso; have h9 := h6; rw [hok] at h9; cases h9
 refine WC.skip (hK4 _ _ (WC.sr (WL.r 4 hs5 [0, 0] rfl ?_)))
 refine WL.cl Tryz.call123 rfl (k122_ d _ _ (okDiskR.st0 f_d hs5) ?_ ?_ ?_) ?_
 iterate 3 first | assumption | rfl | omega | exact Nat.le_refl _
 rintro _ whs7 ⟨A8, c9, L1_10, rfl, hs7, ho11⟩
 replace hs7 := hs5.callF hs7
 refine ⟨_, rfl, ?_⟩
 replace hs7 := St.back [_] hs7
 refine WL.r 1 hs7 [] rfl (WL.nil (WC.ret (retV1 rfl (resV.tmp rfl) ?_)))
 have hx_ := OwnF.eqOf (xs := dirD d.dat) ho11 (by rw [List.take_of_length_le (by omega)]; rfl)
 rw [← hx_]
 first | exact ⟨_, _, _, rfl, (St.keep1 (hs7.fr L1_10)), ho11⟩ | exact ⟨A8, c9, _, by rw [OwnF.len_ ho11], (St.keep1 (hs7.fr L1_10)), by rw [OwnF.len_ ho11]; exact ho11⟩
set_option maxHeartbeats 4000000 in
theorem k124_ (d : DiskR) (w : World) (f_d : okDiskR 549755813888 w d) (hsm : smDisk 1048576 d.dat) :
    Calls Tryz.prog 66 #[.agg #[i64 d.Room, i64 d.Fuse, i64 d.Next, .slice d.Files.A d.Files.n d.Files.c, .slice d.Kept.A d.Kept.n d.Kept.c, .slice d.Turns.A d.Turns.n d.Turns.c]] w fun e w' => ∃ r L1, e = .returned (.agg #[i64 r.Room, i64 r.Fuse, i64 r.Next, .slice r.Files.A r.Files.n r.Files.c, .slice r.Kept.A r.Kept.n r.Kept.c, .slice r.Turns.A r.Turns.n r.Turns.c]) ∧ St w [] L1 w' ∧ ownDiskR r L1 ∧ r.dat = d.dat := by
 have nb_d_Files := f_d.Files_n
 have nl_d_Files := f_d.Files.sl.len
 have nb_d_Kept := f_d.Kept_n
 have nl_d_Kept := f_d.Kept.len
 have nb_d_Turns := f_d.Turns_n
 have nl_d_Turns := f_d.Turns.len
 have hF9 : d.Files.xs.length ≤ 1048576 := by have h_ := hsm.1; simpa [DiskR.dat] using h_
 have hl1 := f_d.Files.sl.len
 have hl2 := f_d.Kept.len
 have hl3 := f_d.Turns.len
 have hm2 : d.Kept.xs.length ≤ 1048576 := hsm.2.2.1
 have hm3 : d.Turns.xs.length ≤ 1048576 := hsm.2.2.2.2.1
 refine enter 40 Tryz.func66 rfl Tryz.ntmps66 rfl rfl ?_
 have hs1 := St.init w
 refine WC.sr (WL.bx hs1 rfl (fun b2 _ hs3 => WL.al hs3 Tryz.zeroValue34 rfl rfl (fun b4 _ hs5 => WL.nil (WC.sr (WL.buildF (F := encFileR) hs5 ([]) Tryz.runUnderlying30 Tryz.sizeOf123 Tryz.zeroValue123 rfl rfl rfl rfl rfl rfl rfl rfl rfl rfl rfl rfl (fun A9 c10 L6 whs7 hs7 ho8 => ?_))))))
 replace hs7 := St.back [_, _] hs7
 obtain ⟨L11, hs12, ho13⟩ := OwnN.fresh (own := ownFileR) (hs7.fr L6) ho8 Bag.nil
 have hs14 := ((hs12.fb b2).fb b4)
 refine WL.r 1 hs14 [] rfl (WL.nil (WC.seq (fun K15 hK15 => WC.r1 hs14 [1] rfl (WC.block ?_))))
 have hM20 := (St.grp1 (L1 := L11) [] (((hs14.fb b2).fb b4).fr L11))
 refine WC.lV [1, 2, 8, 9] rfl hM20 (fun k_ (a_ : Hp) f => ∃ (i : Nat) (fs : List FileR) (A16 : Option Addr) (c17 : Nat) (L18 : Hp), k_ = d.Files.n - i ∧ a_ = L18 ∧ (i ≤ d.Files.n) ∧ (fs.map FileR.dat = (d.Files.xs.take i).map FileR.dat) ∧ (fs.length = i) ∧ OwnN encFileR ownFileR 123 (.slice A16 (fs).length c17) (fs) L18 ∧ Sub [(3, .slice A16 (fs).length c17), (10, .int .i64 i)] f) (d.Files.n) ?_ ?_
 ·refine ⟨0, [], A9, c10, L11, rfl, rfl, ?_, ?_, ?_, ho13, ⟨rfl, rfl, trivial⟩⟩
  · exact Nat.zero_le _
  · rfl
  · rfl
 rintro _ L18 f w ⟨i, fs, A16, c17, _, rfl, rfl, p0, p1, p2, ho19, hG⟩ hF hs21
 refine WC.sub _ (hG.app hF) ?_
 clear hG hF
 replace hs21 := St.ungrp1 [] hs21
 have hs22 := ((hs21.fb b2).fb b4)
 refine WC.r1 hs22 [] rfl (WC.seq (fun K23 hK23 => ?_))
 refine WC.cD rfl (fun qh24 => ?_) (fun qh24 => ?_)
 ·have hbl := (SlN.nth f_d.Files (show i < d.Files.n by omega)).Body.len
  have hbn : (gat encFileR d.Files.xs i).Body.xs.length ≤ 1048576 := hsm.2.1 _ (List.mem_map_of_mem (f := FileR.dat) (gat_mem (F := encFileR) (xs := d.Files.xs) (k := i) (by omega)))
  refine WC.skip (hK23 _ _ (WC.seq (fun K25 hK25 => WC.block (WC.sr ?_))))
  refine WL.val rfl rfl rfl (Run.idxN Tryz.runUnderlying30 Tryz.sizeOf123 rfl rfl rfl ?_ ?_ ?_) ?_
  · exact SlF.some_ (SlF.st0 f_d.Files.sl hs22)
  · omega
  · omega
  refine WL.val rfl rfl rfl (Run.loadA Tryz.isAgg123 Tryz.sizeOf123 rfl rfl (SlF.whole (SlF.st0 f_d.Files.sl hs22) ?_)) ?_
  · omega
  refine WL.al hs22 Tryz.zeroValue123 rfl rfl (fun b26 _ hs27 => WL.st tbk hs27 0 rfl rfl (fun _ hs28 => WL.nil (WC.rH (hs28.rm L18) hs28 (fun _ hs29 => ?_))))
  refine WH.rn [0, 1, 2, 4, 5, 7, 8] (hs29.rm L18) [0, 0, 0] rfl rfl (WH.o1 3 rfl (WL.buildF (F := encB) hs29 ([]) Tryz.runUnderlying43 Tryz.sizeOf5 Tryz.zeroValue5 rfl rfl rfl rfl rfl rfl rfl rfl rfl rfl rfl rfl (fun A33 c34 L30 whs31 hs31 ho32 => ?_)))
  replace hs31 := St.back [_, _, _] hs31
  refine WL.nil ⟨((hs31.rm L30).rm L18), WH.o1 6 rfl (WL.appendG (hs31.fr L30) ho32 (SlF.src (SlF.st0 (SlN.nth f_d.Files (by omega)).Body hs31) Tryz.underlying43) Tryz.underlying43 inf5 rfl rfl rfl rfl rfl rfl rfl rfl rfl rfl ?_ (fun A38 c39 L35 whs36 hs36 ho37 => ?_))⟩
  · (try simp only [List.length_append, List.length_singleton, List.nil_append, List.length_nil]); first | omega
  replace hs36 := St.back [_, _, _] hs36
  refine WL.nil ⟨((hs36.rm L35).rm L18), ?_⟩
  refine WH.take 9 rfl (by kernel_rfl) rfl rfl rfl ((hs36.rm L35).rm L18) (fun w_ hs_ => (Run.build rfl rfl rfl rfl (built_123_0_1_2 _ _ _ _ _))) ?_
  refine WH.o1 10 rfl (WL.buildSlice hs36 Tryz.runUnderlying30 Tryz.sizeOf123 Tryz.zeroValue123 rfl rfl rfl rfl rfl rfl rfl rfl rfl rfl (fun b40 whs41 hs41 => WL.nil ⟨((hs41.d1.rm L35).rm L18), WH.o1 11 rfl ?_⟩))
  obtain ⟨L42, L43, hs46, ho44, ho45⟩ := OwnN.open_ (hs41.fr L18) ho19
  have hs47 := ((((hs46.fb b2).fb b4).fb b26).fb b40)
  refine WL.appendG (hs47.fr L42) ho44 (srcF (F := encFileR) (ys := [(⟨(gat encFileR d.Files.xs i).Id, SlD.of ho37, (gat encFileR d.Files.xs i).Safe⟩ : FileR)]) Tryz.underlying30 rfl rfl (hs47.own _ (nthL_mem (i := 0) rfl)).1) Tryz.underlying30 inf123 rfl rfl rfl rfl rfl rfl rfl rfl rfl rfl ?_ (fun A51 c52 L48 whs49 hs49 ho50 => ?_)
  · (try simp only [List.length_append, List.length_singleton, List.nil_append, List.length_nil]); first | omega
  replace hs49 := St.back [_, _, _, _] hs49
  obtain ⟨L53, hs54, hb55⟩ := Bag.put (x := (⟨(gat encFileR d.Files.xs i).Id, SlD.of ho37, (gat encFileR d.Files.xs i).Safe⟩ : FileR)) ((hs49.fr L35).fr L43) ho45 ho37
  have hs56 := ((((hs54.fb b2).fb b4).fb b26).fb b40)
  obtain ⟨L58, hs57, ho59⟩ := OwnN.fold ((hs56.fr L53).fr L48) ho50 hb55
  have hs60 := ((((hs57.fb b2).fb b4).fb b26).fb b40)
  refine WL.nil ⟨(hs60.d1.rm L58), WH.rn [12] (hs60.d1.rm L58) [] rfl rfl (WH.dn (hK25 _ _ (WC.region (WL.r 2 hs60 [] rfl (WL.nil (tkN ?_))))))⟩
  replace hs60 := hs60.d1.d1
  have hF61 := (St.grp1 (L1 := L58) [] (((hs60.fb b2).fb b4).fr L58))
  refine ⟨sbF rfl, _, hF61, _, ?_, i + 1, ((fs) ++ [(⟨(gat encFileR d.Files.xs i).Id, SlD.of ho37, (gat encFileR d.Files.xs i).Safe⟩ : FileR)]), A51, c52, L58, rfl, rfl, ?_, ?_, ?_, ho59, ⟨rfl, rfl, trivial⟩⟩
  · omega
  · omega
  · rw [List.map_append, p1, map_take_succ (F := encFileR) (by omega)]; rfl
  · simp only [List.length_append, List.length_singleton]; omega
 refine WC.exit (hK15 _ _ (WC.sr (WL.r 2 hs22 [] rfl (WL.st tbk hs22 1 rfl rfl (fun _ hs62 => WL.nil (WC.sr (WL.buildF (F := encLink) hs62 ([]) Tryz.runUnderlying31 Tryz.sizeOf101 Tryz.zeroValue101 rfl rfl rfl rfl rfl rfl rfl rfl rfl rfl rfl rfl (fun A66 c67 L63 whs64 hs64 ho65 => ?_))))))))
 replace hs64 := St.back [_, _] hs64
 refine WL.r 2 hs64 [1] rfl (WL.appendG (hs64.fr L63) ho65 (SlF.src (SlF.st0 f_d.Kept hs64) Tryz.underlying31) Tryz.underlying31 inf101 rfl rfl rfl rfl rfl rfl rfl rfl rfl rfl ?_ (fun A71 c72 L68 whs69 hs69 ho70 => ?_))
 · (try simp only [List.length_append, List.length_singleton, List.nil_append, List.length_nil]); first | omega
 replace hs69 := St.back [_, _] hs69
 refine WL.r 1 hs69 [] rfl (WL.st tbk hs69 1 rfl rfl (fun _ hs73 => WL.nil (WC.sr (WL.buildF (F := encTurn) hs73 ([]) Tryz.runUnderlying32 Tryz.sizeOf137 Tryz.zeroValue137 rfl rfl rfl rfl rfl rfl rfl rfl rfl rfl rfl rfl (fun A77 c78 L74 whs75 hs75 ho76 => ?_)))))
 replace hs75 := St.back [_, _] hs75
 refine WL.r 2 hs75 [1] rfl (WL.appendG (hs75.fr L74) ho76 (SlF.src (SlF.st0 f_d.Turns hs75) Tryz.underlying32) Tryz.underlying32 inf137 rfl rfl rfl rfl rfl rfl rfl rfl rfl rfl ?_ (fun A82 c83 L79 whs80 hs80 ho81 => ?_))
 · (try simp only [List.length_append, List.length_singleton, List.nil_append, List.length_nil]); first | omega
 replace hs80 := St.back [_, _] hs80
 refine WL.r 1 hs80 [] rfl (WL.st tbk hs80 1 rfl rfl (fun _ hs84 => WL.nil (WC.sr (WL.r 1 hs84 [1] rfl (WL.st tbk hs84 0 rfl rfl (fun _ hs85 => WL.nil (WC.ret ?_)))))))
 refine retV1 rfl (resV.cellA tbk hs85 0 rfl rfl rfl rfl) ?_
 have hb_ : fs.map FileR.dat = d.dat.Files := by rw [p1, List.take_of_length_le (by omega)]; rfl
 obtain ⟨L87, hs86, ho88⟩ := ownDiskR.fl hs85 ho19 ho70 ho81
 have hs89 := ((hs86.fb b2).fb b4)
 refine ownDiskR.ret rfl (St.keep1 (hs89.fr L87)) ho88 ?_
 · exact DiskD.ext' rfl rfl rfl hb_ rfl rfl
theorem k125_ (d : DiskR) (id : Int) (w : World) (f_d : okDiskR 549755813888 w d) :
    Calls Tryz.prog 109 #[.agg #[i64 d.Room, i64 d.Fuse, i64 d.Next, .slice d.Files.A d.Files.n d.Files.c, .slice d.Kept.A d.Kept.n d.Kept.c, .slice d.Turns.A d.Turns.n d.Turns.c], i64 id] w fun e w' => e = .returned (.int .i64 (atI d.dat.Files id)) ∧ St w [] [] w' := by
 have nb_d_Files := f_d.Files_n
 have nl_d_Files := f_d.Files.sl.len
 have nb_d_Kept := f_d.Kept_n
 have nl_d_Kept := f_d.Kept.len
 have nb_d_Turns := f_d.Turns_n
 have nl_d_Turns := f_d.Turns.len
 have hl1 := f_d.Files.sl.len
 refine enter 21 Tryz.func109 rfl Tryz.ntmps109 rfl rfl ?_
 have hs1 := St.init w
 refine WC.sr (WL.bx hs1 rfl (fun b2 _ hs3 => WL.r 1 hs3 [] rfl (WL.nil (WC.seq (fun K4 hK4 => WC.r1 hs3 [0] rfl (WC.block ?_))))))
 refine WC.lS [1, 8, 9] rfl hs3 (fun k_ f w' => ∃ (i : Nat), k_ = d.Files.n - i ∧ (i ≤ d.Files.n) ∧ (∀ j, j < i → (fun f : FileR => decide (f.Id = id)) (gat encFileR d.Files.xs j) = false) ∧ Sub [(10, .int .i64 i)] f) ((fun (i : Nat) => d.Files.n - i) (0)) ?_ ?_
 ·refine ⟨0, rfl, ?_, ?_, ⟨rfl, trivial⟩⟩
  · exact Nat.zero_le _
  · exact fun j hj => absurd hj (by omega)
 clear hs3
 rintro _ f w ⟨i, rfl, p0, p1, hG⟩ hF hs5
 refine WC.sub _ (hG.app hF) ?_
 clear hG hF
 refine WC.r1 hs5 [] rfl (WC.seq (fun K6 hK6 => ?_))
 refine WC.cq rfl (fun h7 qh7 => ?_) (fun h7 qh7 => ?_)
 ·refine WC.skip (hK6 _ _ (WC.seq (fun K8 hK8 => WC.block (WC.sr (WL.r 1 hs5 [] rfl ?_)))))
  refine WL.val rfl rfl rfl (Run.idxN Tryz.runUnderlying30 Tryz.sizeOf123 rfl rfl rfl ?_ ?_ ?_) ?_
  · exact SlF.some_ (SlF.st0 f_d.Files.sl hs5)
  · omega
  · omega
  refine WL.val rfl rfl rfl (Run.loadA Tryz.isAgg123 Tryz.sizeOf123 rfl rfl (SlF.whole (SlF.st0 f_d.Files.sl hs5) ?_)) ?_
  · omega
  refine WL.al hs5 Tryz.zeroValue123 rfl rfl (fun b9 _ hs10 => WL.r 1 hs10 [] rfl (WL.st tbk hs10 0 rfl rfl (fun _ hs11 => WL.nil (WC.r1 hs11 [0] rfl ?_))))
  refine WC.cq rfl (fun h12 qh12 => ?_) (fun h12 qh12 => ?_)
  ·refine WC.r1 hs11 [] rfl (WC.ret (ibR (tkR (tkR (ibR (tkR ?_))))))
   clear hK8 hK4
   refine rtv rfl rfl hs11 ?_
   rw [show atI d.dat.Files id = findI (fun f : FileR => decide (f.Id = id)) d.Files.xs from findI_map]; exact congrArg (Value.int _) (findI_some (F := encFileR) (p := (fun f : FileR => decide (f.Id = id))) (xs := d.Files.xs) (by omega) p1 h12).symm
  refine WC.skip (hK8 _ _ (WC.region (WL.r 2 hs11 [] rfl (WL.nil (tkN ?_)))))
  refine ⟨sbF rfl, (hs11.drop (by repeat (first | exact List.Sublist.refl _ | exact List.sublist_append_left _ _ | exact List.Sublist.trans (List.sublist_append_left _ _) (List.sublist_append_left _ _) | apply List.Sublist.cons | refine List.Sublist.trans ?_ (sR _)))), _, ?_, i + 1, rfl, ?_, ?_, ⟨rfl, trivial⟩⟩
  · omega
  · omega
  · intro j hj; rcases Nat.lt_or_ge j i with h_ | h_
    · exact p1 j h_
    · obtain rfl : j = i := by omega
      exact h12
 refine WC.exit (hK4 _ _ (WC.r1 hs5 [] rfl (WC.ret (rtv rfl rfl hs5 ?_))))
 rw [show atI d.dat.Files id = findI (fun f : FileR => decide (f.Id = id)) d.Files.xs from findI_map]; exact congrArg (Value.int _) (findI_none (F := encFileR) (p := (fun f : FileR => decide (f.Id = id))) (xs := d.Files.xs) (fun j hj => p1 j (by omega))).symm
theorem k126_ (op : DiskOpR) (w : World) (f_op : okDiskOpR 549755813888 w op) :
    Calls Tryz.prog 145 #[.agg #[i64 op.Kind, .string op.Name, .string op.To, .slice op.Data.A op.Data.n op.Data.c]] w fun e w' => e = .returned (.bool (dopOk op.dat)) ∧ St w [] [] w' := by
 have nz_op_Name := f_op.Name_z
 have nz_op_To := f_op.To_z
 have nb_op_Data := f_op.Data_n
 have nl_op_Data := f_op.Data.len
 have hdl : op.dat.Data.length = op.Data.n := f_op.Data.len
 have hz1 := f_op.Name_z
 have hz2 := f_op.To_z
 refine enter 64 Tryz.func145 rfl Tryz.ntmps145 rfl rfl ?_
 have hs1 := St.init w
 refine WC.sr (WL.bx hs1 rfl (fun b2 _ hs3 => WL.r 1 hs3 [] rfl (WL.nil (WC.seq (fun K4 hK4 => WC.sr (WL.r 4 hs3 [0] rfl (WL.pO tbk 3 Acts.nil hs3 [0] rfl rfl rfl rfl (fun g_ => ⟨rfl, trivial⟩) ?_)))))))
 refine WL.nil (WC.cq rfl (fun h5 qh5 => ?_) (fun h5 qh5 => ?_))
 ·have hw : within op.dat.Kind 1 6 = false := by show within op.Kind 1 6 = false; have h9 := h5; simp only [Bool.and_eq_true, Bool.or_eq_true, decide_eq_true_eq] at h9; rw [within_not]; omega
  refine WC.r1 hs3 [] rfl (WC.ret (tkR ?_))
  clear hK4
  refine rtv rfl rfl hs3 ?_
  unfold dopOk; rw [hw]; rfl
 have hw : within op.dat.Kind 1 6 = true := by show within op.Kind 1 6 = true; have h9 := h5; simp only [Bool.and_eq_false_iff, Bool.or_eq_false_iff, decide_eq_false_iff_not] at h9; rw [within_iff]; omega
 refine WC.skip (hK4 _ _ (WC.seq (fun K6 hK6 => WC.sr (WL.r 4 hs3 [0] rfl (WL.pA tbk 3 Acts.nil hs3 [0] rfl rfl rfl rfl (fun g_ => ⟨rfl, trivial⟩) (WL.r 1 hs3 [] rfl ?_))))))
 apply WL.gO 9 Acts.nil hs3 rfl
 ·intro g7 J8
  have qg7 := g7
  try simp only [bf, within_iff, within_not] at qg7
  refine WL.runA tbk 4 (Acts.nil.cons (j := 8) rfl g7) hs3 [0] rfl ⟨rfl, trivial⟩ ?_
  apply WL.gA 4 (Acts.nil.cons (j := 8) rfl g7) hs3 rfl
  ·intro g9 J10
   have qg9 := g9
   try simp only [bf, within_iff, within_not] at qg9
   refine WL.runA tbk 2 (Acts.nil.cons (j := 12) rfl g9) hs3 [0] rfl ⟨rfl, trivial⟩ (WL.call (wantT rfl g9) rfl rfl (Run.call Tryz.call102 rfl rfl rfl) (k65_ _ _ ?_) ?_)
   · first | assumption | rfl | omega
   rintro _ whs11 ⟨rfl, hs11⟩
   replace hs11 := hs3.call0 hs11
   refine ⟨_, rfl, WL.runA tbk 1 (Acts.nil.cons (j := 12) rfl g9) hs11 [] rfl trivial (WL.eA 4 (Acts.nil.cons (j := 8) rfl g7) J10 hs11 g9 rfl rfl)⟩
  intro _ hs12
  exact WL.eO 5 Acts.nil J8 hs12 g7 rfl rfl
 intro _ hs13
 refine WL.nil (WC.cq rfl (fun h14 qh14 => ?_) (fun h14 qh14 => ?_))
 ·have hnm : opName op.dat = false := (opName_spec (op := op)).trans (congrArg not h14)
  refine WC.r1 hs13 [] rfl (WC.ret (tkR ?_))
  clear hK6
  refine rtv rfl rfl hs13 ?_
  unfold dopOk; rw [hnm]; simp
 have hnm : opName op.dat = true := (opName_spec (op := op)).trans (congrArg not h14)
 refine WC.skip (hK6 _ _ (WC.seq (fun K15 hK15 => WC.sr (WL.r 4 hs13 [0] rfl ?_))))
 apply WL.gA 4 Acts.nil hs13 rfl
 ·intro g16 J17
  have qg16 := g16
  try simp only [bf, within_iff, within_not] at qg16
  refine WL.runA tbk 2 (Acts.nil.cons (j := 3) rfl g16) hs13 [0] rfl ⟨rfl, trivial⟩ (WL.call (wantT rfl g16) rfl rfl (Run.call Tryz.call102 rfl rfl rfl) (k65_ _ _ ?_) ?_)
  · first | assumption | rfl | omega
  rintro _ whs18 ⟨rfl, hs18⟩
  replace hs18 := hs13.call0 hs18
  refine ⟨_, rfl, WL.runA tbk 1 (Acts.nil.cons (j := 3) rfl g16) hs18 [] rfl trivial (WL.eA 4 Acts.nil J17 hs18 g16 rfl rfl)⟩
 intro _ hs19
 refine WL.r 1 hs19 [] rfl ?_
 apply WL.gO 8 Acts.nil hs19 rfl
 ·intro g20 J21
  have qg20 := g20
  try simp only [bf, within_iff, within_not] at qg20
  refine WL.runA tbk 4 (Acts.nil.cons (j := 9) rfl g20) hs19 [0] rfl ⟨rfl, trivial⟩ (WL.pA tbk 3 (Acts.nil.cons (j := 9) rfl g20) hs19 [0] rfl rfl rfl rfl (fun g_ => ⟨rfl, trivial⟩) (WL.eO 5 Acts.nil J21 hs19 g20 rfl rfl))
 intro _ hs22
 refine WL.nil (WC.cq rfl (fun h23 qh23 => ?_) (fun h23 qh23 => ?_))
 ·have hto : opTo op.dat = false := (opTo_spec (op := op)).trans (congrArg not h23)
  refine WC.r1 hs22 [] rfl (WC.ret (tkR ?_))
  clear hK15
  refine rtv rfl rfl hs22 ?_
  unfold dopOk; rw [hto]; simp
 have hto : opTo op.dat = true := (opTo_spec (op := op)).trans (congrArg not h23)
 refine WC.skip (hK15 _ _ (WC.sr (WL.r 5 hs22 [0] rfl ?_)))
 apply WL.gA 9 Acts.nil hs22 rfl
 ·intro g24 J25
  have qg24 := g24
  try simp only [bf, within_iff, within_not] at qg24
  refine WL.runA tbk 4 (Acts.nil.cons (j := 4) rfl g24) hs22 [0] rfl ⟨rfl, trivial⟩ (WL.pO tbk 4 (Acts.nil.cons (j := 4) rfl g24) hs22 [0] rfl rfl rfl rfl (fun g_ => ⟨rfl, trivial⟩) (WL.eA 5 Acts.nil J25 hs22 g24 rfl rfl))
 intro _ hs26
 refine WL.r 1 hs26 [] rfl (WL.nil (WC.ret (rtv rfl rfl hs26 ?_)))
 unfold dopOk; rw [hw, hnm, hto, hdl]; rfl
theorem k127_ (d : DiskR) (op : DiskOpR) (w : World) (f_d : okDiskR 549755813888 w d) (f_op : okDiskOpR 549755813888 w op) (hok : diskOk d.dat = true) (hb : totDisk d.dat ≤ 1048576) :
    Calls Tryz.prog 146 #[.agg #[i64 d.Room, i64 d.Fuse, i64 d.Next, .slice d.Files.A d.Files.n d.Files.c, .slice d.Kept.A d.Kept.n d.Kept.c, .slice d.Turns.A d.Turns.n d.Turns.c], .agg #[i64 op.Kind, .string op.Name, .string op.To, .slice op.Data.A op.Data.n op.Data.c]] w fun e w' => e = .returned (.int .i64 (refuse d.dat op.dat)) ∧ St w [] [] w' := by
 have nb_d_Files := f_d.Files_n
 have nl_d_Files := f_d.Files.sl.len
 have nb_d_Kept := f_d.Kept_n
 have nl_d_Kept := f_d.Kept.len
 have nb_d_Turns := f_d.Turns_n
 have nl_d_Turns := f_d.Turns.len
 have nz_op_Name := f_op.Name_z
 have nz_op_To := f_op.To_z
 have nb_op_Data := f_op.Data_n
 have nl_op_Data := f_op.Data.len
 have hD := diskOk_P hok
 obtain ⟨hs1, hs2, hs3, hs4, hs5, hs6, hs7, hs8⟩ := hD.small
 have hl1 := f_d.Files.sl.len
 have hl2 := f_d.Kept.len
 have hl3 := f_d.Turns.len
 have hm1 : d.Files.n ≤ 10 := by rw [← hl1, ← List.length_map (f := FileR.dat)]; exact hs1
 have hm2 : d.Kept.n ≤ 10 := by rw [← hl2]; exact hs2
 have hm3 : d.Turns.n ≤ 30 := by rw [← hl3]; exact hs3
 have hdl : (dirD d.dat).length ≤ 40 := Nat.le_trans turnsL_len (by show d.Kept.xs.length + d.Turns.xs.length ≤ 40; omega)
 have hfl : d.dat.Files.length = d.Files.n := by rw [← hl1]; exact List.length_map _
 have htl : d.dat.Turns.length = d.Turns.n := hl3
 refine enter 72 Tryz.func146 rfl Tryz.ntmps146 rfl rfl ?_
 have hs1 := St.init w
 refine WC.sr (WL.bx hs1 rfl (fun b2 _ hs3 => WL.bx hs3 rfl (fun b4 _ hs5 => WL.r 1 hs5 [] rfl (WL.nil (WC.seq (fun K6 hK6 => WC.r1 hs5 [1] rfl ?_))))))
 refine WC.cq rfl (fun h7 qh7 => ?_) (fun h7 qh7 => ?_)
 ·have hf : d.dat.Fuse = 0 := by show d.Fuse = 0; have h9 := h7; simpa using h9
  refine WC.r1 hs5 [] rfl (WC.ret (tkR ?_))
  clear hK6
  refine rtv rfl rfl hs5 ?_
  first | rw [refuse_2 hf] | rw [refuse_3 hf h3] | rw [refuse_4 hf h3 h4] | rw [refuse_0 hf h3 h4]
 have hf : ¬ d.dat.Fuse = 0 := by show ¬ d.Fuse = 0; have h9 := h7; simpa using h9
 refine WC.skip (hK6 _ _ (WC.seq (fun K8 hK8 => WC.seq (fun K9 hK9 => WC.rH hs5 hs5 (fun _ hs10 => ?_)))))
 refine WH.rn [0, 1, 2, 3] hs10 [0] rfl rfl (WH.split 12 rfl (fun g11 => ?_) (fun g11 => ?_))
 ·refine WH.rnA (Acts.nil.cons (j := 3) rfl g11) [4, 5, 6, 7, 9, 10] hs10 [0, 1, 0] rfl rfl (WH.o1 8 rfl (WL.call (wantT rfl g11) rfl rfl (Run.call Tryz.call69 rfl rfl rfl) (k123_ d _ (okDiskR.st0 f_d hs10) ?_ ?_) ?_))
  iterate 2 first | assumption | rfl | omega
  rintro _ whs12 ⟨A13, c14, L1_15, rfl, hs12, ho16⟩
  replace hs12 := hs10.callF hs12
  refine ⟨_, rfl, ?_⟩
  replace hs12 := St.back [_, _] hs12
  refine WL.nil ⟨(hs12.rm L1_15), WH.o1 11 rfl (WL.call (wantT rfl g11) rfl rfl (Run.call Tryz.call108 rfl rfl rfl) (k51_ _ _ _ _ _ _ (SlF.ofOwn ho16 (hs12.ow L1_15)) ?_) ?_)⟩
  · first | assumption | rfl | omega
  rintro _ whs17 ⟨rfl, hs17⟩
  replace hs17 := hs12.call0 hs17
  refine ⟨_, rfl, WL.nil ⟨(hs17.rm L1_15), WH.rnA (Acts.nil.cons (j := 3) rfl g11) [12, 13] (hs17.rm L1_15) [] rfl rfl ?_⟩⟩
  refine WH.take 14 rfl (by kernel_rfl) rfl rfl rfl (hs17.rm L1_15) (fun w_ hs_ => (Run.pick rfl rfl rfl rfl)) ?_
  refine WH.dn (hK9 _ _ ?_)
  refine WC.cq rfl (fun h18 qh18 => ?_) (fun h18 qh18 => ?_)
  ·have h3 : op.dat.Kind ≠ 6 ∧ hasN (dirD d.dat) op.dat.Name = decide (op.dat.Kind = 1) := by have h9 := h18; rw [has_find hD.allI] at h9; show op.Kind ≠ 6 ∧ hasN (dirD d.dat) op.Name = decide (op.Kind = 1); simp at h9; exact ⟨h9.1, by rw [← h9.2]⟩
   refine WC.r1 hs17 [] rfl (WC.ret (tkR ?_))
   clear hK8
   refine rtv rfl rfl hs17 ?_
   first | rw [refuse_2 hf] | rw [refuse_3 hf h3] | rw [refuse_4 hf h3 h4] | rw [refuse_0 hf h3 h4]
  have h3 : ¬ (op.dat.Kind ≠ 6 ∧ hasN (dirD d.dat) op.dat.Name = decide (op.dat.Kind = 1)) := by have h9 := h18; rw [has_find hD.allI] at h9; show ¬ (op.Kind ≠ 6 ∧ hasN (dirD d.dat) op.Name = decide (op.Kind = 1)); rintro ⟨a, b⟩; rw [b] at h9; simp [a] at h9
  refine WC.skip (hK8 _ _ (WC.sr (WL.r 4 hs17 [0] rfl (WL.pO tbk 3 Acts.nil hs17 [0] rfl rfl rfl rfl (fun g_ => ⟨rfl, trivial⟩) (WL.r 1 hs17 [] rfl (WL.pO tbk 3 Acts.nil hs17 [0] rfl rfl rfl rfl (fun g_ => ⟨rfl, trivial⟩) (WL.r 1 hs17 [] rfl ?_)))))))
  refine WL.nil (WC.seq (fun K19 hK19 => WC.sr (WL.r 4 hs17 [0] rfl ?_)))
  apply WL.gA 9 Acts.nil hs17 rfl
  ·intro g20 J21
   have qg20 := g20
   try simp only [bf, within_iff, within_not] at qg20
   refine WL.runA tbk 5 (Acts.nil.cons (j := 3) rfl g20) hs17 [1] rfl ⟨rfl, trivial⟩ (WL.pO tbk 3 (Acts.nil.cons (j := 3) rfl g20) hs17 [1] rfl rfl rfl rfl (fun g_ => ⟨rfl, trivial⟩) (WL.eA 6 Acts.nil J21 hs17 g20 rfl rfl))
  intro _ hs22
  refine WL.r 1 hs22 [] rfl ?_
  apply WL.gO 7 Acts.nil hs22 rfl
  ·intro g23 J24
   have qg23 := g23
   try simp only [bf, within_iff, within_not] at qg23
   refine WL.runA tbk 2 (Acts.nil.cons (j := 14) rfl g23) hs22 [] rfl trivial (WL.pA tbk 4 (Acts.nil.cons (j := 14) rfl g23) hs22 [1] rfl rfl rfl rfl (fun g_ => ⟨rfl, trivial⟩) (WL.eO 3 Acts.nil J24 hs22 g23 rfl rfl))
  intro _ hs25
  refine WL.r 1 hs25 [] rfl ?_
  apply WL.gO 10 Acts.nil hs25 rfl
  ·intro g26 J27
   have qg26 := g26
   try simp only [bf, within_iff, within_not] at qg26
   refine WL.runA tbk 4 (Acts.nil.cons (j := 23) rfl g26) hs25 [0] rfl ⟨rfl, trivial⟩ (WL.pA tbk 5 (Acts.nil.cons (j := 23) rfl g26) hs25 [0, 0] rfl rfl rfl rfl (fun g_ => ⟨rfl, rfl, trivial⟩) (WL.eO 5 Acts.nil J27 hs25 g26 rfl rfl))
  intro _ hs28
  refine WL.nil (WC.cq rfl (fun h29 qh29 => ?_) (fun h29 qh29 => ?_))
  ·have h4 : fourD d.dat op.dat := by
     have h9 := h29
     show (op.Kind = 1 ∧ (d.dat.Files.length = 10 ∨ d.Next = 1000000)) ∨ (turnK op.Kind = true ∧ d.dat.Turns.length = 30) ∨ (op.Kind = 4 ∧ op.To = op.Name)
     rw [hfl, htl]
     rw [Bool.or_eq_true, Bool.or_eq_true] at h9
     rcases h9 with (h9 | h9) | h9
     · simp only [Bool.and_eq_true, Bool.or_eq_true, decide_eq_true_eq] at h9
       exact .inl (by omega)
     · rw [Bool.and_eq_true] at h9
       exact .inr (.inl ⟨h9.1, by have := of_decide_eq_true h9.2; omega⟩)
     · simp only [Bool.and_eq_true, Bool.or_eq_true, decide_eq_true_eq] at h9
       exact .inr (.inr h9)
   refine WC.r1 hs28 [] rfl (WC.ret (tkR ?_))
   clear hK19
   refine rtv rfl rfl hs28 ?_
   first | rw [refuse_2 hf] | rw [refuse_3 hf h3] | rw [refuse_4 hf h3 h4] | rw [refuse_0 hf h3 h4]
  have h4 : ¬ fourD d.dat op.dat := by
    have h9 := h29
    show ¬ ((op.Kind = 1 ∧ (d.dat.Files.length = 10 ∨ d.Next = 1000000)) ∨ (turnK op.Kind = true ∧ d.dat.Turns.length = 30) ∨ (op.Kind = 4 ∧ op.To = op.Name))
    rw [hfl, htl]
    rw [Bool.or_eq_false_iff, Bool.or_eq_false_iff] at h9
    obtain ⟨⟨ha, hb⟩, hc⟩ := h9
    rintro (h | ⟨h, h'⟩ | h)
    · revert ha; simp [h.1]; omega
    · rw [show (decide (op.Kind = 1) || decide (op.Kind = 4) || decide (op.Kind = 5)) = true from h] at hb; revert hb; simp; omega
    · revert hc; simp [h.1, h.2]
  refine WC.skip (hK19 _ _ (WC.r1 hs28 [] rfl (WC.ret (rtv rfl rfl hs28 ?_))))
  first | rw [refuse_2 hf] | rw [refuse_3 hf h3] | rw [refuse_4 hf h3 h4] | rw [refuse_0 hf h3 h4]
 refine WH.takeSkip 4 rfl (by kernel_rfl) (wantNT rfl g11) rfl rfl hs10 (WH.takeSkip 5 rfl (by kernel_rfl) (wantNT rfl g11) rfl rfl hs10 (WH.takeSkip 6 rfl (by kernel_rfl) (wantNT rfl g11) rfl rfl hs10 (WH.takeSkip 7 rfl (by kernel_rfl) (wantNT rfl g11) rfl rfl hs10 (WH.takeSkip 9 rfl (by kernel_rfl) (wantNT rfl g11) rfl rfl hs10 (WH.takeSkip 10 rfl (by kernel_rfl) (wantNT rfl g11) rfl rfl hs10 (WH.o1 8 rfl (WL.skip (wantNT rfl g11) rfl rfl ?_)))))))
 refine WL.nil ⟨hs10, WH.o1 11 rfl (WL.skip (wantNT rfl g11) rfl rfl (WL.nil ⟨hs10, WH.takeSkip 12 rfl (by kernel_rfl) (wantNT rfl g11) rfl rfl hs10 (WH.takeSkip 13 rfl (by kernel_rfl) (wantNT rfl g11) rfl rfl hs10 ?_)⟩))⟩
 refine WH.take 14 rfl (by kernel_rfl) rfl rfl rfl hs10 (fun w_ hs_ => (Run.pickF rfl rfl g11 rfl)) ?_
 refine WH.dn (hK9 _ _ (WC.condF rfl rfl ?_))
 have h3 : ¬ (op.dat.Kind ≠ 6 ∧ hasN (dirD d.dat) op.dat.Name = decide (op.dat.Kind = 1)) := by rintro ⟨a, _⟩; have a' : op.Kind ≠ 6 := a; simp_all
 refine WC.skip (hK8 _ _ (WC.sr (WL.r 4 hs10 [0] rfl (WL.pO tbk 3 Acts.nil hs10 [0] rfl rfl rfl rfl (fun g_ => ⟨rfl, trivial⟩) (WL.r 1 hs10 [] rfl (WL.pO tbk 3 Acts.nil hs10 [0] rfl rfl rfl rfl (fun g_ => ⟨rfl, trivial⟩) (WL.r 1 hs10 [] rfl ?_)))))))
 refine WL.nil (WC.seq (fun K31 hK31 => WC.sr (WL.r 4 hs10 [0] rfl ?_)))
 apply WL.gA 9 Acts.nil hs10 rfl
 ·intro g32 J33
  have qg32 := g32
  try simp only [bf, within_iff, within_not] at qg32
  refine WL.runA tbk 5 (Acts.nil.cons (j := 3) rfl g32) hs10 [1] rfl ⟨rfl, trivial⟩ (WL.pO tbk 3 (Acts.nil.cons (j := 3) rfl g32) hs10 [1] rfl rfl rfl rfl (fun g_ => ⟨rfl, trivial⟩) (WL.eA 6 Acts.nil J33 hs10 g32 rfl rfl))
 intro _ hs34
 refine WL.r 1 hs34 [] rfl ?_
 apply WL.gO 7 Acts.nil hs34 rfl
 ·intro g35 J36
  have qg35 := g35
  try simp only [bf, within_iff, within_not] at qg35
  refine WL.runA tbk 2 (Acts.nil.cons (j := 14) rfl g35) hs34 [] rfl trivial (WL.pA tbk 4 (Acts.nil.cons (j := 14) rfl g35) hs34 [1] rfl rfl rfl rfl (fun g_ => ⟨rfl, trivial⟩) (WL.eO 3 Acts.nil J36 hs34 g35 rfl rfl))
 intro _ hs37
 refine WL.r 1 hs37 [] rfl ?_
 apply WL.gO 10 Acts.nil hs37 rfl
 ·intro g38 J39
  have qg38 := g38
  try simp only [bf, within_iff, within_not] at qg38
  refine WL.runA tbk 4 (Acts.nil.cons (j := 23) rfl g38) hs37 [0] rfl ⟨rfl, trivial⟩ (WL.pA tbk 5 (Acts.nil.cons (j := 23) rfl g38) hs37 [0, 0] rfl rfl rfl rfl (fun g_ => ⟨rfl, rfl, trivial⟩) (WL.eO 5 Acts.nil J39 hs37 g38 rfl rfl))
 intro _ hs40
 refine WL.nil (WC.cq rfl (fun h41 qh41 => ?_) (fun h41 qh41 => ?_))
 ·have h4 : fourD d.dat op.dat := by
    have h9 := h41
    show (op.Kind = 1 ∧ (d.dat.Files.length = 10 ∨ d.Next = 1000000)) ∨ (turnK op.Kind = true ∧ d.dat.Turns.length = 30) ∨ (op.Kind = 4 ∧ op.To = op.Name)
    rw [hfl, htl]
    rw [Bool.or_eq_true, Bool.or_eq_true] at h9
    rcases h9 with (h9 | h9) | h9
    · simp only [Bool.and_eq_true, Bool.or_eq_true, decide_eq_true_eq] at h9
      exact .inl (by omega)
    · rw [Bool.and_eq_true] at h9
      exact .inr (.inl ⟨h9.1, by have := of_decide_eq_true h9.2; omega⟩)
    · simp only [Bool.and_eq_true, Bool.or_eq_true, decide_eq_true_eq] at h9
      exact .inr (.inr h9)
  refine WC.r1 hs40 [] rfl (WC.ret (tkR ?_))
  clear hK31
  refine rtv rfl rfl hs40 ?_
  first | rw [refuse_2 hf] | rw [refuse_3 hf h3] | rw [refuse_4 hf h3 h4] | rw [refuse_0 hf h3 h4]
 have h4 : ¬ fourD d.dat op.dat := by
   have h9 := h41
   show ¬ ((op.Kind = 1 ∧ (d.dat.Files.length = 10 ∨ d.Next = 1000000)) ∨ (turnK op.Kind = true ∧ d.dat.Turns.length = 30) ∨ (op.Kind = 4 ∧ op.To = op.Name))
   rw [hfl, htl]
   rw [Bool.or_eq_false_iff, Bool.or_eq_false_iff] at h9
   obtain ⟨⟨ha, hb⟩, hc⟩ := h9
   rintro (h | ⟨h, h'⟩ | h)
   · revert ha; simp [h.1]; omega
   · rw [show (decide (op.Kind = 1) || decide (op.Kind = 4) || decide (op.Kind = 5)) = true from h] at hb; revert hb; simp; omega
   · revert hc; simp [h.1, h.2]
 refine WC.skip (hK31 _ _ (WC.r1 hs40 [] rfl (WC.ret (rtv rfl rfl hs40 ?_))))
 first | rw [refuse_2 hf] | rw [refuse_3 hf h3] | rw [refuse_4 hf h3 h4] | rw [refuse_0 hf h3 h4]
theorem k128_ (d : DiskR) (w : World) (f_d : okDiskR 549755813888 w d) (hb : totDisk d.dat ≤ 1048576) :
    Calls Tryz.prog 69 #[.agg #[i64 d.Room, i64 d.Fuse, i64 d.Next, .slice d.Files.A d.Files.n d.Files.c, .slice d.Kept.A d.Kept.n d.Kept.c, .slice d.Turns.A d.Turns.n d.Turns.c]] w fun e w' => ∃ A c L1, e = .returned (.slice A (dirS d.dat).length c) ∧ St w [] L1 w' ∧ OwnF encLink 101 (.slice A (dirS d.dat).length c) (dirS d.dat) L1 := by
 have nb_d_Files := f_d.Files_n
 have nl_d_Files := f_d.Files.sl.len
 have nb_d_Kept := f_d.Kept_n
 have nl_d_Kept := f_d.Kept.len
 have nb_d_Turns := f_d.Turns_n
 have nl_d_Turns := f_d.Turns.len
 let w0 := w
 obtain ⟨⟨hb1, hb2, hb3⟩, hb4⟩ := totDisk_facts hb
 have hl1 := f_d.Files.sl.len
 have hl2 := f_d.Kept.len
 have hl3 := f_d.Turns.len
 have hm1 : d.Files.n ≤ 1048576 := by rw [← hl1, ← List.length_map (f := FileR.dat)]; exact hb1
 have hm2 : d.Kept.n ≤ 1048576 := by rw [← hl2]; exact hb2
 have hm3 : d.Turns.n ≤ 1048576 := by rw [← hl3]; exact hb3
 refine enter 11 Tryz.func69 rfl Tryz.ntmps69 rfl rfl ?_
 have hs1 := St.init w
 refine WC.sr (WL.bx hs1 rfl (fun b2 _ hs3 => WL.r 1 hs3 [] rfl (WL.nil (WC.seq (fun K4 hK4 => WC.sr (WL.r 1 hs3 [0] rfl ?_))))))
 refine WL.cl Tryz.call52 rfl (k121_ d _ (okDiskR.st0 f_d hs3) ?_) ?_
 · first | assumption | rfl | omega | exact Nat.le_refl _
 rintro _ whs5 ⟨rfl, hs5⟩
 replace hs5 := hs3.call0 hs5
 refine ⟨_, rfl, WL.r 1 hs5 [] rfl (WL.nil (WC.cq rfl (fun h6 qh6 => ?_) (fun h6 qh6 => ?_)))⟩
 ·have hS : dirS d.dat = [] := if_neg (by have h9 := h6; simp at h9; rw [h9]; decide)
  refine WC.r1 hs5 [] rfl (WC.ret (tkR ?_))
  clear hK4
  refine retV1 rfl (resV.tmp rfl) ?_
  have hx_ := OwnF.eqOf (xs := dirS d.dat) (OwnF.nil encLink 101) (by rw [hS])
  rw [← hx_]
  exact ⟨_, _, _, rfl, hs5.nil, (OwnF.nil encLink 101)⟩
 have hS : dirS d.dat = dirD d.dat := if_pos (by have h9 := h6; simpa using h9)
 refine WC.skip (hK4 _ _ (WC.sr (WL.r 4 hs5 [0, 0] rfl ?_)))
 refine WL.cl Tryz.call123 rfl (k122_ d _ _ (okDiskR.st0 f_d hs5) ?_ ?_ ?_) ?_
 iterate 3 first | assumption | rfl | omega | exact Nat.le_refl _
 rintro _ whs7 ⟨A8, c9, L1_10, rfl, hs7, ho11⟩
 replace hs7 := hs5.callF hs7
 refine ⟨_, rfl, ?_⟩
 replace hs7 := St.back [_] hs7
 refine WL.r 1 hs7 [] rfl (WL.nil (WC.ret (retV1 rfl (resV.tmp rfl) ?_)))
 have hx_ := OwnF.eqOf (xs := dirS d.dat) ho11 (by rw [hS, List.take_of_length_le (by omega)]; rfl)
 rw [← hx_]
 first | exact ⟨_, _, _, rfl, (St.keep1 (hs7.fr L1_10)), ho11⟩ | exact ⟨A8, c9, _, by rw [OwnF.len_ ho11], (St.keep1 (hs7.fr L1_10)), by rw [OwnF.len_ ho11]; exact ho11⟩
theorem k129_ (d : DiskR) (name : ByteArray) (w : World) (f_d : okDiskR 549755813888 w d) (hb : totDisk d.dat ≤ 1048576) :
    Calls Tryz.prog 54 #[.agg #[i64 d.Room, i64 d.Fuse, i64 d.Next, .slice d.Files.A d.Files.n d.Files.c, .slice d.Kept.A d.Kept.n d.Kept.c, .slice d.Turns.A d.Turns.n d.Turns.c], .string name] w fun e w' => ∃ A c L1, e = .returned (.tuple #[.slice A (readB d.dat name).length c, .bool (readOk d.dat name)]) ∧ St w [] L1 w' ∧ OwnF encB 5 (.slice A (readB d.dat name).length c) (readB d.dat name) L1 := by
 have nb_d_Files := f_d.Files_n
 have nl_d_Files := f_d.Files.sl.len
 have nb_d_Kept := f_d.Kept_n
 have nl_d_Kept := f_d.Kept.len
 have nb_d_Turns := f_d.Turns_n
 have nl_d_Turns := f_d.Turns.len
 have hsl : (dirS d.dat).length ≤ 1048576 := dirS_len d.dat
 refine enter 23 Tryz.func54 rfl Tryz.ntmps54 rfl rfl ?_
 have hs1 := St.init w
 refine WC.sr (WL.bx hs1 rfl (fun b2 _ hs3 => WL.r 2 hs3 [] rfl (WL.nil (WC.sr (WL.r 1 hs3 [0] rfl ?_)))))
 refine WL.cl Tryz.call69 rfl (k128_ d _ (okDiskR.st0 f_d hs3) ?_) ?_
 · first | assumption | rfl | omega
 rintro _ whs4 ⟨A5, c6, L1_7, rfl, hs4, ho8⟩
 replace hs4 := hs3.callF hs4
 refine ⟨_, rfl, ?_⟩
 replace hs4 := St.back [_] hs4
 refine WL.r 1 hs4 [] rfl (WL.cl Tryz.call108 rfl (k51_ _ _ _ _ _ _ (SlF.ofOwn ho8 (hs4.ow L1_7)) ?_) ?_)
 · first | assumption | rfl | omega
 rintro _ whs9 ⟨rfl, hs9⟩
 replace hs9 := hs4.call0 hs9
 refine ⟨_, rfl, WL.r 1 hs9 [] rfl (WL.nil (WC.seq (fun K10 hK10 => WC.r1 hs9 [] rfl ?_)))⟩
 refine WC.cq rfl (fun h11 qh11 => ?_) (fun h11 qh11 => ?_)
 ·have hf : readOk d.dat name = false := by unfold readOk; exact dirS_no (by have h9 := h11; simpa using h9)
  have hB : readB d.dat name = [] := if_neg (by rw [hf]; decide)
  refine WC.r1 hs9 [] rfl (WC.ret (tkR ?_))
  clear hK10
  refine retV2 rfl (resV.tmp rfl) (resV.tmp rfl) ?_
  rw [hf]
  have hx_ := OwnF.eqOf (xs := readB d.dat name) (OwnF.nil encB 5) (by rw [hB])
  rw [← hx_]
  exact ⟨_, _, _, rfl, hs9.nil, (OwnF.nil encB 5)⟩
 obtain ⟨hok, hh⟩ := dirS_yes (d := d.dat) (n := name) (by have h9 := h11; simpa using h9)
 have hD := diskOk_P hok
 have hf : readOk d.dat name = true := by unfold readOk; rw [hok, hh]; rfl
 have hfn := (hD.at hh).1
 have hfn2 : fileN d.dat name < d.Files.xs.length := by rw [← List.length_map (f := FileR.dat)]; exact hfn
 have hB : readB d.dat name = (gat encFileR d.Files.xs (fileN d.dat name)).Body.xs := by unfold readB; rw [if_pos hf, show fAt d.dat.Files (fileN d.dat name) = FileR.dat (gat encFileR d.Files.xs (fileN d.dat name)) from fAt_dat hfn2]; rfl
 have hyb := (f_d.Files.all _ (gat_mem (F := encFileR) (xs := d.Files.xs) (k := fileN d.dat name) hfn2)).Body.len
 have hyu : (gat encFileR d.Files.xs (fileN d.dat name)).Body.xs.length ≤ usedF d.dat.Files := usedF_gat hfn2
 have hul := hD.room.2.1
 have hfl9 := f_d.Files.sl.len
 have hat := (hD.at hh).2
 have hdS : dirS d.dat = dirD d.dat := if_pos hok
 rw [hdS]
 refine WC.skip (hK10 _ _ (WC.seq (fun K12 hK12 => WC.rH hs9 hs9 (fun _ hs13 => ?_))))
 refine WH.rn [1, 2, 3, 4] hs13 [0, 0] rfl rfl (WH.all [0, 5] (by kernel_rfl) rfl (WHs.cons (i := 0) rfl ?_ (WHs.cons (i := 5) rfl ?_ WHs.nil)))
 ·refine WL.buildF (F := encB) hs13 ([]) Tryz.runUnderlying43 Tryz.sizeOf5 Tryz.zeroValue5 rfl rfl rfl rfl rfl rfl rfl rfl rfl rfl rfl rfl (fun A17 c18 L14 whs15 hs15 ho16 => ?_)
  replace hs15 := St.back [_] hs15
  refine WL.nil ⟨(hs15.rm L14), WH.o1 5 rfl (WL.cl Tryz.call109 rfl (k125_ d _ _ (okDiskR.st0 f_d hs15)) ?_)⟩
  rintro _ whs19 ⟨rfl, hs19⟩
  replace hs19 := hs15.call0 hs19
  refine ⟨_, rfl, WL.nil ⟨(hs19.rm L14), ?_⟩⟩
  refine WH.take 6 rfl (by kernel_rfl) rfl rfl rfl (hs19.rm L14) (fun w_ hs_ => (Run.idxK ((fileN d.dat name)) Tryz.runUnderlying30 Tryz.sizeOf123 rfl rfl rfl ?_ ?_ ?_)) ?_
  · exact SlF.some_ (SlF.st0 f_d.Files.sl (hs_ : St _ _ _ _))
  · omega
  · omega
  refine WH.take 7 rfl (by kernel_rfl) rfl rfl rfl (hs19.rm L14) (fun w_ hs_ => (Run.fieldO Tryz.runUnderlying123 rfl rfl rfl Tryz.sizeOf43 rfl)) ?_
  refine WH.take 8 rfl (by kernel_rfl) rfl rfl rfl (hs19.rm L14) (fun w_ hs_ => (Run.load Tryz.isAgg43 rfl rfl (SlF.fld (SlF.st0 f_d.Files.sl (hs_ : St _ _ _ _)) ?_ rfl))) ?_
  · omega
  refine WH.o1 9 rfl (WL.appendG (hs19.fr L14) ho16 (SlF.src (SlF.st0 (SlN.nth f_d.Files (by omega)).Body hs19) Tryz.underlying43) Tryz.underlying43 inf5 rfl rfl rfl rfl rfl rfl rfl rfl rfl rfl ?_ (fun A23 c24 L20 whs21 hs21 ho22 => ?_))
  · simp; omega
  replace hs21 := St.back [_] hs21
  refine WL.nil ⟨(hs21.rm L20), WH.rn [10, 11] (hs21.rm L20) [] rfl rfl (WH.dn (hK12 _ _ (WC.ret (retV2 rfl (resV.tmp rfl) (resV.tmp rfl) ?_))))⟩
  rw [hf]
  have hx_ := OwnF.eqOf (xs := readB d.dat name) ho22 (by rw [hB]; first | done | rfl | simp)
  rw [← hx_]
  first | exact ⟨_, _, _, rfl, (St.keep1 (hs21.fr L20)), ho22⟩ | exact ⟨A23, c24, _, by rw [OwnF.len_ ho22], (St.keep1 (hs21.fr L20)), by rw [OwnF.len_ ho22]; exact ho22⟩
 refine WL.cl Tryz.call109 rfl (k125_ d _ _ (okDiskR.st0 f_d hs13)) ?_
 rintro _ whs25 ⟨rfl, hs25⟩
 replace hs25 := hs13.call0 hs25
 refine ⟨_, rfl, WL.nil ⟨hs25, ?_⟩⟩
 refine WH.take 6 rfl (by kernel_rfl) rfl rfl rfl hs25 (fun w_ hs_ => (Run.idxK ((fileN d.dat name)) Tryz.runUnderlying30 Tryz.sizeOf123 rfl rfl rfl ?_ ?_ ?_)) ?_
 · exact SlF.some_ (SlF.st0 f_d.Files.sl (hs_ : St _ _ _ _))
 · omega
 · omega
 refine WH.take 7 rfl (by kernel_rfl) rfl rfl rfl hs25 (fun w_ hs_ => (Run.fieldO Tryz.runUnderlying123 rfl rfl rfl Tryz.sizeOf43 rfl)) ?_
 refine WH.take 8 rfl (by kernel_rfl) rfl rfl rfl hs25 (fun w_ hs_ => (Run.load Tryz.isAgg43 rfl rfl (SlF.fld (SlF.st0 f_d.Files.sl (hs_ : St _ _ _ _)) ?_ rfl))) ?_
 · omega
 refine WH.o1 0 rfl (WL.buildF (F := encB) hs25 ([]) Tryz.runUnderlying43 Tryz.sizeOf5 Tryz.zeroValue5 rfl rfl rfl rfl rfl rfl rfl rfl rfl rfl rfl rfl (fun A29 c30 L26 whs27 hs27 ho28 => ?_))
 replace hs27 := St.back [_] hs27
 refine WL.nil ⟨(hs27.rm L26), WH.o1 9 rfl (WL.appendG (hs27.fr L26) ho28 (SlF.src (SlF.st0 (SlN.nth f_d.Files (by omega)).Body hs27) Tryz.underlying43) Tryz.underlying43 inf5 rfl rfl rfl rfl rfl rfl rfl rfl rfl rfl ?_ (fun A34 c35 L31 whs32 hs32 ho33 => ?_))⟩
 · simp; omega
 replace hs32 := St.back [_] hs32
 refine WL.nil ⟨(hs32.rm L31), WH.rn [10, 11] (hs32.rm L31) [] rfl rfl (WH.dn (hK12 _ _ (WC.ret (retV2 rfl (resV.tmp rfl) (resV.tmp rfl) ?_))))⟩
 rw [hf]
 have hx_ := OwnF.eqOf (xs := readB d.dat name) ho33 (by rw [hB]; first | done | rfl | simp)
 rw [← hx_]
 first | exact ⟨_, _, _, rfl, (St.keep1 (hs32.fr L31)), ho33⟩ | exact ⟨A34, c35, _, by rw [OwnF.len_ ho33], (St.keep1 (hs32.fr L31)), by rw [OwnF.len_ ho33]; exact ho33⟩
set_option maxHeartbeats 4000000 in
theorem k130_ (d : DiskR) (L_d : Hp) (w : World) (o_d : ownDiskR d L_d) (h_d : Hh w L_d) (hd_ : ((L_d).map (·.1)).Nodup) (ht : d.Turns.xs = []) (hsm : smDisk 549755813888 d.dat) (hn1 : d.Files.xs.length ≤ 1048576) (hn2 : d.Kept.n ≤ 1048576) :
    Calls Tryz.prog 147 #[.agg #[i64 d.Room, i64 d.Fuse, i64 d.Next, .slice d.Files.A d.Files.n d.Files.c, .slice d.Kept.A d.Kept.n d.Kept.c, .slice d.Turns.A d.Turns.n d.Turns.c]] w fun e w' => ∃ r L1, e = .returned (.agg #[i64 r.Room, i64 r.Fuse, i64 r.Next, .slice r.Files.A r.Files.n r.Files.c, .slice r.Kept.A r.Kept.n r.Kept.c, .slice r.Turns.A r.Turns.n r.Turns.c]) ∧ St w (L_d.map (·.1)) L1 w' ∧ ownDiskR r L1 ∧ r.dat = ({ d.dat with Files := onlyL d.dat.Kept d.dat.Files } : DiskD) := by
 have hdo := ownDiskR.ok (B := 549755813888) o_d h_d hsm
 have hl1 := hdo.Files.sl.len
 have hl2 := hdo.Kept.len
 have hl3 := hdo.Turns.len
 have htn : d.Turns.n = 0 := by rw [← hl3, ht]; rfl
 have hil : (idsD d.dat).length ≤ 1048576 := by unfold idsD; rw [List.length_append, List.length_map]; have h9 := made_len d.dat.Turns; have h8 : d.dat.Turns.length = d.Turns.xs.length := rfl; have h7 : d.dat.Kept.length = d.Kept.xs.length := rfl; omega
 refine enter 27 Tryz.func147 rfl Tryz.ntmps147 rfl rfl ?_
 have hs1 := St.takes1 w L_d h_d hd_
 refine WC.sr (WL.bx hs1 rfl (fun b2 _ hs3 => WL.al hs3 Tryz.zeroValue34 rfl rfl (fun b4 _ hs5 => WL.nil (WC.sr (WL.buildF (F := encFileR) hs5 ([]) Tryz.runUnderlying30 Tryz.sizeOf123 Tryz.zeroValue123 rfl rfl rfl rfl rfl rfl rfl rfl rfl rfl rfl rfl (fun A9 c10 L6 whs7 hs7 ho8 => ?_))))))
 replace hs7 := St.back [_, _] hs7
 refine WL.r 1 hs7 [] rfl (WL.nil (WC.seq (fun K11 hK11 => WC.r1 hs7 [1] rfl (WC.block ?_))))
 refine WC.lO [1, 2, 8, 9] rfl (hs7.fr L6) (fun k_ f L_ => ∃ (zs : List FileR) (i : Nat) (A12 : Option Addr) (c13 : Nat), k_ = d.Files.n - i ∧ (i ≤ d.Files.n) ∧ (zs = (d.Files.xs.take i).filter (fun f : FileR => linkd d.Kept.xs f.Id)) ∧ OwnF encFileR 123 (.slice A12 (zs.length) c13) (zs) L_ ∧ Sub [(3, .slice A12 (zs.length) c13), (10, .int .i64 i)] f) (((fun (zs : List FileR) (i : Nat) => d.Files.n - i) ([]) (0))) ?_ ?_
 ·refine ⟨[], 0, _, _, rfl, ?_, ?_, ho8, ⟨rfl, rfl, trivial⟩⟩
  · exact Nat.zero_le _
  · rfl
 clear hs7
 rintro _ f w L14 ⟨zs, i, A12, c13, rfl, p0, p1, ho15, hG⟩ hF hs16
 refine WC.sub _ (hG.app hF) ?_
 clear hG hF
 replace hs16 := St.back [_, _] hs16
 have hzl : zs.length ≤ d.Files.n := by rw [p1]; have h9 := List.length_filter_le (fun f : FileR => linkd d.Kept.xs f.Id) (d.Files.xs.take i); rw [List.length_take] at h9; omega
 refine WC.r1 hs16 [] rfl (WC.seq (fun K17 hK17 => ?_))
 refine WC.cq rfl (fun h18 qh18 => ?_) (fun h18 qh18 => ?_)
 ·refine WC.skip (hK17 _ _ (WC.seq (fun K19 hK19 => WC.block (WC.sr ?_))))
  refine WL.val rfl rfl rfl (Run.idxN Tryz.runUnderlying30 Tryz.sizeOf123 rfl rfl rfl ?_ ?_ ?_) ?_
  · exact SlF.some_ (ownDiskR.ok (B := 549755813888) o_d (hs16.ow L_d) (by assumption)).Files.sl
  · omega
  · omega
  refine WL.val rfl rfl rfl (Run.loadA Tryz.isAgg123 Tryz.sizeOf123 rfl rfl (SlF.whole (ownDiskR.ok (B := 549755813888) o_d (hs16.ow L_d) (by assumption)).Files.sl ?_)) ?_
  · omega
  refine WL.al hs16 Tryz.zeroValue123 rfl rfl (fun b20 _ hs21 => WL.st tbk hs21 0 rfl rfl (fun _ hs22 => WL.nil (WC.seq (fun K23 hK23 => WC.rH hs22 hs22 (fun _ hs24 => ?_)))))
  refine WH.rn [0, 2, 3] hs24 [2, 0] rfl rfl (WH.o1 1 rfl (WL.cl Tryz.call103 rfl (k58_ d _ (ownDiskR.ok (B := 549755813888) o_d (hs24.ow L_d) (by assumption)) ?_ ?_) ?_))
  iterate 2 first | assumption | rfl | omega
  rintro _ whs25 ⟨A26, c27, L1_28, rfl, hs25, ho29⟩
  replace hs25 := hs24.callF hs25
  refine ⟨_, rfl, ?_⟩
  replace hs25 := St.back [_, _, _] hs25
  refine WL.nil ⟨(hs25.rm L1_28), WH.o1 4 rfl (WL.cl Tryz.call104 rfl (k66_ _ _ _ _ _ _ (SlF.ofOwn ho29 (hs25.ow L1_28)) ?_) ?_)⟩
  · first | assumption | rfl | omega
  rintro _ whs30 ⟨rfl, hs30⟩
  replace hs30 := hs25.call0 hs30
  refine ⟨_, rfl, WL.nil ⟨(hs30.rm L1_28), WH.dn (hK23 _ _ ?_)⟩⟩
  refine WC.cq rfl (fun h31 qh31 => ?_) (fun h31 qh31 => ?_)
  ·have hkp : linkd d.Kept.xs (gat encFileR d.Files.xs i).Id = true := by have h9 := h31; rw [show (idsD d.dat).contains (gat encFileR d.Files.xs i).Id = linkd d.Kept.xs (gat encFileR d.Files.xs i).Id from has_linkd ht] at h9; exact h9
   refine WC.region (WL.r 2 hs30 [0] rfl (WL.buildSlice hs30 Tryz.runUnderlying30 Tryz.sizeOf123 Tryz.zeroValue123 rfl rfl rfl rfl rfl rfl rfl rfl rfl rfl (fun b32 whs33 hs33 => ?_)))
   refine WL.appendG (hs33.fr L14) ho15 (srcF (F := encFileR) (ys := [(gat encFileR d.Files.xs i)]) Tryz.underlying30 rfl rfl (hs33.own _ (nthL_mem (i := 0) rfl)).1) Tryz.underlying30 inf123 rfl rfl rfl rfl rfl rfl rfl rfl rfl rfl ?_ (fun A37 c38 L34 whs35 hs35 ho36 => ?_)
   · (try simp only [List.length_append, List.length_singleton]); omega
   replace hs35 := St.back [_, _, _, _] hs35
   refine WL.r 1 hs35 [] rfl (WL.nil (hK19 _ _ (WC.region (WL.r 2 hs35 [] rfl (WL.nil (tkN ?_))))))
   replace hs35 := (hs35.d1.d1.rm L1_28)
   refine ⟨sbF rfl, _, (hs35.fr L34), _, ?_, _, i + 1, _, _, rfl, ?_, ?_, ho36, ⟨rfl, rfl, trivial⟩⟩
   · omega
   · omega
   · rw [p1, filter_take (F := encFileR) (by omega)]; first | (rw [if_pos hkp]; done) | (rw [if_neg hkp, List.append_nil]; done)
  have hkp : ¬ linkd d.Kept.xs (gat encFileR d.Files.xs i).Id = true := by have h9 := h31; rw [show (idsD d.dat).contains (gat encFileR d.Files.xs i).Id = linkd d.Kept.xs (gat encFileR d.Files.xs i).Id from has_linkd ht] at h9; rw [h9]; decide
  refine WC.skip (hK19 _ _ (WC.region (WL.r 2 hs30 [] rfl (WL.nil (tkN ?_)))))
  replace hs30 := (hs30.d1.rm L1_28)
  refine ⟨sbF rfl, _, (hs30.fr L14), _, ?_, _, i + 1, _, _, rfl, ?_, ?_, ho15, ⟨rfl, rfl, trivial⟩⟩
  · omega
  · omega
  · rw [p1, filter_take (F := encFileR) (by omega)]; first | (rw [if_pos hkp]; done) | (rw [if_neg hkp, List.append_nil]; done)
 refine WC.exit (hK11 _ _ (WC.sr (WL.r 2 hs16 [] rfl (WL.st tbk hs16 1 rfl rfl (fun _ hs39 => WL.nil (WC.sr (WL.r 1 hs39 [1] rfl ?_)))))))
 refine WL.st tbk hs39 0 rfl rfl (fun _ hs40 => WL.nil (WC.ret (retV1 rfl (resV.cellA tbk hs40 0 rfl rfl rfl rfl) ?_)))
 obtain ⟨L41, L42, L43, hs47, ho44, ho45, ho46⟩ := ownDiskR.op hs40 o_d
 have hs48 := ((hs47.fb b2).fb b4)
 obtain ⟨L49, L50, hs53, ho51, ho52⟩ := OwnN.open_ (hs48.fr L41) ho44
 have hs54 := ((hs53.fb b2).fb b4)
 obtain ⟨L55, hs56, hb57⟩ := Bag.keep (fun f : FileR => linkd d.Kept.xs f.Id) (hs54.fr L50) ho52
 have hs58 := ((hs56.fb b2).fb b4)
 have hzz : zs = d.Files.xs.filter (fun f : FileR => linkd d.Kept.xs f.Id) := by rw [p1, List.take_of_length_le (by omega)]
 rw [← hzz] at hb57
 obtain ⟨L60, hs59, ho61⟩ := OwnN.fold ((hs58.fr L55).fr L14) ho15 hb57
 have hs62 := ((hs59.fb b2).fb b4)
 obtain ⟨L64, hs63, ho65⟩ := ownDiskR.fl hs62 ho61 ho45 ho46
 have hs66 := ((hs63.fb b2).fb b4)
 refine ownDiskR.ret rfl (St.keep1 (hs66.fr L64)) ho65 ?_
 · exact DiskD.ext' rfl rfl rfl (by show zs.map FileR.dat = _; rw [hzz]; exact onlyL_dat) rfl rfl
set_option maxHeartbeats 8000000 in
theorem k131_ (d : DiskR) (op : DiskOpR) (w : World) (f_d : okDiskR 549755813888 w d) (f_op : okDiskOpR 549755813888 w op) (hb : totDisk d.dat ≤ 1048576) :
    Calls Tryz.prog 86 #[.agg #[i64 d.Room, i64 d.Fuse, i64 d.Next, .slice d.Files.A d.Files.n d.Files.c, .slice d.Kept.A d.Kept.n d.Kept.c, .slice d.Turns.A d.Turns.n d.Turns.c], .agg #[i64 op.Kind, .string op.Name, .string op.To, .slice op.Data.A op.Data.n op.Data.c]] w fun e w' => ∃ r L1, e = .returned (.tuple #[.agg #[i64 r.Room, i64 r.Fuse, i64 r.Next, .slice r.Files.A r.Files.n r.Files.c, .slice r.Kept.A r.Kept.n r.Kept.c, .slice r.Turns.A r.Turns.n r.Turns.c], .int .i64 (doneC d.dat op.dat)]) ∧ St w [] L1 w' ∧ ownDiskR r L1 ∧ r.dat = doneD d.dat op.dat := by
 have nb_d_Files := f_d.Files_n
 have nl_d_Files := f_d.Files.sl.len
 have nb_d_Kept := f_d.Kept_n
 have nl_d_Kept := f_d.Kept.len
 have nb_d_Turns := f_d.Turns_n
 have nl_d_Turns := f_d.Turns.len
 have nz_op_Name := f_op.Name_z
 have nz_op_To := f_op.To_z
 have nb_op_Data := f_op.Data_n
 have nl_op_Data := f_op.Data.len
 have hsm : smDisk 1048576 d.dat := totDisk_sm hb
 have hsmB : smDisk 549755813888 d.dat := totDisk_sm (by omega)
 have hl1 := f_d.Files.sl.len
 have hl2 := f_d.Kept.len
 have hl3 := f_d.Turns.len
 have hnc := f_op.Data_c
 have hsmK : ∀ x, x ∈ dirD d.dat → smLink 549755813888 x := sm_turns f_d.Kept_s f_d.Turns_s
 refine enter 148 Tryz.func86 rfl Tryz.ntmps86 rfl rfl ?_
 have hs1 := St.init w
 refine WC.sr (WL.bx hs1 rfl (fun b2 _ hs3 => WL.bx hs3 rfl (fun b4 _ hs5 => WL.al hs5 Tryz.zeroValue34 rfl rfl (fun b6 _ hs7 => WL.r 1 hs7 [] rfl (WL.nil (WC.seq (fun K8 hK8 => WC.sr ?_)))))))
 refine WL.r 1 hs7 [2] rfl (WL.cl Tryz.call52 rfl (k121_ d _ (okDiskR.st0 f_d hs7) ?_) ?_)
 · first | assumption | rfl | omega
 rintro _ whs9 ⟨rfl, hs9⟩
 replace hs9 := hs7.call0 hs9
 refine ⟨_, rfl, WL.r 2 hs9 [] rfl ?_⟩
 apply WL.gO 3 Acts.nil hs9 rfl
 ·intro g10 J11
  have qg10 := g10
  try simp only [bf, within_iff, within_not] at qg10
  refine WL.runA tbk 1 (Acts.nil.cons (j := 3) rfl g10) hs9 [1] rfl ⟨rfl, trivial⟩ (WL.call (wantF rfl g10) rfl rfl (Run.call Tryz.call145 rfl rfl rfl) (k126_ op _ (okDiskOpR.st0 f_op hs9)) ?_)
  rintro _ whs12 ⟨rfl, hs12⟩
  replace hs12 := hs9.call0 hs12
  refine ⟨_, rfl, WL.runA tbk 1 (Acts.nil.cons (j := 3) rfl g10) hs12 [] rfl trivial (WL.eO 3 Acts.nil J11 hs12 g10 rfl rfl)⟩
 intro _ hs13
 refine WL.nil (WC.cq rfl (fun h14 qh14 => ?_) (fun h14 qh14 => ?_))
 ·have hbad : (diskOk d.dat && dopOk op.dat) = false := by have h9 := h14; revert h9; cases diskOk d.dat <;> cases dopOk op.dat <;> simp
  obtain ⟨hdn, hc⟩ := done_bad hbad
  refine WC.sr ?_
  refine WL.val rfl rfl rfl (Run.build rfl rfl rfl rfl (built_34)) (WL.st tbk hs13 0 rfl rfl (fun _ hs15 => WL.r 1 hs15 [] rfl (WL.nil (WC.ret (tkR ?_)))))
  clear hK8
  refine retV2 rfl (resV.cellA tbk hs15 0 rfl rfl rfl rfl) (resV.tmp rfl) ?_
  obtain ⟨L20, hs19, ho21⟩ := ownDiskR.fl hs15 (OwnN.nil _ _ _) (OwnF.nil _ _) (OwnF.nil _ _)
  have hs22 := (((hs19.fb b2).fb b4).fb b6)
  refine ⟨⟨0, 0, 0, ⟨none, 0, 0, []⟩, ⟨none, 0, 0, []⟩, ⟨none, 0, 0, []⟩⟩, _, (by rw [hc]; first | done | rfl | (rw [hr0]; done) | (rw [hr0]; rfl)), (St.keep1 (hs22.fr L20)), ?_, ?_⟩
  · exact (by exact ho21)
  · rw [hdn]; rfl
 have hgood : (diskOk d.dat && dopOk op.dat) = true := by have h9 := h14; revert h9; cases diskOk d.dat <;> cases dopOk op.dat <;> simp
 rw [Bool.and_eq_true] at hgood
 obtain ⟨hok, hop⟩ := hgood
 have hD := diskOk_P hok
 obtain ⟨hs1, hs2, hs3, hs4, hs5, hs6, hs7, hs8⟩ := hD.small
 have hdl : (dirD d.dat).length ≤ 40 := Nat.le_trans turnsL_len (by show d.Kept.xs.length + d.Turns.xs.length ≤ 40; have h1 : d.Kept.xs.length ≤ 10 := hs2; have h2 : d.Turns.xs.length ≤ 30 := hs3; omega)
 have hnl := f_op.Data.len
 have hdpl : op.Data.xs.length ≤ 400000 := dop_len hop
 have hu9 : usedF d.dat.Files ≤ 1048576 := Nat.le_trans hD.room.2.1 (by decide)
 refine WC.skip (hK8 _ _ (WC.sr (WL.r 1 hs13 [2] rfl ?_)))
 refine WL.cl Tryz.call66 rfl (k124_ d _ (okDiskR.st0 f_d hs13) ?_) ?_
 · first | assumption | rfl | omega
 rintro _ whs23 ⟨r24, L1_25, rfl, hs23, ho26, hd27⟩
 replace hs23 := hs13.callF hs23
 refine ⟨_, rfl, ?_⟩
 replace hs23 := St.back [_, _, _] hs23
 have hrsm0 : smDisk 549755813888 (DiskR.dat r24) := by rw [hd27]; exact hsmB
 refine WL.al hs23 Tryz.zeroValue34 rfl rfl (fun b28 _ hs29 => WL.st tbk hs29 0 rfl rfl (fun _ hs30 => WL.nil (WC.sr (WL.r 2 hs30 [3, 2] rfl ?_))))
 refine WL.cl Tryz.call146 rfl (k127_ d op _ (okDiskR.st0 f_d hs30) (okDiskOpR.st0 f_op hs30) ?_ ?_) ?_
 iterate 2 first | assumption | rfl | omega
 rintro _ whs31 ⟨rfl, hs31⟩
 replace hs31 := hs30.call0 hs31
 refine ⟨_, rfl, WL.r 1 hs31 [] rfl (WL.nil (WC.seq (fun K32 hK32 => WC.r1 hs31 [] rfl ?_)))⟩
 refine WC.cq rfl (fun h33 qh33 => ?_) (fun h33 qh33 => ?_)
 ·have hr0 : ¬ refuse d.dat op.dat = 0 := by have h9 := h33; simpa using h9
  obtain ⟨hdn, hc⟩ := done_ref hok hop hr0
  refine WC.sr (WL.r 2 hs31 [0] rfl (WL.st tbk hs31 1 rfl rfl (fun _ hs34 => WL.r 1 hs34 [] rfl (WL.nil (WC.ret (tkR ?_))))))
  clear hK32
  refine retV2 rfl (resV.cellA tbk hs34 1 rfl rfl rfl rfl) (resV.tmp rfl) ?_
  refine ⟨r24, _, (by rw [hc]; first | done | rfl | (rw [hr0]; done) | (rw [hr0]; rfl)), (St.keep1 (hs34.fr L1_25)), ?_, ?_⟩
  · exact ho26
  · rw [hdn]; exact hd27
 have hr0 : refuse d.dat op.dat = 0 := by have h9 := h33; simpa using h9
 obtain ⟨hdn, hc0⟩ := done_do hok hop hr0
 have hfu0 : ¬ d.dat.Fuse = 0 := refuse_fuse hr0
 refine WC.skip (hK32 _ _ (WC.seq (fun K35 hK35 => WC.r1 hs31 [0] rfl ?_)))
 refine WC.jPK [0, 1, 2, 3, 4, 5, 6, 7, 12, 13, 14, 15, 19, 21, 22, 23, 24, 25, 26, 27, 30, 31, 32] rfl ((hs31.fr L1_25).fb b28) (fun o_ L_ => ∃ r : DiskR, o_ = Obj.cells (List.toArray [i64 r.Room, i64 r.Fuse, i64 r.Next, .slice r.Files.A r.Files.n r.Files.c, .slice r.Kept.A r.Kept.n r.Kept.c, .slice r.Turns.A r.Turns.n r.Turns.c]) 34 (0, 0) ∧ ownDiskR r L_ ∧ r.dat = fuse1 d.dat) ?_ ?_
 ·refine WC.cq rfl (fun h36 qh36 => ?_) (fun h36 qh36 => ?_)
  ·have hfu := h36
   have hfu3 : r24.Fuse ≤ 1000 := by show (DiskR.dat r24).Fuse ≤ 1000; rw [hd27]; exact hs7
   have hfu4 : 0 < r24.Fuse := by simpa using hfu
   refine WC.region (WL.r 4 hs31 [0] rfl (WL.st tbk hs31 0 rfl rfl (fun _ hs37 => WL.nil ?_)))
   obtain ⟨L38, L39, L40, hs44, ho41, ho42, ho43⟩ := ownDiskR.op hs37 ho26
   have hs45 := ((((hs44.fb b2).fb b4).fb b6).fb b28)
   obtain ⟨L47, hs46, ho48⟩ := ownDiskR.fl hs45 ho41 ho42 ho43
   have hs49 := ((((hs46.fb b2).fb b4).fb b6).fb b28)
   refine tkN ⟨_, _, (((((hs49.fb b2).fb b4).fb b6).fr L47).fb b28), ⟨⟨r24.Room, (r24.Fuse - (1)), r24.Next, SlD.ofN ho41, SlD.of ho42, SlD.of ho43⟩, rfl, (by exact ho48), ?_⟩, sbF rfl⟩
   · rw [← hd27]; unfold fuse1; rw [if_pos (show 0 < (DiskR.dat r24).Fuse from by show 0 < r24.Fuse; simpa using hfu)]; first | done | rfl
  have hfu := h36
  refine WC.skip (tkN ⟨_, _, (((((hs31.fb b2).fb b4).fb b6).fr L1_25).fb b28), ⟨r24, rfl, ho26, ?_⟩, sbF rfl⟩)
  · rw [← hd27]; unfold fuse1; rw [if_neg (show ¬ 0 < (DiskR.dat r24).Fuse from by show ¬ 0 < r24.Fuse; simpa using hfu)]; first | done | rfl
 rintro _ L50 _ ⟨r51, rfl, ho52, hd53⟩ hs54 f_ hf_
 refine hK35 _ _ (WC.sub _ hf_ ?_)
 clear hf_
 have hs55 := ((((hs54.fb b2).fb b4).fb b6).fb b28)
 have hsmr : smDisk 549755813888 (DiskR.dat r51) := by rw [hd53]; exact hsmB
 have hro := ownDiskR.ok (B := 549755813888) ho52 (hs55.ow L50) hsmr
 have hrF : (DiskR.dat r51).Files = d.dat.Files := (show _ = (fuse1 d.dat).Files from congrArg DiskD.Files hd53)
 have hrK : (DiskR.dat r51).Kept = d.dat.Kept := (show _ = (fuse1 d.dat).Kept from congrArg DiskD.Kept hd53)
 have hrT : (DiskR.dat r51).Turns = d.dat.Turns := (show _ = (fuse1 d.dat).Turns from congrArg DiskD.Turns hd53)
 have hrN : r51.Next = d.Next := congrArg DiskD.Next hd53
 have hrfl := hro.Files.sl.len
 have hrkl := hro.Kept.len
 have hrtl := hro.Turns.len
 have hrf10 : r51.Files.xs.length ≤ 10 := by rw [← List.length_map (f := FileR.dat)]; show (DiskR.dat r51).Files.length ≤ 10; rw [hrF]; exact hs1
 have hrt30 : r51.Turns.xs.length ≤ 30 := by show (DiskR.dat r51).Turns.length ≤ 30; rw [hrT]; exact hs3
 have hrk10 : r51.Kept.xs.length ≤ 10 := by show (DiskR.dat r51).Kept.length ≤ 10; rw [hrK]; exact hs2
 obtain ⟨hrm1, hrm2, hrm3⟩ := hD.room
 have hrm1' : d.Room - ((usedF d.dat.Files : Nat) : Int) = (roomD d.dat : Int) := hrm1
 have hrm4 : d.Room ≤ 400000 := hrm3
 have hrfn : fileN (DiskR.dat r51) op.Name = fileN d.dat op.Name := by rw [hd53]; rfl
 have hrr : roomD (DiskR.dat r51) = roomD d.dat := by rw [hd53]; rfl
 have hrd : dirD (DiskR.dat r51) = dirD d.dat := by rw [hd53]; rfl
 have hn5 : d.Next ≤ 1000000 := hs4
 have hn6 : 1 ≤ d.Next := hs5
 refine WC.seq (fun K56 hK56 => WC.rH hs55 hs55 (fun _ hs57 => ?_))
 refine WH.rn [0, 1, 3, 4] hs57 [3, 3, 2] rfl rfl (WH.o1 2 rfl (WL.cl Tryz.call69 rfl (k123_ d _ (okDiskR.st0 f_d hs57) ?_ ?_) ?_))
 iterate 2 first | assumption | rfl | omega | (show r51.Files.xs.length ≤ 1048576; omega) | (show (dirD d.dat).length ≤ 1048576; omega) | exact sm_kept hsmr (Nat.le_trans hdl (by decide)) hsmK
 rintro _ whs58 ⟨A59, c60, L1_61, rfl, hs58, ho62⟩
 replace hs58 := hs57.callF hs58
 refine ⟨_, rfl, ?_⟩
 replace hs58 := St.back [_, _, _, _] hs58
 refine WL.nil ⟨(hs58.rm L1_61), WH.o1 5 rfl (WL.cl Tryz.call108 rfl (k51_ _ _ _ _ _ _ (SlF.ofOwn ho62 (hs58.ow L1_61)) ?_) ?_)⟩
 · first | assumption | rfl | omega | (show r51.Files.xs.length ≤ 1048576; omega) | (show (dirD d.dat).length ≤ 1048576; omega) | exact sm_kept hsmr (Nat.le_trans hdl (by decide)) hsmK
 rintro _ whs63 ⟨rfl, hs63⟩
 replace hs63 := hs58.call0 hs63
 refine ⟨_, rfl, WL.nil ⟨(hs63.rm L1_61), WH.o1 6 rfl (WL.cl Tryz.call109 rfl (k125_ d _ _ (okDiskR.st0 f_d hs63)) ?_)⟩⟩
 rintro _ whs64 ⟨rfl, hs64⟩
 replace hs64 := hs63.call0 hs64
 refine ⟨_, rfl, WL.nil ⟨(hs64.rm L1_61), WH.rn [7] (hs64.rm L1_61) [] rfl rfl (WH.dn (hK56 _ _ (WC.seq (fun K65 hK65 => WC.r1 hs64 [2] rfl (WC.block ?_)))))⟩⟩
 refine WC.r1 hs64 [] rfl (WC.cq rfl (fun h66 qh66 => ?_) (fun h66 qh66 => ?_))
 ·have k1 : op.Kind = 1 := by have h9 := h66; simpa using h9
  have hc : doneC d.dat op.dat = 0 := hc0.trans (doC_0 (show ¬ op.Kind = 2 by omega))
  refine WC.sr (WL.r 4 hs64 [0, 3] rfl ?_)
  refine WL.val rfl rfl rfl (Run.build rfl rfl rfl rfl (built_123_0 _)) (WL.buildSlice hs64 Tryz.runUnderlying30 Tryz.sizeOf123 Tryz.zeroValue123 rfl rfl rfl rfl rfl rfl rfl rfl rfl rfl (fun b67 whs68 hs68 => ?_))
  obtain ⟨L69, L70, L71, hs75, ho72, ho73, ho74⟩ := ownDiskR.op hs68 ho52
  have hs76 := (((((hs75.fb b2).fb b4).fb b6).fb b28).fb b67)
  obtain ⟨L78, L79, hs82, ho80, ho81⟩ := OwnN.open_ (hs76.fr L69) ho72
  have hs83 := (((((hs82.fb b2).fb b4).fb b6).fb b28).fb b67)
  refine WL.appendG (hs83.fr L78) ho80 (srcF (F := encFileR) (ys := [(⟨d.Next, ⟨none, 0, 0, []⟩, 0⟩ : FileR)]) Tryz.underlying30 rfl rfl (hs83.own _ (nthL_mem (i := 0) rfl)).1) Tryz.underlying30 inf123 rfl rfl rfl rfl rfl rfl rfl rfl rfl rfl ?_ (fun A87 c88 L84 whs85 hs85 ho86 => ?_)
  · (try simp only [List.length_append, List.length_singleton, List.length_take]); omega
  replace hs85 := St.back [_, _, _, _, _] hs85
  obtain ⟨L89, hs90, hb91⟩ := Bag.put (x := (⟨d.Next, ⟨none, 0, 0, []⟩, 0⟩ : FileR)) ((hs85.fr ([] : Hp)).fr L79) ho81 (OwnF.nil _ _)
  have hs92 := (((((hs90.fb b2).fb b4).fb b6).fb b28).fb b67)
  obtain ⟨L94, hs93, ho95⟩ := OwnN.fold ((hs92.fr L89).fr L84) ho86 hb91
  have hs96 := (((((hs93.fb b2).fb b4).fb b6).fb b28).fb b67)
  refine WL.r 1 hs96 [] rfl (WL.st tbk hs96 1 rfl rfl (fun _ hs97 => WL.nil (WC.sr (WL.r 8 hs97 [1, 3, 3, 4] rfl ?_))))
  refine WL.val rfl rfl rfl (Run.build rfl rfl rfl rfl (built_137_0_1_3 _ _ _)) (WL.buildSlice hs97 Tryz.runUnderlying32 Tryz.sizeOf137 Tryz.zeroValue137 rfl rfl rfl rfl rfl rfl rfl rfl rfl rfl (fun b98 whs99 hs99 => ?_))
  refine WL.appendG (hs99.fr L71) ho74 (srcF (F := encTurn) (ys := [⟨op.Kind, op.Name, noName, d.Next⟩]) Tryz.underlying32 rfl rfl (hs99.own _ (nthL_mem (i := 0) rfl)).1) Tryz.underlying32 inf137 rfl rfl rfl rfl rfl rfl rfl rfl rfl rfl ?_ (fun A103 c104 L100 whs101 hs101 ho102 => ?_)
  · (try simp only [List.length_append, List.length_singleton, List.length_take]); omega
  replace hs101 := St.back [_, _, _, _, _, _] hs101
  refine WL.r 1 hs101 [] rfl (WL.st tbk hs101 2 rfl rfl (fun _ hs105 => WL.nil (WC.region (WL.r 4 hs105 [2] rfl (WL.st tbk hs105 2 rfl rfl (fun _ hs106 => WL.nil (hK65 _ _ ?_)))))))
  refine WC.sr (WL.r 2 hs106 [2] rfl (WL.st tbk hs106 3 rfl rfl (fun _ hs107 => WL.r 1 hs107 [] rfl (WL.nil (WC.ret (retV2 rfl (resV.cellA tbk hs107 3 rfl rfl rfl rfl) (resV.tmp rfl) ?_))))))
  obtain ⟨L109, hs108, ho110⟩ := ownDiskR.fl hs107 ho95 ho73 ho102
  have hs111 := ((((((hs108.fb b2).fb b4).fb b6).fb b28).fb b67).fb b98)
  refine ⟨⟨r51.Room, r51.Fuse, (r51.Next + (1)), SlD.ofN ho95, SlD.of ho73, SlD.of ho102⟩, _, (by rw [hc]; first | done | rfl | (rw [hr0]; done) | (rw [hr0]; rfl)), (St.keep1 (hs111.fr L109)), ?_, ?_⟩
  · exact (by exact ho110)
  · rw [hdn]; unfold doD; rw [if_pos (show op.dat.Kind = 1 from k1), ← hd53]; exact DiskD.ext' rfl rfl (by show _ + 1 = _ + 1; rw [show r51.Next = (DiskR.dat r51).Next from rfl]) (by show List.map FileR.dat (_ ++ _) = _; rw [List.map_append]; show _ ++ [(⟨d.Next, [], 0⟩ : FileD)] = _ ++ [(⟨r51.Next, [], 0⟩ : FileD)]; rw [hrN]; rfl) rfl (by show _ ++ [(⟨_, _, _, d.Next⟩ : TurnD)] = _ ++ [(⟨_, _, _, r51.Next⟩ : TurnD)]; rw [hrN]; (try rw [k1]); rfl)
 have k1 : ¬ op.Kind = 1 := by have h9 := h66; simpa using h9
 refine WC.r1 hs64 [] rfl (WC.cq rfl (fun h112 qh112 => ?_) (fun h112 qh112 => ?_))
 ·have k2 : op.Kind = 2 := by have h9 := h112; simpa using h9
  have hh : hasN (dirD d.dat) op.Name = true := (refuse_has hr0 (show op.Kind ≠ 6 by omega)).trans (by rw [show decide (op.dat.Kind = 1) = false from decide_eq_false (show ¬ op.Kind = 1 by omega)]; rfl)
  have hfn := (hD.at hh).1
  have hat : atI d.dat.Files (findL (dirD d.dat) op.Name) = ((fileN (DiskR.dat r51) op.Name) : Int) := by rw [hrfn]; exact (hD.at hh).2
  have hfn2 : (fileN (DiskR.dat r51) op.Name) < r51.Files.xs.length := by rw [hrfn, ← List.length_map (f := FileR.dat)]; show _ < (DiskR.dat r51).Files.length; rw [hrF]; exact hfn
  have hyb := (hro.Files.all _ (gat_mem (F := encFileR) (xs := r51.Files.xs) (k := (fileN (DiskR.dat r51) op.Name)) hfn2)).Body.len
  have hyu : (gat encFileR r51.Files.xs (fileN (DiskR.dat r51) op.Name)).Body.xs.length ≤ usedF d.dat.Files := by rw [← hrF]; exact usedF_gat hfn2
  refine WC.r1 hs64 [2] rfl (WC.seq (fun K113 hK113 => WC.sq1 hs64 (WQ.r 4 [3, 3] rfl ?_)))
  refine WQ.call rfl rfl rfl (fun w_ hs_ => (Run.call Tryz.call101 rfl rfl rfl)) (fun w_ hs_ => (k59_ d _ (okDiskR.st0 f_d (hs_ : St _ _ _ _)) ?_).mono fun e_ w_ h_ => ⟨h_.1, (hs_ : St _ _ _ _).call0 h_.2⟩) ?_
  · first | assumption | rfl | omega
  refine WQ.r 2 [] rfl (WQ.nil (fun _ (hs114 : St _ _ _ _) => ?_))
  refine WC.cq rfl (fun h115 qh115 => ?_) (fun h115 qh115 => ?_)
  ·have h83 : roomD d.dat < op.Data.n := by have h9 := h115; rw [hrm1'] at h9; simp at h9; omega
   have hc : doneC d.dat op.dat = 5 := hc0.trans (if_pos ⟨k2, by show _ < op.Data.xs.length; omega⟩)
   refine WC.sq1 hs114 (WQ.r 3 [3, 3] rfl ?_)
   refine WQ.call rfl rfl rfl (fun w_ hs_ => (Run.call Tryz.call101 rfl rfl rfl)) (fun w_ hs_ => (k59_ d _ (okDiskR.st0 f_d (hs_ : St _ _ _ _)) ?_).mono fun e_ w_ h_ => ⟨h_.1, (hs_ : St _ _ _ _).call0 h_.2⟩) ?_
   · first | assumption | rfl | omega
   refine WQ.r 2 [] rfl (WQ.nil (fun _ (hs116 : St _ _ _ _) => WC.region (WL.r 1 hs116 [] rfl (WL.nil (hK113 _ _ (WC.sr (WL.r 3 hs116 [0] rfl ?_)))))))
   refine WL.val rfl rfl rfl (Run.idxK ((fileN (DiskR.dat r51) op.Name)) Tryz.runUnderlying30 Tryz.sizeOf123 rfl rfl rfl ?_ ?_ ?_) ?_
   · exact SlF.some_ (ownDiskR.ok (B := 549755813888) ho52 (hs116.ow L50) hsmr).Files.sl
   · omega
   · omega
   refine WL.val rfl rfl rfl (Run.loadA Tryz.isAgg123 Tryz.sizeOf123 rfl rfl (SlF.whole (ownDiskR.ok (B := 549755813888) ho52 (hs116.ow L50) hsmr).Files.sl ?_)) ?_
   · omega
   refine WL.al hs116 Tryz.zeroValue123 rfl rfl (fun b117 _ hs118 => WL.st tbk hs118 0 rfl rfl (fun _ hs119 => WL.nil (WC.seq (fun K120 hK120 => WC.rG 6 ((hs119.d1.rm L1_61).rm L50) hs119 hs119 (fun _ hs121 => ?_)))))
   refine WG.rn [0, 1, 2, 3, 4] hs121 [0, 3] rfl rfl ?_
   refine WG.tk 5 rfl (by kernel_rfl) rfl rfl rfl hs121 (fun w_ hs_ => (Run.sliceH ((roomD d.dat)) Tryz.runUnderlying43 Tryz.sizeOf5 rfl rfl rfl ?_ ?_)) ?_
   · first | rfl | (omega)
   · refine ⟨?_, ?_, ?_⟩ <;> (omega)
   refine WG.oK rfl ?_
   obtain ⟨L122, L123, L124, hs128, ho125, ho126, ho127⟩ := ownDiskR.op hs121 ho52
   have hs129 := (((((hs128.fb b2).fb b4).fb b6).fb b28).fb b117)
   obtain ⟨L130, L131, hs134, ho132, ho133⟩ := OwnN.open_ (hs129.fr L122) ho125
   have hs135 := (((((hs134.fb b2).fb b4).fb b6).fb b28).fb b117)
   obtain ⟨L136, L137, L138, hs139, ho140, hp141⟩ := Bag.out (F := encFileR) (i := (fileN (DiskR.dat r51) op.Name)) (hs135.fr L131) ho133 (by omega)
   have hs142 := (((((hs139.fb b2).fb b4).fb b6).fb b28).fb b117)
   refine WL.appendG (hs142.fr L137) ho140 (SlF.src (SlF.cutH ((roomD d.dat)) (SlF.st0 f_op.Data hs142) (by refine ⟨?_, ?_, ?_⟩ <;> (omega))) Tryz.underlying43) Tryz.underlying43 inf5 rfl rfl rfl rfl rfl rfl rfl rfl rfl rfl ?_ (fun A146 c147 L143 whs144 hs144 ho145 => ?_)
   · (try simp only [List.length_append, List.length_singleton, List.length_take]); omega
   replace hs144 := St.back [_, _, _, _, _] hs144
   refine WL.nil ⟨((((((hs144.d1.rm L143).rm (L136 ++ L138)).rm L130).rm L123).rm L124).rm L1_61), WH.rn [7] ((((((hs144.d1.rm L143).rm (L136 ++ L138)).rm L130).rm L123).rm L124).rm L1_61) [] rfl rfl (WH.o1 8 rfl (WL.st tbk hs144 0 rfl rfl (fun _ hs148 => WL.nil ⟨((((((hs148.d1.rm L143).rm (L136 ++ L138)).rm L130).rm L123).rm L124).rm L1_61), WH.dn (hK120 _ _ (WC.region ?_))⟩)))⟩
   refine WL.r 4 hs148 [1, 0] rfl (WL.val rfl rfl rfl (Run.idxK ((fileN (DiskR.dat r51) op.Name)) Tryz.runUnderlying30 Tryz.sizeOf123 rfl rfl rfl ?_ ?_ ?_) ?_)
   · exact SlF.some_ (SlF.ofOwn ho132 (hs148.ow L130))
   · omega
   · omega
   refine WL.storeF1 (x' := ⟨(gat encFileR r51.Files.xs (fileN (DiskR.dat r51) op.Name)).Id, SlD.of ho145, (gat encFileR r51.Files.xs (fileN (DiskR.dat r51) op.Name)).Safe⟩) (hs148.fr L130) ho132 Tryz.sizeOf123 rfl rfl rfl rfl rfl rfl rfl rfl rfl ?_ rfl (fun L149 whs150 hs150 ho151 _ => ?_)
   · omega
   replace hs150 := St.back [_, _, _, _, _] hs150
   obtain ⟨L152, hs153, hb154⟩ := hp141 (⟨(gat encFileR r51.Files.xs (fileN (DiskR.dat r51) op.Name)).Id, SlD.of ho145, (gat encFileR r51.Files.xs (fileN (DiskR.dat r51) op.Name)).Safe⟩ : FileR) _ ((hs150.fr (L136 ++ L138)).fr L143) (by have h_ := ho145; exact h_)
   have hs156 := (((((hs153.fb b2).fb b4).fb b6).fb b28).fb b117)
   have ho155 := ho151
   obtain ⟨L158, hs157, ho159⟩ := OwnN.fold ((hs156.fr L152).fr L149) ho155 hb154
   have hs160 := (((((hs157.fb b2).fb b4).fb b6).fb b28).fb b117)
   refine WL.nil (hK65 _ _ (WC.sr (WL.r 2 hs160 [1] rfl (WL.st tbk hs160 2 rfl rfl (fun _ hs161 => WL.r 1 hs161 [] rfl (WL.nil (WC.ret ?_)))))))
   refine retV2 rfl (resV.cellA tbk hs161 2 rfl rfl rfl rfl) (resV.tmp rfl) ?_
   obtain ⟨L163, hs162, ho164⟩ := ownDiskR.fl hs161 ho159 ho126 ho127
   have hs165 := (((((hs162.fb b2).fb b4).fb b6).fb b28).fb b117)
   refine ⟨⟨r51.Room, r51.Fuse, r51.Next, SlD.ofN ho159, SlD.of ho126, SlD.of ho127⟩, _, (by rw [hc]; first | done | rfl | (rw [hr0]; done) | (rw [hr0]; rfl)), (St.keep1 (hs165.fr L163)), ?_, ?_⟩
   · exact (by exact ho164)
   · rw [hdn]; unfold doD; rw [if_neg (show ¬ op.dat.Kind = 1 from (by first | assumption | (show ¬ op.Kind = 1; omega))), if_pos (show op.dat.Kind = 2 from k2), ← hd53]; exact DiskD.ext' rfl rfl rfl (files_set (by rw [show fAt (DiskR.dat r51).Files (fileN (DiskR.dat r51) op.dat.Name) = FileR.dat (gat encFileR r51.Files.xs (fileN (DiskR.dat r51) op.Name)) from fAt_dat hfn2]; exact FileD.ext' rfl (by show _ ++ _ = _ ++ List.take (roomD (DiskR.dat r51)) op.Data.xs; rw [hrr]; rfl) rfl)) rfl rfl
  have h83 : op.Data.n ≤ roomD d.dat := by have h9 := h115; rw [hrm1'] at h9; simp at h9; omega
  have hc : doneC d.dat op.dat = 0 := hc0.trans (if_neg fun h_ => by have h8 := h_.2; replace h8 : _ < op.Data.xs.length := h8; omega)
  refine WC.skip (hK113 _ _ (WC.sr (WL.r 3 hs114 [0] rfl ?_)))
  refine WL.val rfl rfl rfl (Run.idxK ((fileN (DiskR.dat r51) op.Name)) Tryz.runUnderlying30 Tryz.sizeOf123 rfl rfl rfl ?_ ?_ ?_) ?_
  · exact SlF.some_ (ownDiskR.ok (B := 549755813888) ho52 (hs114.ow L50) hsmr).Files.sl
  · omega
  · omega
  refine WL.val rfl rfl rfl (Run.loadA Tryz.isAgg123 Tryz.sizeOf123 rfl rfl (SlF.whole (ownDiskR.ok (B := 549755813888) ho52 (hs114.ow L50) hsmr).Files.sl ?_)) ?_
  · omega
  refine WL.al hs114 Tryz.zeroValue123 rfl rfl (fun b166 _ hs167 => WL.st tbk hs167 0 rfl rfl (fun _ hs168 => WL.nil (WC.seq (fun K169 hK169 => WC.rG 6 ((hs168.d1.rm L1_61).rm L50) hs168 hs168 (fun _ hs170 => ?_)))))
  refine WG.rn [0, 1, 2, 3, 4] hs170 [0, 3] rfl rfl ?_
  refine WG.tk 5 rfl (by kernel_rfl) rfl rfl rfl hs170 (fun w_ hs_ => (Run.sliceH (op.Data.n) Tryz.runUnderlying43 Tryz.sizeOf5 rfl rfl rfl ?_ ?_)) ?_
  · first | rfl | (omega)
  · refine ⟨?_, ?_, ?_⟩ <;> (omega)
  refine WG.oK rfl ?_
  obtain ⟨L171, L172, L173, hs177, ho174, ho175, ho176⟩ := ownDiskR.op hs170 ho52
  have hs178 := (((((hs177.fb b2).fb b4).fb b6).fb b28).fb b166)
  obtain ⟨L179, L180, hs183, ho181, ho182⟩ := OwnN.open_ (hs178.fr L171) ho174
  have hs184 := (((((hs183.fb b2).fb b4).fb b6).fb b28).fb b166)
  obtain ⟨L185, L186, L187, hs188, ho189, hp190⟩ := Bag.out (F := encFileR) (i := (fileN (DiskR.dat r51) op.Name)) (hs184.fr L180) ho182 (by omega)
  have hs191 := (((((hs188.fb b2).fb b4).fb b6).fb b28).fb b166)
  refine WL.appendG (hs191.fr L186) ho189 (SlF.src (SlF.cutH (op.Data.n) (SlF.st0 f_op.Data hs191) (by refine ⟨?_, ?_, ?_⟩ <;> (omega))) Tryz.underlying43) Tryz.underlying43 inf5 rfl rfl rfl rfl rfl rfl rfl rfl rfl rfl ?_ (fun A195 c196 L192 whs193 hs193 ho194 => ?_)
  · (try simp only [List.length_append, List.length_singleton, List.length_take]); omega
  replace hs193 := St.back [_, _, _, _, _] hs193
  refine WL.nil ⟨((((((hs193.d1.rm L192).rm (L185 ++ L187)).rm L179).rm L172).rm L173).rm L1_61), WH.rn [7] ((((((hs193.d1.rm L192).rm (L185 ++ L187)).rm L179).rm L172).rm L173).rm L1_61) [] rfl rfl (WH.o1 8 rfl (WL.st tbk hs193 0 rfl rfl (fun _ hs197 => WL.nil ⟨((((((hs197.d1.rm L192).rm (L185 ++ L187)).rm L179).rm L172).rm L173).rm L1_61), WH.dn (hK169 _ _ (WC.region ?_))⟩)))⟩
  refine WL.r 4 hs197 [1, 0] rfl (WL.val rfl rfl rfl (Run.idxK ((fileN (DiskR.dat r51) op.Name)) Tryz.runUnderlying30 Tryz.sizeOf123 rfl rfl rfl ?_ ?_ ?_) ?_)
  · exact SlF.some_ (SlF.ofOwn ho181 (hs197.ow L179))
  · omega
  · omega
  refine WL.storeF1 (x' := ⟨(gat encFileR r51.Files.xs (fileN (DiskR.dat r51) op.Name)).Id, SlD.of ho194, (gat encFileR r51.Files.xs (fileN (DiskR.dat r51) op.Name)).Safe⟩) (hs197.fr L179) ho181 Tryz.sizeOf123 rfl rfl rfl rfl rfl rfl rfl rfl rfl ?_ rfl (fun L198 whs199 hs199 ho200 _ => ?_)
  · omega
  replace hs199 := St.back [_, _, _, _, _] hs199
  obtain ⟨L201, hs202, hb203⟩ := hp190 (⟨(gat encFileR r51.Files.xs (fileN (DiskR.dat r51) op.Name)).Id, SlD.of ho194, (gat encFileR r51.Files.xs (fileN (DiskR.dat r51) op.Name)).Safe⟩ : FileR) _ ((hs199.fr (L185 ++ L187)).fr L192) (by have h_ := ho194; exact h_)
  have hs205 := (((((hs202.fb b2).fb b4).fb b6).fb b28).fb b166)
  have ho204 := ho200
  obtain ⟨L207, hs206, ho208⟩ := OwnN.fold ((hs205.fr L201).fr L198) ho204 hb203
  have hs209 := (((((hs206.fb b2).fb b4).fb b6).fb b28).fb b166)
  refine WL.nil (hK65 _ _ (WC.sr (WL.r 2 hs209 [1] rfl (WL.st tbk hs209 2 rfl rfl (fun _ hs210 => WL.r 1 hs210 [] rfl (WL.nil (WC.ret ?_)))))))
  refine retV2 rfl (resV.cellA tbk hs210 2 rfl rfl rfl rfl) (resV.tmp rfl) ?_
  obtain ⟨L212, hs211, ho213⟩ := ownDiskR.fl hs210 ho208 ho175 ho176
  have hs214 := (((((hs211.fb b2).fb b4).fb b6).fb b28).fb b166)
  refine ⟨⟨r51.Room, r51.Fuse, r51.Next, SlD.ofN ho208, SlD.of ho175, SlD.of ho176⟩, _, (by rw [hc]; first | done | rfl | (rw [hr0]; done) | (rw [hr0]; rfl)), (St.keep1 (hs214.fr L212)), ?_, ?_⟩
  · exact (by exact ho213)
  · rw [hdn]; unfold doD; rw [if_neg (show ¬ op.dat.Kind = 1 from (by first | assumption | (show ¬ op.Kind = 1; omega))), if_pos (show op.dat.Kind = 2 from k2), ← hd53]; exact DiskD.ext' rfl rfl rfl (files_set (by rw [show fAt (DiskR.dat r51).Files (fileN (DiskR.dat r51) op.dat.Name) = FileR.dat (gat encFileR r51.Files.xs (fileN (DiskR.dat r51) op.Name)) from fAt_dat hfn2]; exact FileD.ext' rfl (by show _ ++ _ = _ ++ List.take (roomD (DiskR.dat r51)) op.Data.xs; rw [hrr, List.take_of_length_le (by omega), List.take_of_length_le (by omega)]; rfl) rfl)) rfl rfl
 have k2 : ¬ op.Kind = 2 := by have h9 := h112; simpa using h9
 have hc : doneC d.dat op.dat = 0 := hc0.trans (doC_0 (show ¬ op.Kind = 2 by omega))
 refine WC.r1 hs64 [] rfl (WC.cq rfl (fun h215 qh215 => ?_) (fun h215 qh215 => ?_))
 ·have k3 : op.Kind = 3 := by have h9 := h215; simpa using h9
  have hh : hasN (dirD d.dat) op.Name = true := (refuse_has hr0 (show op.Kind ≠ 6 by omega)).trans (by rw [show decide (op.dat.Kind = 1) = false from decide_eq_false (show ¬ op.Kind = 1 by omega)]; rfl)
  have hfn := (hD.at hh).1
  have hat : atI d.dat.Files (findL (dirD d.dat) op.Name) = ((fileN (DiskR.dat r51) op.Name) : Int) := by rw [hrfn]; exact (hD.at hh).2
  have hfn2 : (fileN (DiskR.dat r51) op.Name) < r51.Files.xs.length := by rw [hrfn, ← List.length_map (f := FileR.dat)]; show _ < (DiskR.dat r51).Files.length; rw [hrF]; exact hfn
  have hyb := (hro.Files.all _ (gat_mem (F := encFileR) (xs := r51.Files.xs) (k := (fileN (DiskR.dat r51) op.Name)) hfn2)).Body.len
  have hyu : (gat encFileR r51.Files.xs (fileN (DiskR.dat r51) op.Name)).Body.xs.length ≤ usedF d.dat.Files := by rw [← hrF]; exact usedF_gat hfn2
  refine WC.sr (WL.r 3 hs64 [0] rfl (WL.val rfl rfl rfl (Run.idxK ((fileN (DiskR.dat r51) op.Name)) Tryz.runUnderlying30 Tryz.sizeOf123 rfl rfl rfl ?_ ?_ ?_) ?_))
  · exact SlF.some_ (ownDiskR.ok (B := 549755813888) ho52 (hs64.ow L50) hsmr).Files.sl
  · omega
  · omega
  refine WL.val rfl rfl rfl (Run.loadA Tryz.isAgg123 Tryz.sizeOf123 rfl rfl (SlF.whole (ownDiskR.ok (B := 549755813888) ho52 (hs64.ow L50) hsmr).Files.sl ?_)) ?_
  · omega
  refine WL.al hs64 Tryz.zeroValue123 rfl rfl (fun b216 _ hs217 => WL.st tbk hs217 0 rfl rfl (fun _ hs218 => WL.nil (WC.sr (WL.r 3 hs218 [0] rfl ?_))))
  skip
  refine WL.r 1 hs218 [] rfl (WL.st tbk hs218 0 rfl rfl (fun _ hs219 => WL.nil (WC.region (WL.r 4 hs219 [1, 0] rfl ?_))))
  refine WL.val rfl rfl rfl (Run.idxK ((fileN (DiskR.dat r51) op.Name)) Tryz.runUnderlying30 Tryz.sizeOf123 rfl rfl rfl ?_ ?_ ?_) ?_
  · exact SlF.some_ (ownDiskR.ok (B := 549755813888) ho52 (hs219.ow L50) hsmr).Files.sl
  · omega
  · omega
  obtain ⟨L220, L221, L222, hs226, ho223, ho224, ho225⟩ := ownDiskR.op hs219 ho52
  have hs227 := (((((hs226.fb b2).fb b4).fb b6).fb b28).fb b216)
  obtain ⟨L228, L229, hs232, ho230, ho231⟩ := OwnN.open_ (hs227.fr L220) ho223
  have hs233 := (((((hs232.fb b2).fb b4).fb b6).fb b28).fb b216)
  obtain ⟨L234, L235, L236, hs237, ho238, hp239⟩ := Bag.out (F := encFileR) (i := (fileN (DiskR.dat r51) op.Name)) (hs233.fr L229) ho231 (by omega)
  have hs240 := (((((hs237.fb b2).fb b4).fb b6).fb b28).fb b216)
  refine WL.storeF1 (x' := ⟨(gat encFileR r51.Files.xs (fileN (DiskR.dat r51) op.Name)).Id, SlD.of ho238, ((gat encFileR r51.Files.xs (fileN (DiskR.dat r51) op.Name)).Body.n : Int)⟩) (hs240.fr L228) ho230 Tryz.sizeOf123 rfl rfl rfl rfl rfl rfl rfl rfl rfl ?_ rfl (fun L241 whs242 hs242 ho243 _ => ?_)
  · omega
  replace hs242 := St.back [_, _, _, _, _] hs242
  obtain ⟨L244, hs245, hb246⟩ := hp239 (⟨(gat encFileR r51.Files.xs (fileN (DiskR.dat r51) op.Name)).Id, SlD.of ho238, ((gat encFileR r51.Files.xs (fileN (DiskR.dat r51) op.Name)).Body.n : Int)⟩ : FileR) _ ((hs242.fr (L234 ++ L236)).fr L235) (by have h_ := ho238; exact h_)
  have hs248 := (((((hs245.fb b2).fb b4).fb b6).fb b28).fb b216)
  have ho247 := ho243
  obtain ⟨L250, hs249, ho251⟩ := OwnN.fold ((hs248.fr L244).fr L241) ho247 hb246
  have hs252 := (((((hs249.fb b2).fb b4).fb b6).fb b28).fb b216)
  refine WL.nil (hK65 _ _ (WC.sr (WL.r 2 hs252 [1] rfl (WL.st tbk hs252 2 rfl rfl (fun _ hs253 => WL.r 1 hs253 [] rfl (WL.nil (WC.ret ?_)))))))
  refine retV2 rfl (resV.cellA tbk hs253 2 rfl rfl rfl rfl) (resV.tmp rfl) ?_
  obtain ⟨L255, hs254, ho256⟩ := ownDiskR.fl hs253 ho251 ho224 ho225
  have hs257 := (((((hs254.fb b2).fb b4).fb b6).fb b28).fb b216)
  refine ⟨⟨r51.Room, r51.Fuse, r51.Next, SlD.ofN ho251, SlD.of ho224, SlD.of ho225⟩, _, (by rw [hc]; first | done | rfl | (rw [hr0]; done) | (rw [hr0]; rfl)), (St.keep1 (hs257.fr L255)), ?_, ?_⟩
  · exact (by exact ho256)
  · rw [hdn]; unfold doD; rw [if_neg (show ¬ op.dat.Kind = 1 from (by first | assumption | (show ¬ op.Kind = 1; omega))), if_neg (show ¬ op.dat.Kind = 2 from (by first | assumption | (show ¬ op.Kind = 2; omega))), if_pos (show op.dat.Kind = 3 from k3), ← hd53]; exact DiskD.ext' rfl rfl rfl (files_set (by rw [show fAt (DiskR.dat r51).Files (fileN (DiskR.dat r51) op.dat.Name) = FileR.dat (gat encFileR r51.Files.xs (fileN (DiskR.dat r51) op.Name)) from fAt_dat hfn2]; exact FileD.ext' rfl rfl (by show ((_ : Nat) : Int) = ((_ : Nat) : Int); rw [← hyb]; rfl))) rfl rfl
 have k3 : ¬ op.Kind = 3 := by have h9 := h215; simpa using h9
 refine WC.seq (fun K258 hK258 => WC.r1 hs64 [] rfl ?_)
 refine WC.cq rfl (fun h259 qh259 => ?_) (fun h259 qh259 => ?_)
 ·have k45 : op.Kind = 4 ∨ op.Kind = 5 := by have h9 := h259; simp at h9; omega
  refine WC.skip (hK258 _ _ (WC.condT rfl h259 (WC.region (WL.r 8 hs64 [0, 2, 2, 2] rfl ?_))))
  refine WL.val rfl rfl rfl (Run.build rfl rfl rfl rfl (built_137_0_1_2 _ _ _)) (WL.buildSlice hs64 Tryz.runUnderlying32 Tryz.sizeOf137 Tryz.zeroValue137 rfl rfl rfl rfl rfl rfl rfl rfl rfl rfl (fun b261 whs262 hs262 => ?_))
  obtain ⟨L263, L264, L265, hs269, ho266, ho267, ho268⟩ := ownDiskR.op hs262 ho52
  have hs270 := (((((hs269.fb b2).fb b4).fb b6).fb b28).fb b261)
  refine WL.appendG (hs270.fr L265) ho268 (srcF (F := encTurn) (ys := [⟨op.Kind, op.Name, op.To, 0⟩]) Tryz.underlying32 rfl rfl (hs270.own _ (nthL_mem (i := 0) rfl)).1) Tryz.underlying32 inf137 rfl rfl rfl rfl rfl rfl rfl rfl rfl rfl ?_ (fun A274 c275 L271 whs272 hs272 ho273 => ?_)
  · (try simp only [List.length_append, List.length_singleton, List.length_take]); omega
  replace hs272 := St.back [_, _, _, _, _] hs272
  refine WL.r 1 hs272 [] rfl (WL.st tbk hs272 1 rfl rfl (fun _ hs276 => WL.nil (hK65 _ _ (WC.sr (WL.r 2 hs276 [1] rfl (WL.st tbk hs276 2 rfl rfl (fun _ hs277 => WL.r 1 hs277 [] rfl ?_)))))))
  refine WL.nil (WC.ret (retV2 rfl (resV.cellA tbk hs277 2 rfl rfl rfl rfl) (resV.tmp rfl) ?_))
  obtain ⟨L279, hs278, ho280⟩ := ownDiskR.fl hs277 ho266 ho267 ho273
  have hs281 := (((((hs278.fb b2).fb b4).fb b6).fb b28).fb b261)
  refine ⟨⟨r51.Room, r51.Fuse, r51.Next, SlD.ofN ho266, SlD.of ho267, SlD.of ho273⟩, _, (by rw [hc]; first | done | rfl | (rw [hr0]; done) | (rw [hr0]; rfl)), (St.keep1 (hs281.fr L279)), ?_, ?_⟩
  · exact (by exact ho280)
  · rw [hdn]; unfold doD; rw [if_neg (show ¬ op.dat.Kind = 1 from (by first | assumption | (show ¬ op.Kind = 1; omega))), if_neg (show ¬ op.dat.Kind = 2 from (by first | assumption | (show ¬ op.Kind = 2; omega))), if_neg (show ¬ op.dat.Kind = 3 from (by first | assumption | (show ¬ op.Kind = 3; omega))), if_neg (show ¬ op.dat.Kind = 6 from (by first | assumption | (show ¬ op.Kind = 6; omega))), ← hd53]; rfl
 have k45n : ¬ op.Kind = 4 := by first | assumption | (have h9 := h259; simp at h9; omega)
 refine WC.region (WL.r 2 hs64 [] rfl (WL.nil (hK258 _ _ ?_)))
 refine WC.cq rfl (fun h282 qh282 => ?_) (fun h282 qh282 => ?_)
 ·have k45 : op.Kind = 4 ∨ op.Kind = 5 := by have h9 := h282; simp at h9; omega
  refine WC.region (WL.r 8 hs64 [0, 2, 2, 2] rfl ?_)
  refine WL.val rfl rfl rfl (Run.build rfl rfl rfl rfl (built_137_0_1_2 _ _ _)) (WL.buildSlice hs64 Tryz.runUnderlying32 Tryz.sizeOf137 Tryz.zeroValue137 rfl rfl rfl rfl rfl rfl rfl rfl rfl rfl (fun b283 whs284 hs284 => ?_))
  obtain ⟨L285, L286, L287, hs291, ho288, ho289, ho290⟩ := ownDiskR.op hs284 ho52
  have hs292 := (((((hs291.fb b2).fb b4).fb b6).fb b28).fb b283)
  refine WL.appendG (hs292.fr L287) ho290 (srcF (F := encTurn) (ys := [⟨op.Kind, op.Name, op.To, 0⟩]) Tryz.underlying32 rfl rfl (hs292.own _ (nthL_mem (i := 0) rfl)).1) Tryz.underlying32 inf137 rfl rfl rfl rfl rfl rfl rfl rfl rfl rfl ?_ (fun A296 c297 L293 whs294 hs294 ho295 => ?_)
  · (try simp only [List.length_append, List.length_singleton, List.length_take]); omega
  replace hs294 := St.back [_, _, _, _, _] hs294
  refine WL.r 1 hs294 [] rfl (WL.st tbk hs294 1 rfl rfl (fun _ hs298 => WL.nil (hK65 _ _ (WC.sr (WL.r 2 hs298 [1] rfl (WL.st tbk hs298 2 rfl rfl (fun _ hs299 => WL.r 1 hs299 [] rfl ?_)))))))
  refine WL.nil (WC.ret (retV2 rfl (resV.cellA tbk hs299 2 rfl rfl rfl rfl) (resV.tmp rfl) ?_))
  obtain ⟨L301, hs300, ho302⟩ := ownDiskR.fl hs299 ho288 ho289 ho295
  have hs303 := (((((hs300.fb b2).fb b4).fb b6).fb b28).fb b283)
  refine ⟨⟨r51.Room, r51.Fuse, r51.Next, SlD.ofN ho288, SlD.of ho289, SlD.of ho295⟩, _, (by rw [hc]; first | done | rfl | (rw [hr0]; done) | (rw [hr0]; rfl)), (St.keep1 (hs303.fr L301)), ?_, ?_⟩
  · exact (by exact ho302)
  · rw [hdn]; unfold doD; rw [if_neg (show ¬ op.dat.Kind = 1 from (by first | assumption | (show ¬ op.Kind = 1; omega))), if_neg (show ¬ op.dat.Kind = 2 from (by first | assumption | (show ¬ op.Kind = 2; omega))), if_neg (show ¬ op.dat.Kind = 3 from (by first | assumption | (show ¬ op.Kind = 3; omega))), if_neg (show ¬ op.dat.Kind = 6 from (by first | assumption | (show ¬ op.Kind = 6; omega))), ← hd53]; rfl
 have k45n : ¬ op.Kind = 4 := by first | assumption | (have h9 := h282; simp at h9; omega)
 refine WC.r1 hs64 [] rfl (WC.cq rfl (fun h304 qh304 => ?_) (fun h304 qh304 => ?_))
 ·have k6 : op.Kind = 6 := by have h9 := h304; simpa using h9
  refine WC.sr (WL.r 1 hs64 [3] rfl (WL.cl Tryz.call69 rfl (k123_ d _ (okDiskR.st0 f_d hs64) ?_ ?_) ?_))
  iterate 2 first | assumption | rfl | omega | (show r51.Files.xs.length ≤ 1048576; omega) | (show (dirD d.dat).length ≤ 1048576; omega) | exact sm_kept hsmr (Nat.le_trans hdl (by decide)) hsmK
  rintro _ whs305 ⟨A306, c307, L1_308, rfl, hs305, ho309⟩
  replace hs305 := hs64.callF hs305
  refine ⟨_, rfl, ?_⟩
  replace hs305 := St.back [_, _, _, _] hs305
  refine WL.r 1 hs305 [] rfl (WL.st tbk hs305 0 rfl rfl (fun _ hs310 => WL.nil (WC.sr (WL.r 1 hs310 [] rfl (WL.st tbk hs310 0 rfl rfl (fun _ hs311 => WL.nil (WC.region ?_)))))))
  refine WL.r 1 hs311 [0] rfl ?_
  obtain ⟨L312, L313, L314, hs318, ho315, ho316, ho317⟩ := ownDiskR.op hs311 ho52
  have hs319 := ((((hs318.fb b2).fb b4).fb b6).fb b28)
  obtain ⟨L322, hs321, ho323⟩ := ownDiskR.fl hs319 ho315 ho309 (OwnF.nil _ _)
  have hs324 := ((((hs321.fb b2).fb b4).fb b6).fb b28)
  refine WL.cl Tryz.call147 rfl (k130_ ⟨r51.Room, r51.Fuse, r51.Next, SlD.ofN ho315, SlD.of ho309, ⟨none, 0, 0, []⟩⟩ _ _ (by exact ho323) (hs324.ow L322) (St.nodupL (hs324.fr L322)) ?_ ?_ ?_ ?_) ?_
  iterate 4 first | assumption | rfl | omega | (show r51.Files.xs.length ≤ 1048576; omega) | (show (dirD d.dat).length ≤ 1048576; omega) | exact sm_kept hsmr (Nat.le_trans hdl (by decide)) hsmK
  rintro _ whs325 ⟨r326, L1_327, rfl, hs325, ho328, hd329⟩
  replace hs325 := St.lend (hs324.fr L322) hs325
  refine ⟨_, rfl, ?_⟩
  replace hs325 := St.back [_, _, _, _] hs325
  refine WL.st tbk hs325 0 rfl rfl (fun _ hs330 => WL.nil (hK65 _ _ (WC.sr (WL.r 2 hs330 [0] rfl (WL.st tbk hs330 1 rfl rfl (fun _ hs331 => WL.r 1 hs331 [] rfl (WL.nil ?_)))))))
  refine WC.ret (retV2 rfl (resV.cellA tbk hs331 1 rfl rfl rfl rfl) (resV.tmp rfl) ?_)
  refine ⟨r326, _, (by rw [hc]; first | done | rfl | (rw [hr0]; done) | (rw [hr0]; rfl)), (St.keep1 (hs331.fr L1_327)), ?_, ?_⟩
  · exact ho328
  · rw [hdn]; unfold doD; rw [if_neg (show ¬ op.dat.Kind = 1 from (by first | assumption | (show ¬ op.Kind = 1; omega))), if_neg (show ¬ op.dat.Kind = 2 from (by first | assumption | (show ¬ op.Kind = 2; omega))), if_neg (show ¬ op.dat.Kind = 3 from (by first | assumption | (show ¬ op.Kind = 3; omega))), if_pos (show op.dat.Kind = 6 from k6), ← hd53]; refine (hd329).trans (DiskD.ext' rfl rfl rfl ?_ ?_ rfl) <;> (simp only [DiskR.dat] at hrd ⊢; rw [hrd])
 have k6 : ¬ op.Kind = 6 := by have h9 := h304; simpa using h9
 refine WC.skip (hK65 _ _ (WC.sr (WL.r 2 hs64 [0] rfl (WL.st tbk hs64 1 rfl rfl (fun _ hs332 => WL.r 1 hs332 [] rfl (WL.nil (WC.ret ?_)))))))
 refine retV2 rfl (resV.cellA tbk hs332 1 rfl rfl rfl rfl) (resV.tmp rfl) ?_
 refine ⟨r51, _, (by rw [hc]; first | done | rfl | (rw [hr0]; done) | (rw [hr0]; rfl)), (St.keep1 (hs332.fr L50)), ?_, ?_⟩
 · exact ho52
 · exfalso; have h9 := dop_kind hop; have h8 : 1 ≤ op.Kind ∧ op.Kind ≤ 6 := h9; omega
theorem k132_ (p : DepotR) (w : World) (f_p : okDepotR 549755813888 w p) (hb : totDisk p.dat.Disk ≤ 1048576) :
    Calls Tryz.prog 38 #[.agg #[i64 p.Disk.Room, i64 p.Disk.Fuse, i64 p.Disk.Next, .slice p.Disk.Files.A p.Disk.Files.n p.Disk.Files.c, .slice p.Disk.Kept.A p.Disk.Kept.n p.Disk.Kept.c, .slice p.Disk.Turns.A p.Disk.Turns.n p.Disk.Turns.c, i64 p.Gen, i64 p.Seq, i64 p.Size, .bool p.Stuck]] w fun e w' => e = .returned (.bool (depotOk p.dat)) ∧ St w [] [] w' := by
 have nb_p_Disk_Files := f_p.Disk.Files_n
 have nl_p_Disk_Files := f_p.Disk.Files.sl.len
 have nb_p_Disk_Kept := f_p.Disk.Kept_n
 have nl_p_Disk_Kept := f_p.Disk.Kept.len
 have nb_p_Disk_Turns := f_p.Disk.Turns_n
 have nl_p_Disk_Turns := f_p.Disk.Turns.len
 refine enter 59 Tryz.func38 rfl Tryz.ntmps38 rfl rfl ?_
 have hs1 := St.init w
 refine WC.sr (WL.bx hs1 rfl (fun b2 _ hs3 => WL.r 1 hs3 [] rfl (WL.nil (WC.seq (fun K4 hK4 => WC.sr (WL.r 2 hs3 [0] rfl ?_))))))
 refine WL.cl Tryz.call52 rfl (k121_ p.Disk _ (okDiskR.st0 f_p.Disk hs3) ?_) ?_
 · first | assumption | rfl | omega | exact hb
 rintro _ whs5 ⟨rfl, hs5⟩
 replace hs5 := hs3.call0 hs5
 refine ⟨_, rfl, WL.r 2 hs5 [] rfl (WL.pO tbk 3 Acts.nil hs5 [0] rfl rfl rfl rfl (fun g_ => ⟨rfl, trivial⟩) (WL.r 1 hs5 [] rfl (WL.pO tbk 3 Acts.nil hs5 [0] rfl rfl rfl rfl (fun g_ => ⟨rfl, trivial⟩) (WL.r 1 hs5 [] rfl (WL.pO tbk 3 Acts.nil hs5 [0] rfl rfl rfl rfl (fun g_ => ⟨rfl, trivial⟩) (WL.r 1 hs5 [] rfl ?_))))))⟩
 refine WL.pO tbk 3 Acts.nil hs5 [0] rfl rfl rfl rfl (fun g_ => ⟨rfl, trivial⟩) (WL.r 1 hs5 [] rfl (WL.pO tbk 3 Acts.nil hs5 [0] rfl rfl rfl rfl (fun g_ => ⟨rfl, trivial⟩) (WL.nil (WC.cq rfl (fun h6 qh6 => ?_) (fun h6 qh6 => ?_)))))
 ·have hA : depA p.dat = false := by rw [depA_s, h6]; rfl
  refine WC.r1 hs5 [] rfl (WC.ret (tkR ?_))
  clear hK4
  refine rtv rfl rfl hs5 ?_
  rw [depotOk_n hA]
 have hA : depA p.dat = true := by rw [depA_s, h6]; rfl
 refine WC.skip (hK4 _ _ (WC.seq (fun K7 hK7 => WC.sr (WL.r 5 hs5 [0] rfl (WL.pO tbk 2 Acts.nil hs5 [0] rfl rfl rfl rfl (fun g_ => ⟨rfl, trivial⟩) (WL.nil ?_))))))
 refine WC.cq rfl (fun h8 qh8 => ?_) (fun h8 qh8 => ?_)
 ·have hB : depB p.dat = true := h8
  refine WC.r1 hs5 [] rfl (WC.ret (tkR ?_))
  clear hK7
  refine rtv rfl rfl hs5 ?_
  rw [depotOk_b hA hB]
 have hB : depB p.dat = false := h8
 refine WC.skip (hK7 _ _ (WC.seq (fun K9 hK9 => WC.rH hs5 hs5 (fun _ hs10 => ?_))))
 refine WH.rn [0, 1, 2, 3] hs10 [0, 0] rfl rfl (WH.o1 4 rfl (WL.cl Tryz.call41 rfl (k18_ _ _) ?_))
 rintro _ whs11 ⟨rfl, hs11⟩
 replace hs11 := hs10.call0 hs11
 refine ⟨_, rfl, WL.nil ⟨hs11, WH.o1 5 rfl (WL.cl Tryz.call54 rfl (k129_ p.Disk _ _ (okDiskR.st0 f_p.Disk hs11) ?_) ?_)⟩⟩
 · first | assumption | rfl | omega | exact hb
 rintro _ whs12 ⟨A13, c14, L1_15, rfl, hs12, ho16⟩
 replace hs12 := hs11.callF hs12
 refine ⟨_, rfl, ?_⟩
 replace hs12 := St.back [_] hs12
 refine WL.nil ⟨(hs12.rm L1_15), WH.rn [6, 7, 8, 9, 10] (hs12.rm L1_15) [] rfl rfl (WH.dn (hK9 _ _ (WC.sr (WL.r 2 hs12 [] rfl (WL.pA tbk 5 Acts.nil hs12 [0] rfl rfl rfl rfl (fun g_ => ⟨rfl, trivial⟩) (WL.r 1 hs12 [] rfl ?_))))))⟩
 refine WL.nil (WC.ret (rtv rfl rfl hs12 ?_))
 rw [depotOk_c hA hB]; rfl
theorem k133_ (p : DepotR) (w : World) (f_p : okDepotR 549755813888 w p) (hb : totDisk p.dat.Disk ≤ 1048576) :
    Calls Tryz.prog 39 #[.agg #[i64 p.Disk.Room, i64 p.Disk.Fuse, i64 p.Disk.Next, .slice p.Disk.Files.A p.Disk.Files.n p.Disk.Files.c, .slice p.Disk.Kept.A p.Disk.Kept.n p.Disk.Kept.c, .slice p.Disk.Turns.A p.Disk.Turns.n p.Disk.Turns.c, i64 p.Gen, i64 p.Seq, i64 p.Size, .bool p.Stuck]] w fun e w' => ∃ r L1, e = .returned (.agg #[i64 r.Disk.Room, i64 r.Disk.Fuse, i64 r.Disk.Next, .slice r.Disk.Files.A r.Disk.Files.n r.Disk.Files.c, .slice r.Disk.Kept.A r.Disk.Kept.n r.Disk.Kept.c, .slice r.Disk.Turns.A r.Disk.Turns.n r.Disk.Turns.c, i64 r.Gen, i64 r.Seq, i64 r.Size, .bool r.Stuck]) ∧ St w [] L1 w' ∧ ownDepotR r L1 ∧ r.dat = p.dat := by
 have nb_p_Disk_Files := f_p.Disk.Files_n
 have nl_p_Disk_Files := f_p.Disk.Files.sl.len
 have nb_p_Disk_Kept := f_p.Disk.Kept_n
 have nl_p_Disk_Kept := f_p.Disk.Kept.len
 have nb_p_Disk_Turns := f_p.Disk.Turns_n
 have nl_p_Disk_Turns := f_p.Disk.Turns.len
 have hsm : smDisk 1048576 p.dat.Disk := totDisk_sm hb
 refine enter 8 Tryz.func39 rfl Tryz.ntmps39 rfl rfl ?_
 have hs1 := St.init w
 refine WC.sr (WL.bx hs1 rfl (fun b2 _ hs3 => WL.al hs3 Tryz.zeroValue36 rfl rfl (fun b4 _ hs5 => WL.nil (WC.sr (WL.r 2 hs5 [1] rfl ?_)))))
 refine WL.cl Tryz.call66 rfl (k124_ p.Disk _ (okDiskR.st0 f_p.Disk hs5) ?_) ?_
 · first | assumption | rfl | omega | exact hsm
 rintro _ whs6 ⟨r7, L1_8, rfl, hs6, ho9, hd10⟩
 replace hs6 := hs5.callF hs6
 refine ⟨_, rfl, ?_⟩
 replace hs6 := St.back [_, _] hs6
 have hcp := hd10
 refine WL.r 1 hs6 [] rfl (WL.st tbk hs6 1 rfl rfl (fun _ hs11 => WL.nil (WC.sr (WL.r 1 hs11 [1] rfl (WL.st tbk hs11 0 rfl rfl (fun _ hs12 => WL.nil (WC.ret ?_)))))))
 refine retV1 rfl (resV.cellA tbk hs12 0 rfl rfl rfl rfl) ?_
 obtain ⟨L13, L14, L15, hs19, ho16, ho17, ho18⟩ := ownDiskR.op hs12 ho9
 have hs20 := ((hs19.fb b2).fb b4)
 obtain ⟨L22, hs21, ho23⟩ := ownDepotR.fl hs20 ho16 ho17 ho18
 have hs24 := ((hs21.fb b2).fb b4)
 refine ownDepotR.ret rfl (St.keep1 (hs24.fr L22)) ho23 ?_
 · exact DepotD.ext' hcp rfl rfl rfl rfl
theorem k134_ (b_p : Nat) (p : DepotR) (L_p : Hp) (code : Int) (op_Kind : Int) (op_Name : ByteArray) (op_To : ByteArray) (A_op_Data : Option Addr) (n_op_Data c_op_Data : Nat) (op_Data : List UInt8) (w : World) (hb_p : w.heap[b_p]? = some (Obj.cells (List.toArray [i64 p.Disk.Room, i64 p.Disk.Fuse, i64 p.Disk.Next, .slice p.Disk.Files.A p.Disk.Files.n p.Disk.Files.c, .slice p.Disk.Kept.A p.Disk.Kept.n p.Disk.Kept.c, .slice p.Disk.Turns.A p.Disk.Turns.n p.Disk.Turns.c, i64 p.Gen, i64 p.Seq, i64 p.Size, .bool p.Stuck]) 36 (0, 0))) (o_p : ownDepotR p L_p) (h_p : Hh w L_p) (f_op_Data : SlF encB w A_op_Data n_op_Data op_Data) (hcd : n_op_Data ≤ c_op_Data) (hd_ : (b_p :: L_p.map (·.1)).Nodup) (s_op_Data : 0 < n_op_Data → (adr A_op_Data).block ∉ (b_p :: L_p.map (·.1))) (hb : totDisk p.dat.Disk ≤ 1048576) (hsm : smDepot 549755813888 p.dat) (hz1 : op_Name.size ≤ 549755813888) (hz2 : op_To.size ≤ 549755813888) (hz3 : n_op_Data ≤ 549755813888) :
    Calls Tryz.prog 40 #[.pointer (some ⟨b_p, 0, none⟩), i64 code, .agg #[i64 op_Kind, .string op_Name, .string op_To, .slice A_op_Data n_op_Data c_op_Data]] w fun e w' => ∃ r L1, e = .returned (.int .i64 (stepC p.dat.Disk code (⟨op_Kind, op_Name, op_To, op_Data⟩ : DiskOpD))) ∧ St w (b_p :: L_p.map (·.1)) ([(b_p, Obj.cells (List.toArray [i64 r.Disk.Room, i64 r.Disk.Fuse, i64 r.Disk.Next, .slice r.Disk.Files.A r.Disk.Files.n r.Disk.Files.c, .slice r.Disk.Kept.A r.Disk.Kept.n r.Disk.Kept.c, .slice r.Disk.Turns.A r.Disk.Turns.n r.Disk.Turns.c, i64 r.Gen, i64 r.Seq, i64 r.Size, .bool r.Stuck]) 36 (0, 0))] ++ L1) w' ∧ ownDepotR r L1 ∧ r.dat = ({ p.dat with Disk := stepD p.dat.Disk code (⟨op_Kind, op_Name, op_To, op_Data⟩ : DiskOpD) } : DepotD) := by
 have nl9 := f_op_Data.len
 refine enter 26 Tryz.func40 rfl Tryz.ntmps40 rfl rfl ?_
 have hs1 := St.takeP w b_p _ L_p hb_p h_p hd_
 refine WC.sr (WL.bx hs1 rfl (fun b2 _ hs3 => WL.r 1 hs3 [] rfl (WL.nil (WC.seq (fun K4 hK4 => WC.r1 hs3 [] rfl ?_)))))
 refine WC.cq rfl (fun h5 qh5 => ?_) (fun h5 qh5 => ?_)
 ·have hc : ¬ code = 0 := by have h9 := h5; simpa using h9
  refine WC.r1 hs3 [] rfl (WC.ret (tkR ?_))
  clear hK4
  refine retV1 rfl (resV.tmp rfl) ?_
  refine ⟨p, _, (by unfold stepC; rw [if_neg hc]), St.keepP (L1 := L_p) ((hs3.fr L_p).fb b_p), o_p, ?_⟩
  · exact DepotD.ext' (by unfold stepD; rw [if_neg hc]) rfl rfl rfl rfl
 have hc : code = 0 := by have h9 := h5; simpa using h9
 refine WC.skip (hK4 _ _ (WC.seq (fun K6 hK6 => ?_)))
 refine WC.jR2 7 8 (Value.int .i64 (doneC p.dat.Disk (⟨op_Kind, op_Name, op_To, op_Data⟩ : DiskOpD))) [0, 1, 2, 6, 9, 10] rfl hs3 (fun o_ L_ => ∃ r : DiskR, o_ = Obj.cells (List.toArray [i64 r.Room, i64 r.Fuse, i64 r.Next, .slice r.Files.A r.Files.n r.Files.c, .slice r.Kept.A r.Kept.n r.Kept.c, .slice r.Turns.A r.Turns.n r.Turns.c]) 34 (0, 0) ∧ ownDiskR r L_ ∧ r.dat = doneD p.dat.Disk (⟨op_Kind, op_Name, op_To, op_Data⟩ : DiskOpD)) ?_ ?_
 ·refine WC.rG 10 hs3 hs3 hs3 (fun _ hs7 => ?_)
  refine WG.rn [0, 1, 2, 3, 4] hs7 [1, 0] rfl rfl (WG.all [5, 9] (by kernel_rfl) rfl (WGs.cons (i := 5) rfl rfl ?_ (WGs.cons (i := 9) rfl rfl ?_ WGs.nil)))
  ·refine WL.cl Tryz.call86 rfl (k131_ p.Disk ⟨_, _, _, ⟨_, _, _, _⟩⟩ _ (ownDepotR.ok (B := 549755813888) o_p (hs7.ow L_p) (by assumption)).Disk ⟨(by first | assumption | omega), (by first | assumption | omega), (SlF.st f_op_Data hs7 s_op_Data), (by first | assumption | omega | simp), (by first | assumption | omega | (simp; omega) | simp)⟩ ?_) ?_
   · first | assumption | rfl | omega | exact hb
   rintro _ whs8 ⟨r9, L1_10, rfl, hs8, ho11, hd12⟩
   replace hs8 := hs7.callF hs8
   refine ⟨_, rfl, ?_⟩
   replace hs8 := St.back [_, _] hs8
   refine WL.nil ⟨(hs8.rm L1_10), WG.rn [6, 7, 8] (hs8.rm L1_10) [] rfl rfl (WG.o1 9 rfl rfl (WL.al hs8 Tryz.zeroValue34 rfl rfl (fun b13 _ hs14 => WL.nil ⟨(hs14.d1.rm L1_10), WG.oK rfl (WL.st tbk hs14 0 rfl rfl (fun _ hs15 => WL.nil ⟨(hs15.d1.rm L1_10), ?_⟩))⟩)))⟩
   refine WH.rn [11] (hs15.d1.rm L1_10) [] rfl rfl (WH.dn (⟨rfl, b13, _, _, (((((hs15.fr L_p).fb b_p).fb b2).fr L1_10).fb b13), ⟨r9, rfl, ho11, by exact hd12⟩, ⟨rfl, by rfl, sbF rfl⟩⟩))
  refine WL.al hs7 Tryz.zeroValue34 rfl rfl (fun b16 _ hs17 => WL.nil ⟨hs17.d1, WG.o1 5 rfl rfl ?_⟩)
  refine WL.cl Tryz.call86 rfl (k131_ p.Disk ⟨_, _, _, ⟨_, _, _, _⟩⟩ _ (ownDepotR.ok (B := 549755813888) o_p (hs17.ow L_p) (by assumption)).Disk ⟨(by first | assumption | omega), (by first | assumption | omega), (SlF.st f_op_Data hs17 s_op_Data), (by first | assumption | omega | simp), (by first | assumption | omega | (simp; omega) | simp)⟩ ?_) ?_
  · first | assumption | rfl | omega | exact hb
  rintro _ whs18 ⟨r19, L1_20, rfl, hs18, ho21, hd22⟩
  replace hs18 := hs17.callF hs18
  refine ⟨_, rfl, ?_⟩
  replace hs18 := St.back [_, _, _] hs18
  refine WL.nil ⟨(hs18.d1.rm L1_20), WG.rn [6, 7, 8] (hs18.d1.rm L1_20) [] rfl rfl (WG.oK rfl (WL.st tbk hs18 0 rfl rfl (fun _ hs23 => WL.nil ⟨(hs23.d1.rm L1_20), WH.rn [11] (hs23.d1.rm L1_20) [] rfl rfl (WH.dn (⟨rfl, b16, _, _, (((((hs23.fr L_p).fb b_p).fb b2).fr L1_20).fb b16), ⟨r19, rfl, ho21, by exact hd22⟩, ⟨rfl, by rfl, sbF rfl⟩⟩))⟩)))⟩
 rintro b24 _ L25 _ ⟨r26, rfl, ho27, hd28⟩ hs29 _ hf30
 have hs31 := (((hs29.fb b_p).fb b2).fb b24)
 have hdo := hd28
 refine hK6 _ _ (WC.sub _ hf30 (WC.sr (WL.r 4 hs31 [0] rfl (WL.st tbk hs31 2 rfl rfl (fun _ hs32 => WL.nil (WC.r1 hs32 [] rfl (WC.ret ?_)))))))
 refine retV1 rfl (resV.tmp rfl) ?_
 obtain ⟨L33, L34, L35, hs39, ho36, ho37, ho38⟩ := ownDiskR.op hs32 ho27
 have hs40 := (((hs39.fb b_p).fb b2).fb b24)
 obtain ⟨L42, hs41, ho43⟩ := ownDepotR.fl hs40 ho36 ho37 ho38
 have hs44 := (((hs41.fb b_p).fb b2).fb b24)
 refine ownDepotR.retp (by unfold stepC; rw [if_pos hc]; first | done | rfl) ((hs44.fr L42).fb b_p) ho43 ?_
 · exact DepotD.ext' (by unfold stepD; rw [if_pos hc]; exact hdo) rfl rfl rfl rfl
theorem k135_ (b_p : Nat) (p : DepotR) (L_p : Hp) (code : Int) (name : ByteArray) (w : World) (hb_p : w.heap[b_p]? = some (Obj.cells (List.toArray [i64 p.Disk.Room, i64 p.Disk.Fuse, i64 p.Disk.Next, .slice p.Disk.Files.A p.Disk.Files.n p.Disk.Files.c, .slice p.Disk.Kept.A p.Disk.Kept.n p.Disk.Kept.c, .slice p.Disk.Turns.A p.Disk.Turns.n p.Disk.Turns.c, i64 p.Gen, i64 p.Seq, i64 p.Size, .bool p.Stuck]) 36 (0, 0))) (o_p : ownDepotR p L_p) (h_p : Hh w L_p) (hd_ : (b_p :: L_p.map (·.1)).Nodup) (hb : totDisk p.dat.Disk ≤ 1048576) (hk : diskOk p.dat.Disk = true) (hnm : name.size ≤ 1048576) :
    Calls Tryz.prog 67 #[.pointer (some ⟨b_p, 0, none⟩), i64 code, .string name] w fun e w' => ∃ r L1, e = .returned (.int .i64 (gone ((p.dat.Disk, code) : SD) name).2) ∧ St w (b_p :: L_p.map (·.1)) ([(b_p, Obj.cells (List.toArray [i64 r.Disk.Room, i64 r.Disk.Fuse, i64 r.Disk.Next, .slice r.Disk.Files.A r.Disk.Files.n r.Disk.Files.c, .slice r.Disk.Kept.A r.Disk.Kept.n r.Disk.Kept.c, .slice r.Disk.Turns.A r.Disk.Turns.n r.Disk.Turns.c, i64 r.Gen, i64 r.Seq, i64 r.Size, .bool r.Stuck]) 36 (0, 0))] ++ L1) w' ∧ ownDepotR r L1 ∧ r.dat = setP p.dat (gone ((p.dat.Disk, code) : SD) name) := by
 have hsm := dep_sm hb
 have hsmD : smDisk 1048576 p.dat.Disk := totDisk_sm hb
 refine enter 30 Tryz.func67 rfl Tryz.ntmps67 rfl rfl ?_
 have hs1 := St.takeP w b_p _ L_p hb_p h_p hd_
 refine WC.r1 hs1 [] rfl (WC.sr (WL.r 5 hs1 [0] rfl (WL.cl Tryz.call54 rfl (k129_ p.Disk _ _ (ownDepotR.ok (B := 549755813888) o_p (hs1.ow L_p) (by assumption)).Disk ?_) ?_)))
 · first | assumption | rfl | omega | exact hb | exact hsm | exact hsmD | exact Nat.zero_le _ | decide
 rintro _ whs2 ⟨A3, c4, L1_5, rfl, hs2, ho6⟩
 replace hs2 := hs1.callF hs2
 refine ⟨_, rfl, ?_⟩
 replace hs2 := St.back [_] hs2
 refine WL.r 5 hs2 [] rfl (WL.nil (WC.seq (fun K7 hK7 => WC.sr (WL.r 3 hs2 [] rfl (WL.pO tbk 2 Acts.nil hs2 [] rfl rfl rfl rfl (fun g_ => trivial) (WL.nil ?_))))))
 refine WC.cq rfl (fun h8 qh8 => ?_) (fun h8 qh8 => ?_)
 ·have hgo : gone ((p.dat.Disk, code) : SD) name = ((p.dat.Disk, code) : SD) := by
    by_cases h0 : code = 0
    · unfold gone
      rw [if_neg]
      intro hx_
      have h9 := h8
      rw [show readOk p.Disk.dat name = true from by unfold readOk; rw [show diskOk p.Disk.dat = true from hk]; exact hx_, h0] at h9
      simp at h9
    · exact gone_ne h0
  refine WC.r1 hs2 [] rfl (WC.ret (tkR ?_))
  clear hK7
  refine retV1 rfl (resV.tmp rfl) (⟨p, _, (by rw [hgo]), St.keepP (L1 := L_p) ((hs2.fr L_p).fb b_p), o_p, ?_⟩)
  · rw [hgo]; rfl
 have hro : code = 0 ∧ readOk p.Disk.dat name = true := by have h9 := h8; revert h9; cases readOk p.Disk.dat name <;> simp
 have hgo : gone ((p.dat.Disk, code) : SD) name = stp ((p.dat.Disk, code) : SD) (opR name) := by
   unfold gone
   rw [if_pos]
   have h9 := hro.2
   unfold readOk at h9
   rw [show diskOk p.Disk.dat = true from hk] at h9
   exact h9
 refine WC.skip (hK7 _ _ (WC.sr (WL.r 3 hs2 [] rfl ?_)))
 refine WL.val rfl rfl rfl (Run.build rfl rfl rfl rfl (built_75_0_1 _ _)) ?_
 have hF9 := ((hs2.fr L_p).fb b_p)
 refine WL.cl Tryz.call40 rfl (k134_ _ p _ _ _ _ _ _ _ _ _ _ (St.headP hF9) o_p (St.ownP hF9) (SlF.nil _ _) (by first | assumption | omega | simp) (St.nodupP hF9) (fun h_ => absurd h_ (by omega)) ?_ ?_ ?_ ?_ ?_) ?_
 iterate 5 first | assumption | rfl | omega | exact hb | exact hsm | exact hsmD | exact Nat.zero_le _ | decide
 rintro _ whs10 ⟨r11, L12, rfl, hs10, ho13, hd14⟩
 replace hs10 := St.lendP hF9 hs10
 refine ⟨_, rfl, WL.r 1 hs10 [] rfl (WL.nil (WC.ret (retV1 rfl (resV.tmp rfl) ?_)))⟩
 refine ⟨r11, _, (by rw [hgo]; first | done | rfl), St.keepP (L1 := L12) ((hs10.fr L12).fb b_p), ho13, ?_⟩
 · rw [hgo]; exact hd14
theorem k136_ (b_p : Nat) (p : DepotR) (L_p : Hp) (code : Int) (op_Kind : Int) (op_Name : ByteArray) (op_To : ByteArray) (A_op_Data : Option Addr) (n_op_Data c_op_Data : Nat) (op_Data : List UInt8) (w : World) (hb_p : w.heap[b_p]? = some (Obj.cells (List.toArray [i64 p.Disk.Room, i64 p.Disk.Fuse, i64 p.Disk.Next, .slice p.Disk.Files.A p.Disk.Files.n p.Disk.Files.c, .slice p.Disk.Kept.A p.Disk.Kept.n p.Disk.Kept.c, .slice p.Disk.Turns.A p.Disk.Turns.n p.Disk.Turns.c, i64 p.Gen, i64 p.Seq, i64 p.Size, .bool p.Stuck]) 36 (0, 0))) (o_p : ownDepotR p L_p) (h_p : Hh w L_p) (f_op_Data : SlF encB w A_op_Data n_op_Data op_Data) (hcd : n_op_Data ≤ c_op_Data) (hd_ : (b_p :: L_p.map (·.1)).Nodup) (s_op_Data : 0 < n_op_Data → (adr A_op_Data).block ∉ (b_p :: L_p.map (·.1))) (hb : totDisk p.dat.Disk ≤ 1048576) (hsm : smDepot 549755813888 p.dat) (hz1 : op_Name.size ≤ 549755813888) (hz2 : op_To.size ≤ 549755813888) (hz3 : n_op_Data ≤ 549755813888) :
    Calls Tryz.prog 40 #[.pointer (some ⟨b_p, 0, none⟩), i64 code, .agg #[i64 op_Kind, .string op_Name, .string op_To, .slice A_op_Data n_op_Data c_op_Data]] w fun e w' => ∃ cc r L1, e = .returned (.int .i64 cc) ∧ St w (b_p :: L_p.map (·.1)) ([(b_p, Obj.cells (List.toArray [i64 r.Disk.Room, i64 r.Disk.Fuse, i64 r.Disk.Next, .slice r.Disk.Files.A r.Disk.Files.n r.Disk.Files.c, .slice r.Disk.Kept.A r.Disk.Kept.n r.Disk.Kept.c, .slice r.Disk.Turns.A r.Disk.Turns.n r.Disk.Turns.c, i64 r.Gen, i64 r.Seq, i64 r.Size, .bool r.Stuck]) 36 (0, 0))] ++ L1) w' ∧ ownDepotR r L1 ∧ r.dat = setP p.dat (stp ((p.dat.Disk, code) : SD) (⟨op_Kind, op_Name, op_To, op_Data⟩ : DiskOpD)) ∧ cc = (stp ((p.dat.Disk, code) : SD) (⟨op_Kind, op_Name, op_To, op_Data⟩ : DiskOpD)).2 :=
  (k134_ b_p p L_p code op_Kind op_Name op_To A_op_Data n_op_Data c_op_Data op_Data w hb_p o_p h_p f_op_Data hcd hd_ s_op_Data hb hsm hz1 hz2 hz3).mono (by rintro e w' ⟨r, L1, he, h1, h2, h3⟩; exact ⟨_, r, L1, he, h1, h2, h3, rfl⟩)
theorem k137_ (b_p : Nat) (p : DepotR) (L_p : Hp) (code : Int) (name : ByteArray) (w : World) (hb_p : w.heap[b_p]? = some (Obj.cells (List.toArray [i64 p.Disk.Room, i64 p.Disk.Fuse, i64 p.Disk.Next, .slice p.Disk.Files.A p.Disk.Files.n p.Disk.Files.c, .slice p.Disk.Kept.A p.Disk.Kept.n p.Disk.Kept.c, .slice p.Disk.Turns.A p.Disk.Turns.n p.Disk.Turns.c, i64 p.Gen, i64 p.Seq, i64 p.Size, .bool p.Stuck]) 36 (0, 0))) (o_p : ownDepotR p L_p) (h_p : Hh w L_p) (hd_ : (b_p :: L_p.map (·.1)).Nodup) (hb : totDisk p.dat.Disk ≤ 1048576) (hk : diskOk p.dat.Disk = true) (hnm : name.size ≤ 1048576) :
    Calls Tryz.prog 67 #[.pointer (some ⟨b_p, 0, none⟩), i64 code, .string name] w fun e w' => ∃ cc r L1, e = .returned (.int .i64 cc) ∧ St w (b_p :: L_p.map (·.1)) ([(b_p, Obj.cells (List.toArray [i64 r.Disk.Room, i64 r.Disk.Fuse, i64 r.Disk.Next, .slice r.Disk.Files.A r.Disk.Files.n r.Disk.Files.c, .slice r.Disk.Kept.A r.Disk.Kept.n r.Disk.Kept.c, .slice r.Disk.Turns.A r.Disk.Turns.n r.Disk.Turns.c, i64 r.Gen, i64 r.Seq, i64 r.Size, .bool r.Stuck]) 36 (0, 0))] ++ L1) w' ∧ ownDepotR r L1 ∧ r.dat = setP p.dat (gone ((p.dat.Disk, code) : SD) name) ∧ cc = (gone ((p.dat.Disk, code) : SD) name).2 :=
  (k135_ b_p p L_p code name w hb_p o_p h_p hd_ hb hk hnm).mono (by rintro e w' ⟨r, L1, he, h1, h2, h3⟩; exact ⟨_, r, L1, he, h1, h2, h3, rfl⟩)
theorem built_75_0_1_3 (x0 : Int) (x1 : ByteArray) (x2 : Option Addr) (x3 : Nat) (x4 : Nat) : Tryz.prog.built 75 [(0, .int .i64 x0), (1, .string x1), (3, .slice x2 x3 x4)] = some (List.toArray [.int .i64 x0, .string x1, .string ⟨#[]⟩, .slice x2 x3 x4]) := by kernel_rfl
theorem built_75_0 (x0 : Int) : Tryz.prog.built 75 [(0, .int .i64 x0)] = some (List.toArray [.int .i64 x0, .string ⟨#[]⟩, .string ⟨#[]⟩, .slice none 0 0]) := by kernel_rfl
theorem built_75_0_1_2 (x0 : Int) (x1 : ByteArray) (x2 : ByteArray) : Tryz.prog.built 75 [(0, .int .i64 x0), (1, .string x1), (2, .string x2)] = some (List.toArray [.int .i64 x0, .string x1, .string x2, .slice none 0 0]) := by kernel_rfl
set_option maxHeartbeats 16000000 in
theorem k138_ (d : DiskR) (gen : Int) (seq : Int) (A_data : Option Addr) (n_data c_data : Nat) (data : List UInt8) (w : World) (f_d : okDiskR 549755813888 w d) (f_data : SlF encB w A_data n_data data) (hb : totDisk d.dat ≤ 1048576) (hn : n_data ≤ 1048576) :
    Calls Tryz.prog 27 #[.agg #[i64 d.Room, i64 d.Fuse, i64 d.Next, .slice d.Files.A d.Files.n d.Files.c, .slice d.Kept.A d.Kept.n d.Kept.c, .slice d.Turns.A d.Turns.n d.Turns.c], i64 gen, i64 seq, .slice A_data n_data c_data] w fun e w' => ∃ r L1, e = .returned (.tuple #[.agg #[i64 r.Disk.Room, i64 r.Disk.Fuse, i64 r.Disk.Next, .slice r.Disk.Files.A r.Disk.Files.n r.Disk.Files.c, .slice r.Disk.Kept.A r.Disk.Kept.n r.Disk.Kept.c, .slice r.Disk.Turns.A r.Disk.Turns.n r.Disk.Turns.c, i64 r.Gen, i64 r.Seq, i64 r.Size, .bool r.Stuck], .int .i64 (beginC d.dat gen seq data)]) ∧ St w [] L1 w' ∧ ownDepotR r L1 ∧ r.dat = beginD d.dat gen seq data := by
 have nb_d_Files := f_d.Files_n
 have nl_d_Files := f_d.Files.sl.len
 have nb_d_Kept := f_d.Kept_n
 have nl_d_Kept := f_d.Kept.len
 have nb_d_Turns := f_d.Turns_n
 have nl_d_Turns := f_d.Turns.len
 have hsmD : smDisk 1048576 d.dat := totDisk_sm hb
 have hsmB : smDisk 549755813888 d.dat := totDisk_sm (by omega)
 have hl := f_data.len
 refine enter 155 Tryz.func27 rfl Tryz.ntmps27 rfl rfl ?_
 have hs1 := St.init w
 refine WC.sr (WL.bx hs1 rfl (fun b2 _ hs3 => WL.al hs3 Tryz.zeroValue36 rfl rfl (fun b4 _ hs5 => WL.r 1 hs5 [] rfl (WL.nil (WC.seq (fun K6 hK6 => WC.sr (WL.r 1 hs5 [1] rfl ?_)))))))
 refine WL.cl Tryz.call52 rfl (k121_ d _ (okDiskR.st0 f_d hs5) ?_) ?_
 · first | assumption | rfl | omega | decide | exact hb | exact hbr | exact hqr | exact hsmr | exact hsm9 | exact Nat.le_trans hlz (by decide) | exact Nat.le_trans hsz (by decide) | exact Nat.le_trans hz9 (by decide) | exact hz9 | exact Nat.zero_le _
 rintro _ whs7 ⟨rfl, hs7⟩
 replace hs7 := hs5.call0 hs7
 refine ⟨_, rfl, WL.r 2 hs7 [] rfl (WL.pO tbk 2 Acts.nil hs7 [] rfl rfl rfl rfl (fun g_ => trivial) (WL.r 1 hs7 [] rfl (WL.pO tbk 2 Acts.nil hs7 [] rfl rfl rfl rfl (fun g_ => trivial) (WL.nil (WC.cq rfl (fun h8 qh8 => ?_) (fun h8 qh8 => ?_))))))⟩
 ·have hk : beginOk d.dat gen seq data = false := by unfold beginOk; have h9 := h8; revert h9; cases diskOk d.dat <;> simp [within] <;> omega
  obtain ⟨hdn, hc⟩ := begin_bad hk
  refine WC.sr ?_
  refine WL.val rfl rfl rfl (Run.build rfl rfl rfl rfl (built_36)) (WL.st tbk hs7 0 rfl rfl (fun _ hs9 => WL.r 1 hs9 [] rfl (WL.nil (WC.ret (tkR ?_)))))
  clear hK6
  refine retV2 rfl (resV.cellA tbk hs9 0 rfl rfl rfl rfl) (resV.tmp rfl) ?_
  obtain ⟨L14, hs13, ho15⟩ := ownDepotR.fl hs9 (OwnN.nil _ _ _) (OwnF.nil _ _) (OwnF.nil _ _)
  have hs16 := ((hs13.fb b2).fb b4)
  refine ⟨⟨⟨0, 0, 0, ⟨none, 0, 0, []⟩, ⟨none, 0, 0, []⟩, ⟨none, 0, 0, []⟩⟩, 0, 0, 0, false⟩, _, (by rw [hc]; first | done | rfl | (rw [hP, ← hvf]; first | done | rfl) | (rw [hP]; done)), (St.keep1 (hs16.fr L14)), ?_, ?_⟩
  · exact (by exact ho15)
  · rw [hdn]; rfl
 have hw : diskOk d.dat = true ∧ within gen 0 999999999 = true := by have h9 := h8; revert h9; cases diskOk d.dat <;> simp [within] <;> omega
 obtain ⟨hok, hw⟩ := hw
 have hw2 := within_iff.1 hw
 refine WC.skip (hK6 _ _ (WC.sr (WL.r 4 hs7 [] rfl ?_)))
 refine WL.cl Tryz.call65 rfl (k107_ _ _ _ _ _ _ _ (SlF.st0 f_data hs7) ?_) ?_
 · first | assumption | rfl | omega | decide | exact hb | exact hbr | exact hqr | exact hsmr | exact hsm9 | exact Nat.le_trans hlz (by decide) | exact Nat.le_trans hsz (by decide) | exact Nat.le_trans hz9 (by decide) | exact hz9 | exact Nat.zero_le _
 rintro _ whs17 ⟨A18, c19, L1_20, rfl, hs17, ho21⟩
 replace hs17 := hs7.callF hs17
 refine ⟨_, rfl, ?_⟩
 replace hs17 := St.back [_, _] hs17
 refine WL.r 5 hs17 [] rfl (WL.nil (WC.seq (fun K22 hK22 => WC.r1 hs17 [] rfl ?_)))
 refine WC.cq rfl (fun h23 qh23 => ?_) (fun h23 qh23 => ?_)
 ·have hsn : snapOk (gen + 1) seq data = false := by have h9 := h23; simpa using h9
  have hk : beginOk d.dat gen seq data = false := by unfold beginOk; rw [hsn, Bool.and_false]
  obtain ⟨hdn, hc⟩ := begin_bad hk
  refine WC.sr ?_
  refine WL.val rfl rfl rfl (Run.build rfl rfl rfl rfl (built_36)) (WL.st tbk hs17 0 rfl rfl (fun _ hs24 => WL.r 1 hs24 [] rfl (WL.nil (WC.ret (tkR ?_)))))
  clear hK22
  refine retV2 rfl (resV.cellA tbk hs24 0 rfl rfl rfl rfl) (resV.tmp rfl) ?_
  obtain ⟨L29, hs28, ho30⟩ := ownDepotR.fl hs24 (OwnN.nil _ _ _) (OwnF.nil _ _) (OwnF.nil _ _)
  have hs31 := ((hs28.fb b2).fb b4)
  refine ⟨⟨⟨0, 0, 0, ⟨none, 0, 0, []⟩, ⟨none, 0, 0, []⟩, ⟨none, 0, 0, []⟩⟩, 0, 0, 0, false⟩, _, (by rw [hc]; first | done | rfl | (rw [hP, ← hvf]; first | done | rfl) | (rw [hP]; done)), (St.keep1 (hs31.fr L29)), ?_, ?_⟩
  · exact (by exact ho30)
  · rw [hdn]; rfl
 have hsn : snapOk (gen + 1) seq data = true := by have h9 := h23; simpa using h9
 have hk : beginOk d.dat gen seq data = true := by unfold beginOk; rw [hok, hw, hsn]; rfl
 obtain ⟨hdn, hc⟩ := begin_do hk
 obtain ⟨hgn, hg1, hg2, hg3⟩ := snapOk_P hsn
 have hsl : (snapOut (gen + 1) seq data).length ≤ 400000 := by rw [snapOut_y hsn]; have h9 := snapL_len hsn; omega
 have hlz := logName_size (gen + 1)
 have hsz := snapName_size (gen + 1)
 refine WC.skip (hK22 _ _ (WC.sr (WL.r 1 hs17 [1] rfl ?_)))
 refine WL.cl Tryz.call66 rfl (k124_ d _ (okDiskR.st0 f_d hs17) ?_) ?_
 · first | assumption | rfl | omega | decide | exact hb | exact hbr | exact hqr | exact hsmr | exact hsm9 | exact Nat.le_trans hlz (by decide) | exact Nat.le_trans hsz (by decide) | exact Nat.le_trans hz9 (by decide) | exact hz9 | exact Nat.zero_le _
 rintro _ whs32 ⟨r33, L1_34, rfl, hs32, ho35, hd36⟩
 replace hs32 := hs17.callF hs32
 refine ⟨_, rfl, ?_⟩
 replace hs32 := St.back [_, _] hs32
 have hcp := hd36
 have hcb : totDisk (DiskR.dat r33) ≤ 1048576 := by rw [hcp]; exact hb
 have hck : diskOk (DiskR.dat r33) = true := by rw [hcp]; exact hok
 have hcs := dep_sm (q := (⟨DiskR.dat r33, gen, seq, 0, false⟩ : DepotD)) hcb
 refine WL.r 2 hs32 [] rfl ?_
 refine WL.val rfl rfl rfl (Run.build rfl rfl rfl rfl (built_36_0_1_2 _ _ _ _ _ _ _ _)) (WL.bx hs32 rfl (fun b37 _ hs38 => WL.r 1 hs38 [] rfl (WL.nil (WC.sr ?_))))
 refine WL.val rfl rfl rfl (Run.build rfl rfl rfl rfl (built_75_0 _)) (WL.al hs38 Tryz.zeroValue75 rfl rfl (fun b39 _ hs40 => WL.st tbk hs40 0 rfl rfl (fun _ hs41 => WL.nil (WC.sr (WL.r 2 hs41 [0] rfl ?_)))))
 obtain ⟨L42, L43, L44, hs48, ho45, ho46, ho47⟩ := ownDiskR.op hs41 ho35
 have hs49 := ((((hs48.fb b2).fb b4).fb b37).fb b39)
 obtain ⟨L51, hs50, ho52⟩ := ownDepotR.fl hs49 ho45 ho46 ho47
 have hs53 := ((((hs50.fb b2).fb b4).fb b37).fb b39)
 have hF54 := ((hs53.fr L51).fb b37)
 refine WL.cl Tryz.call40 rfl (k136_ _ ⟨⟨r33.Room, r33.Fuse, r33.Next, SlD.ofN ho45, SlD.of ho46, SlD.of ho47⟩, gen, seq, 0, false⟩ _ _ _ _ _ _ _ _ _ _ (St.headP hF54) (by exact ho52) (St.ownP hF54) (SlF.nil _ _) (by first | assumption | omega | simp) (St.nodupP hF54) (fun h_ => absurd h_ (by omega)) ?_ ?_ ?_ ?_ ?_) ?_
 iterate 5 first | assumption | rfl | omega | decide | exact hcb | exact hcs | exact hck | exact hbr | exact hqr | exact hsmr | exact hsm9 | exact Nat.le_trans hlz (by decide) | exact Nat.le_trans hsz (by decide) | exact Nat.le_trans hz9 (by decide) | exact hz9 | exact Nat.zero_le _
 rintro _ whs55 ⟨cc60, r56, L57, rfl, hs55, ho58, hd59, hcc61⟩
 replace hs55 := St.lendP hF54 hs55
 refine ⟨_, rfl, ?_⟩
 have hs62 := ((((hs55.fb b2).fb b4).fb b39).fb b37)
 have hS1 : DepotR.dat r56 = setP (⟨d.dat, gen, seq, 0, false⟩ : DepotD) (stp ((d.dat, 0) : SD) opY) := hd59.trans ((congrArg (a₂ := setP (⟨d.dat, gen, seq, 0, false⟩ : DepotD) ((d.dat, 0) : SD)) (fun q => setP q (stp ((q.Disk, 0) : SD) opY)) (by exact (DepotD.ext' hcp rfl rfl rfl rfl))).trans (congrArg (a₁ := ((((d.dat, 0) : SD).1, 0) : SD)) (a₂ := ((d.dat, 0) : SD)) (fun s => setP (⟨d.dat, gen, seq, 0, false⟩ : DepotD) (stp s opY)) (Prod.ext rfl rfl)))
 have hv1 : cc60 = (stp ((d.dat, 0) : SD) opY).2 := hcc61.trans (congrArg (a₁ := (((DiskR.dat r33), 0) : SD)) (a₂ := ((d.dat, 0) : SD)) (fun s => (stp s opY).2) (Prod.ext hcp rfl))
 have hk1 : diskOk (stp ((d.dat, 0) : SD) opY).1 = true := stp_ok hok opY_ok
 have hb1 : totDisk (DepotR.dat r56).Disk ≤ 1048576 := by rw [hS1]; exact ok_tot hk1
 have hq1 : diskOk (DepotR.dat r56).Disk = true := by rw [hS1]; exact hk1
 have hs1_ := dep_sm hb1
 refine WL.r 1 hs62 [] rfl (WL.nil (WC.sr (WL.r 2 hs62 [] rfl ?_)))
 have hF63 := ((hs62.fr L57).fb b37)
 refine WL.cl Tryz.call67 rfl (k137_ _ r56 _ _ _ _ (St.headP hF63) ho58 (St.ownP hF63) (St.nodupP hF63) ?_ ?_ ?_) ?_
 iterate 3 first | assumption | rfl | omega | decide | exact hb1 | exact hq1 | exact hs1_ | exact hbr | exact hqr | exact hsmr | exact hsm9 | exact Nat.le_trans hlz (by decide) | exact Nat.le_trans hsz (by decide) | exact Nat.le_trans hz9 (by decide) | exact hz9 | exact Nat.zero_le _
 rintro _ whs64 ⟨cc69, r65, L66, rfl, hs64, ho67, hd68, hcc70⟩
 replace hs64 := St.lendP hF63 hs64
 refine ⟨_, rfl, ?_⟩
 have hs71 := ((((hs64.fb b2).fb b4).fb b39).fb b37)
 have hS2 : DepotR.dat r65 = setP (⟨d.dat, gen, seq, 0, false⟩ : DepotD) (gone (stp ((d.dat, 0) : SD) opY) tempP) := hd68.trans ((congrArg (a₂ := setP (⟨d.dat, gen, seq, 0, false⟩ : DepotD) (stp ((d.dat, 0) : SD) opY)) (fun q => setP q (gone ((q.Disk, cc60) : SD) tempP)) (by exact hS1)).trans (congrArg (a₁ := (((stp ((d.dat, 0) : SD) opY).1, cc60) : SD)) (a₂ := (stp ((d.dat, 0) : SD) opY)) (fun s => setP (⟨d.dat, gen, seq, 0, false⟩ : DepotD) (gone s tempP)) (Prod.ext rfl hv1)))
 have hv2 : cc69 = (gone (stp ((d.dat, 0) : SD) opY) tempP).2 := hcc70.trans (congrArg (a₁ := (((DepotR.dat r56).Disk, cc60) : SD)) (a₂ := (stp ((d.dat, 0) : SD) opY)) (fun s => (gone s tempP).2) (Prod.ext (congrArg DepotD.Disk hS1) hv1))
 have hk2 : diskOk (gone (stp ((d.dat, 0) : SD) opY) tempP).1 = true := gone_ok hk1 temp_ok
 have hb2 : totDisk (DepotR.dat r65).Disk ≤ 1048576 := by rw [hS2]; exact ok_tot hk2
 have hq2 : diskOk (DepotR.dat r65).Disk = true := by rw [hS2]; exact hk2
 have hs2_ := dep_sm hb2
 refine WL.r 1 hs71 [] rfl (WL.nil (WC.sr (WL.r 4 hs71 [] rfl (WL.cl Tryz.call41 rfl (k18_ _ _) ?_))))
 rintro _ whs72 ⟨rfl, hs72⟩
 replace hs72 := hs71.call0 hs72
 refine ⟨_, rfl, ?_⟩
 have hF73 := ((hs72.fr L66).fb b37)
 refine WL.cl Tryz.call67 rfl (k137_ _ r65 _ _ _ _ (St.headP hF73) ho67 (St.ownP hF73) (St.nodupP hF73) ?_ ?_ ?_) ?_
 iterate 3 first | assumption | rfl | omega | decide | exact hb2 | exact hq2 | exact hs2_ | exact hbr | exact hqr | exact hsmr | exact hsm9 | exact Nat.le_trans hlz (by decide) | exact Nat.le_trans hsz (by decide) | exact Nat.le_trans hz9 (by decide) | exact hz9 | exact Nat.zero_le _
 rintro _ whs74 ⟨cc79, r75, L76, rfl, hs74, ho77, hd78, hcc80⟩
 replace hs74 := St.lendP hF73 hs74
 refine ⟨_, rfl, ?_⟩
 have hs81 := ((((hs74.fb b2).fb b4).fb b39).fb b37)
 have hS3 : DepotR.dat r75 = setP (⟨d.dat, gen, seq, 0, false⟩ : DepotD) (gone (gone (stp ((d.dat, 0) : SD) opY) tempP) (logName (gen + 1))) := hd78.trans ((congrArg (a₂ := setP (⟨d.dat, gen, seq, 0, false⟩ : DepotD) (gone (stp ((d.dat, 0) : SD) opY) tempP)) (fun q => setP q (gone ((q.Disk, cc69) : SD) (logName (gen + 1)))) (by exact hS2)).trans (congrArg (a₁ := (((gone (stp ((d.dat, 0) : SD) opY) tempP).1, cc69) : SD)) (a₂ := (gone (stp ((d.dat, 0) : SD) opY) tempP)) (fun s => setP (⟨d.dat, gen, seq, 0, false⟩ : DepotD) (gone s (logName (gen + 1)))) (Prod.ext rfl hv2)))
 have hv3 : cc79 = (gone (gone (stp ((d.dat, 0) : SD) opY) tempP) (logName (gen + 1))).2 := hcc80.trans (congrArg (a₁ := (((DepotR.dat r65).Disk, cc69) : SD)) (a₂ := (gone (stp ((d.dat, 0) : SD) opY) tempP)) (fun s => (gone s (logName (gen + 1))).2) (Prod.ext (congrArg DepotD.Disk hS2) hv2))
 have hk3 : diskOk (gone (gone (stp ((d.dat, 0) : SD) opY) tempP) (logName (gen + 1))).1 = true := gone_ok hk2 (log_ok hgn)
 have hb3 : totDisk (DepotR.dat r75).Disk ≤ 1048576 := by rw [hS3]; exact ok_tot hk3
 have hq3 : diskOk (DepotR.dat r75).Disk = true := by rw [hS3]; exact hk3
 have hs3_ := dep_sm hb3
 refine WL.r 1 hs81 [] rfl (WL.nil (WC.sr (WL.r 3 hs81 [1] rfl ?_)))
 have hF82 := ((hs81.fr L76).fb b37)
 refine WL.cl Tryz.call40 rfl (k136_ _ r75 _ _ _ _ _ _ _ _ _ _ (St.headP hF82) ho77 (St.ownP hF82) (SlF.nil _ _) (by first | assumption | omega | simp) (St.nodupP hF82) (fun h_ => absurd h_ (by omega)) ?_ ?_ ?_ ?_ ?_) ?_
 iterate 5 first | assumption | rfl | omega | decide | exact hb3 | exact hq3 | exact hs3_ | exact hbr | exact hqr | exact hsmr | exact hsm9 | exact Nat.le_trans hlz (by decide) | exact Nat.le_trans hsz (by decide) | exact Nat.le_trans hz9 (by decide) | exact hz9 | exact Nat.zero_le _
 rintro _ whs83 ⟨cc88, r84, L85, rfl, hs83, ho86, hd87, hcc89⟩
 replace hs83 := St.lendP hF82 hs83
 refine ⟨_, rfl, ?_⟩
 have hs90 := ((((hs83.fb b2).fb b4).fb b39).fb b37)
 have hS4 : DepotR.dat r84 = setP (⟨d.dat, gen, seq, 0, false⟩ : DepotD) (stp (gone (gone (stp ((d.dat, 0) : SD) opY) tempP) (logName (gen + 1))) opY) := hd87.trans ((congrArg (a₂ := setP (⟨d.dat, gen, seq, 0, false⟩ : DepotD) (gone (gone (stp ((d.dat, 0) : SD) opY) tempP) (logName (gen + 1)))) (fun q => setP q (stp ((q.Disk, cc79) : SD) opY)) (by exact hS3)).trans (congrArg (a₁ := (((gone (gone (stp ((d.dat, 0) : SD) opY) tempP) (logName (gen + 1))).1, cc79) : SD)) (a₂ := (gone (gone (stp ((d.dat, 0) : SD) opY) tempP) (logName (gen + 1)))) (fun s => setP (⟨d.dat, gen, seq, 0, false⟩ : DepotD) (stp s opY)) (Prod.ext rfl hv3)))
 have hv4 : cc88 = (stp (gone (gone (stp ((d.dat, 0) : SD) opY) tempP) (logName (gen + 1))) opY).2 := hcc89.trans (congrArg (a₁ := (((DepotR.dat r75).Disk, cc79) : SD)) (a₂ := (gone (gone (stp ((d.dat, 0) : SD) opY) tempP) (logName (gen + 1)))) (fun s => (stp s opY).2) (Prod.ext (congrArg DepotD.Disk hS3) hv3))
 have hk4 : diskOk (stp (gone (gone (stp ((d.dat, 0) : SD) opY) tempP) (logName (gen + 1))) opY).1 = true := stp_ok hk3 opY_ok
 have hb4 : totDisk (DepotR.dat r84).Disk ≤ 1048576 := by rw [hS4]; exact ok_tot hk4
 have hq4 : diskOk (DepotR.dat r84).Disk = true := by rw [hS4]; exact hk4
 have hs4_ := dep_sm hb4
 refine WL.r 1 hs90 [] rfl (WL.nil (WC.sr (WL.r 2 hs90 [] rfl ?_)))
 refine WL.val rfl rfl rfl (Run.build rfl rfl rfl rfl (built_75_0_1 _ _)) ?_
 have hF91 := ((hs90.fr L85).fb b37)
 refine WL.cl Tryz.call40 rfl (k136_ _ r84 _ _ _ _ _ _ _ _ _ _ (St.headP hF91) ho86 (St.ownP hF91) (SlF.nil _ _) (by first | assumption | omega | simp) (St.nodupP hF91) (fun h_ => absurd h_ (by omega)) ?_ ?_ ?_ ?_ ?_) ?_
 iterate 5 first | assumption | rfl | omega | decide | exact hb4 | exact hq4 | exact hs4_ | exact hbr | exact hqr | exact hsmr | exact hsm9 | exact Nat.le_trans hlz (by decide) | exact Nat.le_trans hsz (by decide) | exact Nat.le_trans hz9 (by decide) | exact hz9 | exact Nat.zero_le _
 rintro _ whs92 ⟨cc97, r93, L94, rfl, hs92, ho95, hd96, hcc98⟩
 replace hs92 := St.lendP hF91 hs92
 refine ⟨_, rfl, ?_⟩
 have hs99 := ((((hs92.fb b2).fb b4).fb b39).fb b37)
 have hS5 : DepotR.dat r93 = setP (⟨d.dat, gen, seq, 0, false⟩ : DepotD) (stp (stp (gone (gone (stp ((d.dat, 0) : SD) opY) tempP) (logName (gen + 1))) opY) (opC tempP)) := hd96.trans ((congrArg (a₂ := setP (⟨d.dat, gen, seq, 0, false⟩ : DepotD) (stp (gone (gone (stp ((d.dat, 0) : SD) opY) tempP) (logName (gen + 1))) opY)) (fun q => setP q (stp ((q.Disk, cc88) : SD) (opC tempP))) (by exact hS4)).trans (congrArg (a₁ := (((stp (gone (gone (stp ((d.dat, 0) : SD) opY) tempP) (logName (gen + 1))) opY).1, cc88) : SD)) (a₂ := (stp (gone (gone (stp ((d.dat, 0) : SD) opY) tempP) (logName (gen + 1))) opY)) (fun s => setP (⟨d.dat, gen, seq, 0, false⟩ : DepotD) (stp s (opC tempP))) (Prod.ext rfl hv4)))
 have hv5 : cc97 = (stp (stp (gone (gone (stp ((d.dat, 0) : SD) opY) tempP) (logName (gen + 1))) opY) (opC tempP)).2 := hcc98.trans (congrArg (a₁ := (((DepotR.dat r84).Disk, cc88) : SD)) (a₂ := (stp (gone (gone (stp ((d.dat, 0) : SD) opY) tempP) (logName (gen + 1))) opY)) (fun s => (stp s (opC tempP)).2) (Prod.ext (congrArg DepotD.Disk hS4) hv4))
 have hk5 : diskOk (stp (stp (gone (gone (stp ((d.dat, 0) : SD) opY) tempP) (logName (gen + 1))) opY) (opC tempP)).1 = true := stp_ok hk4 (opC_ok temp_ok)
 have hb5 : totDisk (DepotR.dat r93).Disk ≤ 1048576 := by rw [hS5]; exact ok_tot hk5
 have hq5 : diskOk (DepotR.dat r93).Disk = true := by rw [hS5]; exact hk5
 have hs5_ := dep_sm hb5
 refine WL.r 1 hs99 [] rfl (WL.nil (WC.sr (WL.r 3 hs99 [] rfl ?_)))
 refine WL.val rfl rfl rfl (Run.build rfl rfl rfl rfl (built_75_0_1_3 _ _ _ _ _)) ?_
 have hF100 := ((hs99.fr L94).fb b37)
 refine WL.cl Tryz.call40 rfl (k136_ _ r93 _ _ _ _ _ _ _ _ _ _ (St.headP hF100) ho95 (St.ownP hF100) (SlF.ofOwn ho21 (hs99.ow L1_20)) (OwnF.cap ho21) (St.nodupP hF100) (OwnF.sep (L1 := (_, _) :: _) hF100 (fun p_ hp_ => (List.mem_append_right [_, _, _] (List.mem_append_left _ hp_))) ho21) ?_ ?_ ?_ ?_ ?_) ?_
 iterate 5 first | assumption | rfl | omega | decide | exact hb5 | exact hq5 | exact hs5_ | exact hbr | exact hqr | exact hsmr | exact hsm9 | exact Nat.le_trans hlz (by decide) | exact Nat.le_trans hsz (by decide) | exact Nat.le_trans hz9 (by decide) | exact hz9 | exact Nat.zero_le _
 rintro _ whs101 ⟨cc106, r102, L103, rfl, hs101, ho104, hd105, hcc107⟩
 replace hs101 := St.lendP hF100 hs101
 refine ⟨_, rfl, ?_⟩
 have hs108 := ((((hs101.fb b2).fb b4).fb b39).fb b37)
 have hS6 : DepotR.dat r102 = setP (⟨d.dat, gen, seq, 0, false⟩ : DepotD) (stp (stp (stp (gone (gone (stp ((d.dat, 0) : SD) opY) tempP) (logName (gen + 1))) opY) (opC tempP)) (opA tempP (snapOut (gen + 1) seq data))) := hd105.trans ((congrArg (a₂ := setP (⟨d.dat, gen, seq, 0, false⟩ : DepotD) (stp (stp (gone (gone (stp ((d.dat, 0) : SD) opY) tempP) (logName (gen + 1))) opY) (opC tempP))) (fun q => setP q (stp ((q.Disk, cc97) : SD) (opA tempP (snapOut (gen + 1) seq data)))) (by exact hS5)).trans (congrArg (a₁ := (((stp (stp (gone (gone (stp ((d.dat, 0) : SD) opY) tempP) (logName (gen + 1))) opY) (opC tempP)).1, cc97) : SD)) (a₂ := (stp (stp (gone (gone (stp ((d.dat, 0) : SD) opY) tempP) (logName (gen + 1))) opY) (opC tempP))) (fun s => setP (⟨d.dat, gen, seq, 0, false⟩ : DepotD) (stp s (opA tempP (snapOut (gen + 1) seq data)))) (Prod.ext rfl hv5)))
 have hv6 : cc106 = (stp (stp (stp (gone (gone (stp ((d.dat, 0) : SD) opY) tempP) (logName (gen + 1))) opY) (opC tempP)) (opA tempP (snapOut (gen + 1) seq data))).2 := hcc107.trans (congrArg (a₁ := (((DepotR.dat r93).Disk, cc97) : SD)) (a₂ := (stp (stp (gone (gone (stp ((d.dat, 0) : SD) opY) tempP) (logName (gen + 1))) opY) (opC tempP))) (fun s => (stp s (opA tempP (snapOut (gen + 1) seq data))).2) (Prod.ext (congrArg DepotD.Disk hS5) hv5))
 have hk6 : diskOk (stp (stp (stp (gone (gone (stp ((d.dat, 0) : SD) opY) tempP) (logName (gen + 1))) opY) (opC tempP)) (opA tempP (snapOut (gen + 1) seq data))).1 = true := stp_ok hk5 (opA_ok temp_ok hsl)
 have hb6 : totDisk (DepotR.dat r102).Disk ≤ 1048576 := by rw [hS6]; exact ok_tot hk6
 have hq6 : diskOk (DepotR.dat r102).Disk = true := by rw [hS6]; exact hk6
 have hs6_ := dep_sm hb6
 refine WL.r 1 hs108 [] rfl (WL.nil (WC.seq (fun K109 hK109 => WC.r1 hs108 [] rfl ?_)))
 refine WC.cq rfl (fun h110 qh110 => ?_) (fun h110 qh110 => ?_)
 ·have h5 : (fill1 (head1 d.dat (gen + 1)) (snapOut (gen + 1) seq data)).2 = 5 := hv6.symm.trans (of_decide_eq_true h110)
  refine WC.sr (WL.r 1 hs108 [] rfl ?_)
  refine WL.val rfl rfl rfl (Run.build rfl rfl rfl rfl (built_75_0_1 _ _)) ?_
  have hF111 := ((hs108.fr L103).fb b37)
  refine WL.cl Tryz.call40 rfl (k136_ _ r102 _ _ _ _ _ _ _ _ _ _ (St.headP hF111) ho104 (St.ownP hF111) (SlF.nil _ _) (by first | assumption | omega | simp) (St.nodupP hF111) (fun h_ => absurd h_ (by omega)) ?_ ?_ ?_ ?_ ?_) ?_
  iterate 5 first | assumption | rfl | omega | decide | exact hb6 | exact hq6 | exact hs6_ | exact hbr | exact hqr | exact hsmr | exact hsm9 | exact Nat.le_trans hlz (by decide) | exact Nat.le_trans hsz (by decide) | exact Nat.le_trans hz9 (by decide) | exact hz9 | exact Nat.zero_le _
  rintro _ whs112 ⟨cc117, r113, L114, rfl, hs112, ho115, hd116, hcc118⟩
  replace hs112 := St.lendP hF111 hs112
  refine ⟨_, rfl, ?_⟩
  have hs119 := ((((hs112.fb b2).fb b4).fb b39).fb b37)
  have hS7 : DepotR.dat r113 = setP (⟨d.dat, gen, seq, 0, false⟩ : DepotD) (stp (((stp (stp (stp (gone (gone (stp ((d.dat, 0) : SD) opY) tempP) (logName (gen + 1))) opY) (opC tempP)) (opA tempP (snapOut (gen + 1) seq data))).1, 0) : SD) (opR tempP)) := hd116.trans ((congrArg (a₂ := setP (⟨d.dat, gen, seq, 0, false⟩ : DepotD) (((stp (stp (stp (gone (gone (stp ((d.dat, 0) : SD) opY) tempP) (logName (gen + 1))) opY) (opC tempP)) (opA tempP (snapOut (gen + 1) seq data))).1, 0) : SD)) (fun q => setP q (stp ((q.Disk, 0) : SD) (opR tempP))) (by exact hS6)).trans (congrArg (a₁ := (((((stp (stp (stp (gone (gone (stp ((d.dat, 0) : SD) opY) tempP) (logName (gen + 1))) opY) (opC tempP)) (opA tempP (snapOut (gen + 1) seq data))).1, 0) : SD).1, 0) : SD)) (a₂ := (((stp (stp (stp (gone (gone (stp ((d.dat, 0) : SD) opY) tempP) (logName (gen + 1))) opY) (opC tempP)) (opA tempP (snapOut (gen + 1) seq data))).1, 0) : SD)) (fun s => setP (⟨d.dat, gen, seq, 0, false⟩ : DepotD) (stp s (opR tempP))) (Prod.ext rfl rfl)))
  have hv7 : cc117 = (stp (((stp (stp (stp (gone (gone (stp ((d.dat, 0) : SD) opY) tempP) (logName (gen + 1))) opY) (opC tempP)) (opA tempP (snapOut (gen + 1) seq data))).1, 0) : SD) (opR tempP)).2 := hcc118.trans (congrArg (a₁ := (((DepotR.dat r102).Disk, 0) : SD)) (a₂ := (((stp (stp (stp (gone (gone (stp ((d.dat, 0) : SD) opY) tempP) (logName (gen + 1))) opY) (opC tempP)) (opA tempP (snapOut (gen + 1) seq data))).1, 0) : SD)) (fun s => (stp s (opR tempP)).2) (Prod.ext (congrArg DepotD.Disk hS6) rfl))
  have hk7 : diskOk (stp (((stp (stp (stp (gone (gone (stp ((d.dat, 0) : SD) opY) tempP) (logName (gen + 1))) opY) (opC tempP)) (opA tempP (snapOut (gen + 1) seq data))).1, 0) : SD) (opR tempP)).1 = true := stp_ok hk6 (opR_ok temp_ok)
  have hb7 : totDisk (DepotR.dat r113).Disk ≤ 1048576 := by rw [hS7]; exact ok_tot hk7
  have hq7 : diskOk (DepotR.dat r113).Disk = true := by rw [hS7]; exact hk7
  have hs7_ := dep_sm hb7
  refine WL.r 1 hs119 [] rfl (WL.nil (WC.sr (WL.r 3 hs119 [1] rfl ?_)))
  have hF120 := ((hs119.fr L114).fb b37)
  refine WL.cl Tryz.call40 rfl (k136_ _ r113 _ _ _ _ _ _ _ _ _ _ (St.headP hF120) ho115 (St.ownP hF120) (SlF.nil _ _) (by first | assumption | omega | simp) (St.nodupP hF120) (fun h_ => absurd h_ (by omega)) ?_ ?_ ?_ ?_ ?_) ?_
  iterate 5 first | assumption | rfl | omega | decide | exact hb7 | exact hq7 | exact hs7_ | exact hbr | exact hqr | exact hsmr | exact hsm9 | exact Nat.le_trans hlz (by decide) | exact Nat.le_trans hsz (by decide) | exact Nat.le_trans hz9 (by decide) | exact hz9 | exact Nat.zero_le _
  rintro _ whs121 ⟨cc126, r122, L123, rfl, hs121, ho124, hd125, hcc127⟩
  replace hs121 := St.lendP hF120 hs121
  refine ⟨_, rfl, ?_⟩
  have hs128 := ((((hs121.fb b2).fb b4).fb b39).fb b37)
  have hS8 : DepotR.dat r122 = setP (⟨d.dat, gen, seq, 0, false⟩ : DepotD) (stp (stp (((stp (stp (stp (gone (gone (stp ((d.dat, 0) : SD) opY) tempP) (logName (gen + 1))) opY) (opC tempP)) (opA tempP (snapOut (gen + 1) seq data))).1, 0) : SD) (opR tempP)) opY) := hd125.trans ((congrArg (a₂ := setP (⟨d.dat, gen, seq, 0, false⟩ : DepotD) (stp (((stp (stp (stp (gone (gone (stp ((d.dat, 0) : SD) opY) tempP) (logName (gen + 1))) opY) (opC tempP)) (opA tempP (snapOut (gen + 1) seq data))).1, 0) : SD) (opR tempP))) (fun q => setP q (stp ((q.Disk, cc117) : SD) opY)) (by exact hS7)).trans (congrArg (a₁ := (((stp (((stp (stp (stp (gone (gone (stp ((d.dat, 0) : SD) opY) tempP) (logName (gen + 1))) opY) (opC tempP)) (opA tempP (snapOut (gen + 1) seq data))).1, 0) : SD) (opR tempP)).1, cc117) : SD)) (a₂ := (stp (((stp (stp (stp (gone (gone (stp ((d.dat, 0) : SD) opY) tempP) (logName (gen + 1))) opY) (opC tempP)) (opA tempP (snapOut (gen + 1) seq data))).1, 0) : SD) (opR tempP))) (fun s => setP (⟨d.dat, gen, seq, 0, false⟩ : DepotD) (stp s opY)) (Prod.ext rfl hv7)))
  have hv8 : cc126 = (stp (stp (((stp (stp (stp (gone (gone (stp ((d.dat, 0) : SD) opY) tempP) (logName (gen + 1))) opY) (opC tempP)) (opA tempP (snapOut (gen + 1) seq data))).1, 0) : SD) (opR tempP)) opY).2 := hcc127.trans (congrArg (a₁ := (((DepotR.dat r113).Disk, cc117) : SD)) (a₂ := (stp (((stp (stp (stp (gone (gone (stp ((d.dat, 0) : SD) opY) tempP) (logName (gen + 1))) opY) (opC tempP)) (opA tempP (snapOut (gen + 1) seq data))).1, 0) : SD) (opR tempP))) (fun s => (stp s opY).2) (Prod.ext (congrArg DepotD.Disk hS7) hv7))
  have hk8 : diskOk (stp (stp (((stp (stp (stp (gone (gone (stp ((d.dat, 0) : SD) opY) tempP) (logName (gen + 1))) opY) (opC tempP)) (opA tempP (snapOut (gen + 1) seq data))).1, 0) : SD) (opR tempP)) opY).1 = true := stp_ok hk7 opY_ok
  have hb8 : totDisk (DepotR.dat r122).Disk ≤ 1048576 := by rw [hS8]; exact ok_tot hk8
  have hq8 : diskOk (DepotR.dat r122).Disk = true := by rw [hS8]; exact hk8
  have hs8_ := dep_sm hb8
  refine WL.r 1 hs128 [] rfl (WL.nil (WC.seq (fun K129 hK129 => WC.r1 hs128 [] rfl ?_)))
  refine WC.cq rfl (fun h130 qh130 => ?_) (fun h130 qh130 => ?_)
  ·have h0 : (stp (stp (((stp (stp (stp (gone (gone (stp ((d.dat, 0) : SD) opY) tempP) (logName (gen + 1))) opY) (opC tempP)) (opA tempP (snapOut (gen + 1) seq data))).1, 0) : SD) (opR tempP)) opY).2 = 0 := hv8.symm.trans (of_decide_eq_true h130)
   have hP : (beginP d.dat gen seq data) = ((stp (stp (((stp (stp (stp (gone (gone (stp ((d.dat, 0) : SD) opY) tempP) (logName (gen + 1))) opY) (opC tempP)) (opA tempP (snapOut (gen + 1) seq data))).1, 0) : SD) (opR tempP)) opY).1, 5) := by
     unfold beginP
     rw [← snapOut_y hsn]
     refine (begin_5 h5).trans ?_
     show ((stp (stp (((stp (stp (stp (gone (gone (stp ((d.dat, 0) : SD) opY) tempP) (logName (gen + 1))) opY) (opC tempP)) (opA tempP (snapOut (gen + 1) seq data))).1, 0) : SD) (opR tempP)) opY).1, if (stp (stp (((stp (stp (stp (gone (gone (stp ((d.dat, 0) : SD) opY) tempP) (logName (gen + 1))) opY) (opC tempP)) (opA tempP (snapOut (gen + 1) seq data))).1, 0) : SD) (opR tempP)) opY).2 = 0 then 5 else (stp (stp (((stp (stp (stp (gone (gone (stp ((d.dat, 0) : SD) opY) tempP) (logName (gen + 1))) opY) (opC tempP)) (opA tempP (snapOut (gen + 1) seq data))).1, 0) : SD) (opR tempP)) opY).2) = _
     rw [if_pos h0]
   have hfin : DepotR.dat r122 = setP (⟨d.dat, gen, seq, 0, false⟩ : DepotD) (((stp (stp (((stp (stp (stp (gone (gone (stp ((d.dat, 0) : SD) opY) tempP) (logName (gen + 1))) opY) (opC tempP)) (opA tempP (snapOut (gen + 1) seq data))).1, 0) : SD) (opR tempP)) opY).1, 5) : SD) := hS8
   have hvf := (rfl : (5 : Int) = 5)
   refine WC.region (WL.r 1 hs128 [] rfl (WL.nil (hK129 _ _ (WC.sr (WL.r 4 hs128 [0] rfl (WL.st tbk hs128 2 rfl rfl (fun _ hs131 => WL.r 1 hs131 [] rfl ?_)))))))
   refine WL.nil (WC.ret (tkR ?_))
   clear hK109
   refine retV2 rfl (resV.cellA tbk hs131 2 rfl rfl rfl rfl) (resV.tmp rfl) ?_
   refine ⟨r122, _, (by rw [hc]; first | done | rfl | (rw [hP, ← hvf]; first | done | rfl) | (rw [hP]; done)), (St.keep1 (hs131.fr L123)), ?_, ?_⟩
   · exact ho124
   · rw [hdn, hP]; have q1_ := congrArg DepotD.Disk hfin; have q2_ := congrArg DepotD.Gen hfin; have q3_ := congrArg DepotD.Seq hfin; have q4_ := congrArg DepotD.Size hfin; have q5_ := congrArg DepotD.Stuck hfin; exact DepotD.ext' q1_ (q2_.trans (show gen = (if (5 : Int) = 0 then gen + 1 else gen) from rfl)) q3_ q4_ q5_
  have h0 : ¬ (stp (stp (((stp (stp (stp (gone (gone (stp ((d.dat, 0) : SD) opY) tempP) (logName (gen + 1))) opY) (opC tempP)) (opA tempP (snapOut (gen + 1) seq data))).1, 0) : SD) (opR tempP)) opY).2 = 0 := fun hx_ => (of_decide_eq_false h130) (hv8.trans hx_)
  have hP : (beginP d.dat gen seq data) = ((stp (stp (((stp (stp (stp (gone (gone (stp ((d.dat, 0) : SD) opY) tempP) (logName (gen + 1))) opY) (opC tempP)) (opA tempP (snapOut (gen + 1) seq data))).1, 0) : SD) (opR tempP)) opY).1, (stp (stp (((stp (stp (stp (gone (gone (stp ((d.dat, 0) : SD) opY) tempP) (logName (gen + 1))) opY) (opC tempP)) (opA tempP (snapOut (gen + 1) seq data))).1, 0) : SD) (opR tempP)) opY).2) := by
    unfold beginP
    rw [← snapOut_y hsn]
    refine (begin_5 h5).trans ?_
    show ((stp (stp (((stp (stp (stp (gone (gone (stp ((d.dat, 0) : SD) opY) tempP) (logName (gen + 1))) opY) (opC tempP)) (opA tempP (snapOut (gen + 1) seq data))).1, 0) : SD) (opR tempP)) opY).1, if (stp (stp (((stp (stp (stp (gone (gone (stp ((d.dat, 0) : SD) opY) tempP) (logName (gen + 1))) opY) (opC tempP)) (opA tempP (snapOut (gen + 1) seq data))).1, 0) : SD) (opR tempP)) opY).2 = 0 then 5 else (stp (stp (((stp (stp (stp (gone (gone (stp ((d.dat, 0) : SD) opY) tempP) (logName (gen + 1))) opY) (opC tempP)) (opA tempP (snapOut (gen + 1) seq data))).1, 0) : SD) (opR tempP)) opY).2) = _
    rw [if_neg h0]
  have hfin : DepotR.dat r122 = setP (⟨d.dat, gen, seq, 0, false⟩ : DepotD) (((stp (stp (((stp (stp (stp (gone (gone (stp ((d.dat, 0) : SD) opY) tempP) (logName (gen + 1))) opY) (opC tempP)) (opA tempP (snapOut (gen + 1) seq data))).1, 0) : SD) (opR tempP)) opY).1, (stp (stp (((stp (stp (stp (gone (gone (stp ((d.dat, 0) : SD) opY) tempP) (logName (gen + 1))) opY) (opC tempP)) (opA tempP (snapOut (gen + 1) seq data))).1, 0) : SD) (opR tempP)) opY).2) : SD) := hS8
  have hvf := hv8
  refine WC.skip (hK129 _ _ (WC.sr (WL.r 4 hs128 [0] rfl (WL.st tbk hs128 2 rfl rfl (fun _ hs132 => WL.r 1 hs132 [] rfl (WL.nil (WC.ret ?_)))))))
  refine tkR ?_
  clear hK109
  refine retV2 rfl (resV.cellA tbk hs132 2 rfl rfl rfl rfl) (resV.tmp rfl) ?_
  refine ⟨r122, _, (by rw [hc]; first | done | rfl | (rw [hP, ← hvf]; first | done | rfl) | (rw [hP]; done)), (St.keep1 (hs132.fr L123)), ?_, ?_⟩
  · exact ho124
  · rw [hdn, hP]; have q1_ := congrArg DepotD.Disk hfin; have q2_ := congrArg DepotD.Gen hfin; have q3_ := congrArg DepotD.Seq hfin; have q4_ := congrArg DepotD.Size hfin; have q5_ := congrArg DepotD.Stuck hfin; exact DepotD.ext' q1_ (q2_.trans (show gen = (if _ = (0 : Int) then gen + 1 else gen) from (if_neg h0).symm)) q3_ q4_ q5_
 have h5 : ¬ (fill1 (head1 d.dat (gen + 1)) (snapOut (gen + 1) seq data)).2 = 5 := fun hx_ => (of_decide_eq_false h110) (hv6.trans hx_)
 refine WC.skip (hK109 _ _ (WC.sr (WL.r 2 hs108 [] rfl ?_)))
 refine WL.val rfl rfl rfl (Run.build rfl rfl rfl rfl (built_75_0_1 _ _)) ?_
 have hF133 := ((hs108.fr L103).fb b37)
 refine WL.cl Tryz.call40 rfl (k136_ _ r102 _ _ _ _ _ _ _ _ _ _ (St.headP hF133) ho104 (St.ownP hF133) (SlF.nil _ _) (by first | assumption | omega | simp) (St.nodupP hF133) (fun h_ => absurd h_ (by omega)) ?_ ?_ ?_ ?_ ?_) ?_
 iterate 5 first | assumption | rfl | omega | decide | exact hb6 | exact hq6 | exact hs6_ | exact hbr | exact hqr | exact hsmr | exact hsm9 | exact Nat.le_trans hlz (by decide) | exact Nat.le_trans hsz (by decide) | exact Nat.le_trans hz9 (by decide) | exact hz9 | exact Nat.zero_le _
 rintro _ whs134 ⟨cc139, r135, L136, rfl, hs134, ho137, hd138, hcc140⟩
 replace hs134 := St.lendP hF133 hs134
 refine ⟨_, rfl, ?_⟩
 have hs141 := ((((hs134.fb b2).fb b4).fb b39).fb b37)
 have hS9 : DepotR.dat r135 = setP (⟨d.dat, gen, seq, 0, false⟩ : DepotD) (stp (stp (stp (stp (gone (gone (stp ((d.dat, 0) : SD) opY) tempP) (logName (gen + 1))) opY) (opC tempP)) (opA tempP (snapOut (gen + 1) seq data))) (syncOp tempP)) := hd138.trans ((congrArg (a₂ := setP (⟨d.dat, gen, seq, 0, false⟩ : DepotD) (stp (stp (stp (gone (gone (stp ((d.dat, 0) : SD) opY) tempP) (logName (gen + 1))) opY) (opC tempP)) (opA tempP (snapOut (gen + 1) seq data)))) (fun q => setP q (stp ((q.Disk, cc106) : SD) (syncOp tempP))) (by exact hS6)).trans (congrArg (a₁ := (((stp (stp (stp (gone (gone (stp ((d.dat, 0) : SD) opY) tempP) (logName (gen + 1))) opY) (opC tempP)) (opA tempP (snapOut (gen + 1) seq data))).1, cc106) : SD)) (a₂ := (stp (stp (stp (gone (gone (stp ((d.dat, 0) : SD) opY) tempP) (logName (gen + 1))) opY) (opC tempP)) (opA tempP (snapOut (gen + 1) seq data)))) (fun s => setP (⟨d.dat, gen, seq, 0, false⟩ : DepotD) (stp s (syncOp tempP))) (Prod.ext rfl hv6)))
 have hv9 : cc139 = (stp (stp (stp (stp (gone (gone (stp ((d.dat, 0) : SD) opY) tempP) (logName (gen + 1))) opY) (opC tempP)) (opA tempP (snapOut (gen + 1) seq data))) (syncOp tempP)).2 := hcc140.trans (congrArg (a₁ := (((DepotR.dat r102).Disk, cc106) : SD)) (a₂ := (stp (stp (stp (gone (gone (stp ((d.dat, 0) : SD) opY) tempP) (logName (gen + 1))) opY) (opC tempP)) (opA tempP (snapOut (gen + 1) seq data)))) (fun s => (stp s (syncOp tempP)).2) (Prod.ext (congrArg DepotD.Disk hS6) hv6))
 have hk9 : diskOk (stp (stp (stp (stp (gone (gone (stp ((d.dat, 0) : SD) opY) tempP) (logName (gen + 1))) opY) (opC tempP)) (opA tempP (snapOut (gen + 1) seq data))) (syncOp tempP)).1 = true := stp_ok hk6 (opS_ok temp_ok)
 have hb9 : totDisk (DepotR.dat r135).Disk ≤ 1048576 := by rw [hS9]; exact ok_tot hk9
 have hq9 : diskOk (DepotR.dat r135).Disk = true := by rw [hS9]; exact hk9
 have hs9_ := dep_sm hb9
 refine WL.r 1 hs141 [] rfl (WL.nil (WC.sr (WL.r 4 hs141 [] rfl (WL.cl Tryz.call68 rfl (k19_ _ _) ?_))))
 rintro _ whs142 ⟨rfl, hs142⟩
 replace hs142 := hs141.call0 hs142
 refine ⟨_, rfl, ?_⟩
 refine WL.val rfl rfl rfl (Run.build rfl rfl rfl rfl (built_75_0_1_2 _ _ _)) ?_
 have hF143 := ((hs142.fr L136).fb b37)
 refine WL.cl Tryz.call40 rfl (k136_ _ r135 _ _ _ _ _ _ _ _ _ _ (St.headP hF143) ho137 (St.ownP hF143) (SlF.nil _ _) (by first | assumption | omega | simp) (St.nodupP hF143) (fun h_ => absurd h_ (by omega)) ?_ ?_ ?_ ?_ ?_) ?_
 iterate 5 first | assumption | rfl | omega | decide | exact hb9 | exact hq9 | exact hs9_ | exact hbr | exact hqr | exact hsmr | exact hsm9 | exact Nat.le_trans hlz (by decide) | exact Nat.le_trans hsz (by decide) | exact Nat.le_trans hz9 (by decide) | exact hz9 | exact Nat.zero_le _
 rintro _ whs144 ⟨cc149, r145, L146, rfl, hs144, ho147, hd148, hcc150⟩
 replace hs144 := St.lendP hF143 hs144
 refine ⟨_, rfl, ?_⟩
 have hs151 := ((((hs144.fb b2).fb b4).fb b39).fb b37)
 have hS10 : DepotR.dat r145 = setP (⟨d.dat, gen, seq, 0, false⟩ : DepotD) (stp (stp (stp (stp (stp (gone (gone (stp ((d.dat, 0) : SD) opY) tempP) (logName (gen + 1))) opY) (opC tempP)) (opA tempP (snapOut (gen + 1) seq data))) (syncOp tempP)) (opM tempP (snapName (gen + 1)))) := hd148.trans ((congrArg (a₂ := setP (⟨d.dat, gen, seq, 0, false⟩ : DepotD) (stp (stp (stp (stp (gone (gone (stp ((d.dat, 0) : SD) opY) tempP) (logName (gen + 1))) opY) (opC tempP)) (opA tempP (snapOut (gen + 1) seq data))) (syncOp tempP))) (fun q => setP q (stp ((q.Disk, cc139) : SD) (opM tempP (snapName (gen + 1))))) (by exact hS9)).trans (congrArg (a₁ := (((stp (stp (stp (stp (gone (gone (stp ((d.dat, 0) : SD) opY) tempP) (logName (gen + 1))) opY) (opC tempP)) (opA tempP (snapOut (gen + 1) seq data))) (syncOp tempP)).1, cc139) : SD)) (a₂ := (stp (stp (stp (stp (gone (gone (stp ((d.dat, 0) : SD) opY) tempP) (logName (gen + 1))) opY) (opC tempP)) (opA tempP (snapOut (gen + 1) seq data))) (syncOp tempP))) (fun s => setP (⟨d.dat, gen, seq, 0, false⟩ : DepotD) (stp s (opM tempP (snapName (gen + 1))))) (Prod.ext rfl hv9)))
 have hv10 : cc149 = (stp (stp (stp (stp (stp (gone (gone (stp ((d.dat, 0) : SD) opY) tempP) (logName (gen + 1))) opY) (opC tempP)) (opA tempP (snapOut (gen + 1) seq data))) (syncOp tempP)) (opM tempP (snapName (gen + 1)))).2 := hcc150.trans (congrArg (a₁ := (((DepotR.dat r135).Disk, cc139) : SD)) (a₂ := (stp (stp (stp (stp (gone (gone (stp ((d.dat, 0) : SD) opY) tempP) (logName (gen + 1))) opY) (opC tempP)) (opA tempP (snapOut (gen + 1) seq data))) (syncOp tempP))) (fun s => (stp s (opM tempP (snapName (gen + 1)))).2) (Prod.ext (congrArg DepotD.Disk hS9) hv9))
 have hk10 : diskOk (stp (stp (stp (stp (stp (gone (gone (stp ((d.dat, 0) : SD) opY) tempP) (logName (gen + 1))) opY) (opC tempP)) (opA tempP (snapOut (gen + 1) seq data))) (syncOp tempP)) (opM tempP (snapName (gen + 1)))).1 = true := stp_ok hk9 (opM_ok temp_ok (snap_ok hgn))
 have hb10 : totDisk (DepotR.dat r145).Disk ≤ 1048576 := by rw [hS10]; exact ok_tot hk10
 have hq10 : diskOk (DepotR.dat r145).Disk = true := by rw [hS10]; exact hk10
 have hs10_ := dep_sm hb10
 refine WL.r 1 hs151 [] rfl (WL.nil (WC.sr (WL.r 4 hs151 [] rfl (WL.cl Tryz.call41 rfl (k18_ _ _) ?_))))
 rintro _ whs152 ⟨rfl, hs152⟩
 replace hs152 := hs151.call0 hs152
 refine ⟨_, rfl, ?_⟩
 refine WL.val rfl rfl rfl (Run.build rfl rfl rfl rfl (built_75_0_1 _ _)) ?_
 have hF153 := ((hs152.fr L146).fb b37)
 refine WL.cl Tryz.call40 rfl (k136_ _ r145 _ _ _ _ _ _ _ _ _ _ (St.headP hF153) ho147 (St.ownP hF153) (SlF.nil _ _) (by first | assumption | omega | simp) (St.nodupP hF153) (fun h_ => absurd h_ (by omega)) ?_ ?_ ?_ ?_ ?_) ?_
 iterate 5 first | assumption | rfl | omega | decide | exact hb10 | exact hq10 | exact hs10_ | exact hbr | exact hqr | exact hsmr | exact hsm9 | exact Nat.le_trans hlz (by decide) | exact Nat.le_trans hsz (by decide) | exact Nat.le_trans hz9 (by decide) | exact hz9 | exact Nat.zero_le _
 rintro _ whs154 ⟨cc159, r155, L156, rfl, hs154, ho157, hd158, hcc160⟩
 replace hs154 := St.lendP hF153 hs154
 refine ⟨_, rfl, ?_⟩
 have hs161 := ((((hs154.fb b2).fb b4).fb b39).fb b37)
 have hS11 : DepotR.dat r155 = setP (⟨d.dat, gen, seq, 0, false⟩ : DepotD) (stp (stp (stp (stp (stp (stp (gone (gone (stp ((d.dat, 0) : SD) opY) tempP) (logName (gen + 1))) opY) (opC tempP)) (opA tempP (snapOut (gen + 1) seq data))) (syncOp tempP)) (opM tempP (snapName (gen + 1)))) (opC (logName (gen + 1)))) := hd158.trans ((congrArg (a₂ := setP (⟨d.dat, gen, seq, 0, false⟩ : DepotD) (stp (stp (stp (stp (stp (gone (gone (stp ((d.dat, 0) : SD) opY) tempP) (logName (gen + 1))) opY) (opC tempP)) (opA tempP (snapOut (gen + 1) seq data))) (syncOp tempP)) (opM tempP (snapName (gen + 1))))) (fun q => setP q (stp ((q.Disk, cc149) : SD) (opC (logName (gen + 1))))) (by exact hS10)).trans (congrArg (a₁ := (((stp (stp (stp (stp (stp (gone (gone (stp ((d.dat, 0) : SD) opY) tempP) (logName (gen + 1))) opY) (opC tempP)) (opA tempP (snapOut (gen + 1) seq data))) (syncOp tempP)) (opM tempP (snapName (gen + 1)))).1, cc149) : SD)) (a₂ := (stp (stp (stp (stp (stp (gone (gone (stp ((d.dat, 0) : SD) opY) tempP) (logName (gen + 1))) opY) (opC tempP)) (opA tempP (snapOut (gen + 1) seq data))) (syncOp tempP)) (opM tempP (snapName (gen + 1))))) (fun s => setP (⟨d.dat, gen, seq, 0, false⟩ : DepotD) (stp s (opC (logName (gen + 1))))) (Prod.ext rfl hv10)))
 have hv11 : cc159 = (stp (stp (stp (stp (stp (stp (gone (gone (stp ((d.dat, 0) : SD) opY) tempP) (logName (gen + 1))) opY) (opC tempP)) (opA tempP (snapOut (gen + 1) seq data))) (syncOp tempP)) (opM tempP (snapName (gen + 1)))) (opC (logName (gen + 1)))).2 := hcc160.trans (congrArg (a₁ := (((DepotR.dat r145).Disk, cc149) : SD)) (a₂ := (stp (stp (stp (stp (stp (gone (gone (stp ((d.dat, 0) : SD) opY) tempP) (logName (gen + 1))) opY) (opC tempP)) (opA tempP (snapOut (gen + 1) seq data))) (syncOp tempP)) (opM tempP (snapName (gen + 1))))) (fun s => (stp s (opC (logName (gen + 1)))).2) (Prod.ext (congrArg DepotD.Disk hS10) hv10))
 have hk11 : diskOk (stp (stp (stp (stp (stp (stp (gone (gone (stp ((d.dat, 0) : SD) opY) tempP) (logName (gen + 1))) opY) (opC tempP)) (opA tempP (snapOut (gen + 1) seq data))) (syncOp tempP)) (opM tempP (snapName (gen + 1)))) (opC (logName (gen + 1)))).1 = true := stp_ok hk10 (opC_ok (log_ok hgn))
 have hb11 : totDisk (DepotR.dat r155).Disk ≤ 1048576 := by rw [hS11]; exact ok_tot hk11
 have hq11 : diskOk (DepotR.dat r155).Disk = true := by rw [hS11]; exact hk11
 have hs11_ := dep_sm hb11
 refine WL.r 1 hs161 [] rfl (WL.nil (WC.sr (WL.r 3 hs161 [1] rfl ?_)))
 have hF162 := ((hs161.fr L156).fb b37)
 refine WL.cl Tryz.call40 rfl (k136_ _ r155 _ _ _ _ _ _ _ _ _ _ (St.headP hF162) ho157 (St.ownP hF162) (SlF.nil _ _) (by first | assumption | omega | simp) (St.nodupP hF162) (fun h_ => absurd h_ (by omega)) ?_ ?_ ?_ ?_ ?_) ?_
 iterate 5 first | assumption | rfl | omega | decide | exact hb11 | exact hq11 | exact hs11_ | exact hbr | exact hqr | exact hsmr | exact hsm9 | exact Nat.le_trans hlz (by decide) | exact Nat.le_trans hsz (by decide) | exact Nat.le_trans hz9 (by decide) | exact hz9 | exact Nat.zero_le _
 rintro _ whs163 ⟨cc168, r164, L165, rfl, hs163, ho166, hd167, hcc169⟩
 replace hs163 := St.lendP hF162 hs163
 refine ⟨_, rfl, ?_⟩
 have hs170 := ((((hs163.fb b2).fb b4).fb b39).fb b37)
 have hS12 : DepotR.dat r164 = setP (⟨d.dat, gen, seq, 0, false⟩ : DepotD) (stp (stp (stp (stp (stp (stp (stp (gone (gone (stp ((d.dat, 0) : SD) opY) tempP) (logName (gen + 1))) opY) (opC tempP)) (opA tempP (snapOut (gen + 1) seq data))) (syncOp tempP)) (opM tempP (snapName (gen + 1)))) (opC (logName (gen + 1)))) opY) := hd167.trans ((congrArg (a₂ := setP (⟨d.dat, gen, seq, 0, false⟩ : DepotD) (stp (stp (stp (stp (stp (stp (gone (gone (stp ((d.dat, 0) : SD) opY) tempP) (logName (gen + 1))) opY) (opC tempP)) (opA tempP (snapOut (gen + 1) seq data))) (syncOp tempP)) (opM tempP (snapName (gen + 1)))) (opC (logName (gen + 1))))) (fun q => setP q (stp ((q.Disk, cc159) : SD) opY)) (by exact hS11)).trans (congrArg (a₁ := (((stp (stp (stp (stp (stp (stp (gone (gone (stp ((d.dat, 0) : SD) opY) tempP) (logName (gen + 1))) opY) (opC tempP)) (opA tempP (snapOut (gen + 1) seq data))) (syncOp tempP)) (opM tempP (snapName (gen + 1)))) (opC (logName (gen + 1)))).1, cc159) : SD)) (a₂ := (stp (stp (stp (stp (stp (stp (gone (gone (stp ((d.dat, 0) : SD) opY) tempP) (logName (gen + 1))) opY) (opC tempP)) (opA tempP (snapOut (gen + 1) seq data))) (syncOp tempP)) (opM tempP (snapName (gen + 1)))) (opC (logName (gen + 1))))) (fun s => setP (⟨d.dat, gen, seq, 0, false⟩ : DepotD) (stp s opY)) (Prod.ext rfl hv11)))
 have hv12 : cc168 = (stp (stp (stp (stp (stp (stp (stp (gone (gone (stp ((d.dat, 0) : SD) opY) tempP) (logName (gen + 1))) opY) (opC tempP)) (opA tempP (snapOut (gen + 1) seq data))) (syncOp tempP)) (opM tempP (snapName (gen + 1)))) (opC (logName (gen + 1)))) opY).2 := hcc169.trans (congrArg (a₁ := (((DepotR.dat r155).Disk, cc159) : SD)) (a₂ := (stp (stp (stp (stp (stp (stp (gone (gone (stp ((d.dat, 0) : SD) opY) tempP) (logName (gen + 1))) opY) (opC tempP)) (opA tempP (snapOut (gen + 1) seq data))) (syncOp tempP)) (opM tempP (snapName (gen + 1)))) (opC (logName (gen + 1))))) (fun s => (stp s opY).2) (Prod.ext (congrArg DepotD.Disk hS11) hv11))
 have hk12 : diskOk (stp (stp (stp (stp (stp (stp (stp (gone (gone (stp ((d.dat, 0) : SD) opY) tempP) (logName (gen + 1))) opY) (opC tempP)) (opA tempP (snapOut (gen + 1) seq data))) (syncOp tempP)) (opM tempP (snapName (gen + 1)))) (opC (logName (gen + 1)))) opY).1 = true := stp_ok hk11 opY_ok
 have hb12 : totDisk (DepotR.dat r164).Disk ≤ 1048576 := by rw [hS12]; exact ok_tot hk12
 have hq12 : diskOk (DepotR.dat r164).Disk = true := by rw [hS12]; exact hk12
 have hs12_ := dep_sm hb12
 have hT : DepotR.dat r164 = setP (⟨d.dat, gen, seq, 0, false⟩ : DepotD) (tail1 (fill1 (head1 d.dat (gen + 1)) (snapOut (gen + 1) seq data)) (gen + 1)) := hS12
 have hvT : cc168 = (tail1 (fill1 (head1 d.dat (gen + 1)) (snapOut (gen + 1) seq data)) (gen + 1)).2 := hv12
 have hkT : diskOk (tail1 (fill1 (head1 d.dat (gen + 1)) (snapOut (gen + 1) seq data)) (gen + 1)).1 = true := hk12
 have hDT := diskOk_P hkT
 have eD : (dirD (DiskR.dat (DepotR.Disk r164))) = (dirD (tail1 (fill1 (head1 d.dat (gen + 1)) (snapOut (gen + 1) seq data)) (gen + 1)).1) := congrArg (fun q : DepotD => dirD q.Disk) hT
 have hdl9 : (dirD (DiskR.dat (DepotR.Disk r164))).length ≤ 40 := by rw [eD]; exact Nat.le_trans turnsL_len (by have h9 := hDT.small; omega)
 have hsd9 : sortedL (dirD (DiskR.dat (DepotR.Disk r164))) := by rw [eD]; exact sorted_turns hDT.sorted hDT.runi
 have hsm9 := dep_sm hb12
 rw [hd167] at hsm9
 refine WL.r 1 hs170 [] rfl (WL.nil (WC.seq (fun K171 hK171 => WC.sr (WL.r 4 hs170 [0] rfl ?_))))
 refine WL.cl Tryz.call69 rfl (k123_ r164.Disk _ (ownDepotR.ok (B := 549755813888) ho166 (hs170.ow L165) (by rw [hd167]; assumption)).Disk ?_ ?_) ?_
 iterate 2 first | assumption | rfl | omega | decide | exact hb12 | exact hq12 | exact hs12_ | exact hbr | exact hqr | exact hsmr | exact hsm9 | exact Nat.le_trans hlz (by decide) | exact Nat.le_trans hsz (by decide) | exact Nat.le_trans hz9 (by decide) | exact hz9 | exact Nat.zero_le _
 rintro _ whs172 ⟨A173, c174, L1_175, rfl, hs172, ho176⟩
 replace hs172 := hs170.callF hs172
 refine ⟨_, rfl, ?_⟩
 replace hs172 := St.back [_, _, _, _] hs172
 refine WL.r 2 hs172 [] rfl (WL.nil (WC.block ?_))
 have hM181 := (St.grp1 (L1 := L165) [_] (((((((hs172.fr L1_20).fr L1_175).fb b2).fb b4).fb b39).fr L165).fb b37))
 refine WC.lV [1, 8, 9, 12, 13, 29, 40, 75, 115, 116] rfl hM181 (fun k_ (a_ : Hp) f => ∃ (c : Int) (i : Nat) (r : DepotR) (L179 : Hp), k_ = (dirD (DiskR.dat (DepotR.Disk r164))).length - i ∧ a_ = [(b37, .cells (List.toArray [i64 r.Disk.Room, i64 r.Disk.Fuse, i64 r.Disk.Next, .slice r.Disk.Files.A r.Disk.Files.n r.Disk.Files.c, .slice r.Disk.Kept.A r.Disk.Kept.n r.Disk.Kept.c, .slice r.Disk.Turns.A r.Disk.Turns.n r.Disk.Turns.c, i64 r.Gen, i64 r.Seq, i64 r.Size, .bool r.Stuck]) 36 (0, 0))] ++ L179 ∧ (i ≤ (dirD (DiskR.dat (DepotR.Disk r164))).length) ∧ (DepotR.dat r = setP (⟨d.dat, gen, seq, 0, false⟩ : DepotD) (sweepS (tail1 (fill1 (head1 d.dat (gen + 1)) (snapOut (gen + 1) seq data)) (gen + 1)) (gen + 1) ((dirD (DiskR.dat (DepotR.Disk r164))).take i))) ∧ (c = (sweepS (tail1 (fill1 (head1 d.dat (gen + 1)) (snapOut (gen + 1) seq data)) (gen + 1)) (gen + 1) ((dirD (DiskR.dat (DepotR.Disk r164))).take i)).2) ∧ (there (sweepS (tail1 (fill1 (head1 d.dat (gen + 1)) (snapOut (gen + 1) seq data)) (gen + 1)) (gen + 1) ((dirD (DiskR.dat (DepotR.Disk r164))).take i)) ((dirD (DiskR.dat (DepotR.Disk r164))).drop i)) ∧ ownDepotR r L179 ∧ Sub [(117, .int .i64 i), (14, .int .i64 c)] f) ((dirD (DiskR.dat (DepotR.Disk r164))).length) ?_ ?_
 ·refine ⟨_, 0, r164, L165, rfl, rfl, ?_, ?_, ?_, ?_, ho166, ⟨rfl, rfl, trivial⟩⟩
  · exact Nat.zero_le _
  · exact hT
  · exact hvT
  · exact (by rw [List.drop_zero, eD]; exact there_init _)
 rintro _ _ f w ⟨c, i, r, L179, rfl, rfl, p0, p1, p2, p3, ho180, hG⟩ hF hs182
 refine WC.sub _ (hG.app hF) ?_
 clear hG hF
 replace hs182 := St.ungrp1 [_] hs182
 have hs183 := ((((hs182.fb b2).fb b4).fb b39).fb b37)
 have hkr : diskOk (sweepS (tail1 (fill1 (head1 d.dat (gen + 1)) (snapOut (gen + 1) seq data)) (gen + 1)) (gen + 1) ((dirD (DiskR.dat (DepotR.Disk r164))).take i)).1 = true := sweep_ok hkT (fun x hx => hDT.names x (by rw [← eD]; exact List.mem_of_mem_take hx))
 have hbr : totDisk (DepotR.dat r).Disk ≤ 1048576 := by rw [p1]; exact ok_tot hkr
 have hqr : diskOk (DepotR.dat r).Disk = true := by rw [p1]; exact hkr
 have hsmr := dep_sm hbr
 refine WC.r1 hs183 [] rfl (WC.seq (fun K184 hK184 => ?_))
 refine WC.cq rfl (fun h185 qh185 => ?_) (fun h185 qh185 => ?_)
 ·have hi9 : i < (dirD (DiskR.dat (DepotR.Disk r164))).length := by have h9 := h185; simp at h9; omega
  have hnm9 : nameOk (gat encLink (dirD (DiskR.dat (DepotR.Disk r164))) i).Name = true := hDT.names _ (by rw [← eD]; exact gat_mem hi9)
  have hz9 := nameOk_size hnm9
  refine WC.skip (hK184 _ _ (WC.seq (fun K186 hK186 => WC.block (WC.sr ?_))))
  refine WL.val rfl rfl rfl (Run.idxK (i) Tryz.runUnderlying31 Tryz.sizeOf101 rfl rfl rfl ?_ ?_ ?_) ?_
  · exact SlF.some_ (SlF.ofOwn ho176 (hs183.ow L1_175))
  · omega
  · omega
  refine WL.val rfl rfl rfl (Run.loadA Tryz.isAgg101 Tryz.sizeOf101 rfl rfl (SlF.whole (SlF.ofOwn ho176 (hs183.ow L1_175)) ?_)) ?_
  · omega
  refine WL.al hs183 Tryz.zeroValue101 rfl rfl (fun b187 _ hs188 => WL.st tbk hs188 0 rfl rfl (fun _ hs189 => WL.nil (WC.sr (WL.r 2 hs189 [0] rfl ?_))))
  refine WL.cl Tryz.call70 rfl (k117_ _ _ ?_) ?_
  · first | assumption | rfl | omega | decide | exact hb12 | exact hq12 | exact hs12_ | exact hbr | exact hqr | exact hsmr | exact hsm9 | exact Nat.le_trans hlz (by decide) | exact Nat.le_trans hsz (by decide) | exact Nat.le_trans hz9 (by decide) | exact hz9 | exact Nat.zero_le _
  rintro _ whs190 ⟨rfl, hs190⟩
  replace hs190 := hs189.call0 hs190
  refine ⟨_, rfl, WL.r 5 hs190 [] rfl (WL.nil (WC.sr (WL.r 2 hs190 [] rfl ?_)))⟩
  refine WL.pA tbk 4 Acts.nil hs190 [] rfl rfl rfl rfl (fun g_ => by (try simp only [bf, within_iff, within_not] at g_); exact ⟨by omega, trivial⟩) (WL.nil (WC.cq rfl (fun h191 qh191 => ?_) (fun h191 qh191 => ?_)))
  ·have hcx : (genOk (gat encLink (dirD (DiskR.dat (DepotR.Disk r164))) i).Name && !decide (genV (gat encLink (dirD (DiskR.dat (DepotR.Disk r164))) i).Name = gen + 1)) = true := h191
   refine WC.region (WL.r 4 hs190 [0] rfl ?_)
   have hF192 := ((hs190.fr L179).fb b37)
   refine WL.cl Tryz.call67 rfl (k137_ _ r _ _ _ _ (St.headP hF192) ho180 (St.ownP hF192) (St.nodupP hF192) ?_ ?_ ?_) ?_
   iterate 3 first | assumption | rfl | omega | decide | exact hb12 | exact hq12 | exact hs12_ | exact hbr | exact hqr | exact hsmr | exact hsm9 | exact Nat.le_trans hlz (by decide) | exact Nat.le_trans hsz (by decide) | exact Nat.le_trans hz9 (by decide) | exact hz9 | exact Nat.zero_le _
   rintro _ whs193 ⟨cc198, r194, L195, rfl, hs193, ho196, hd197, hcc199⟩
   replace hs193 := St.lendP hF192 hs193
   refine ⟨_, rfl, ?_⟩
   have hs200 := (((((hs193.fb b2).fb b4).fb b39).fb b187).fb b37)
   have hpr : (((DepotR.dat r).Disk, c) : SD) = (sweepS (tail1 (fill1 (head1 d.dat (gen + 1)) (snapOut (gen + 1) seq data)) (gen + 1)) (gen + 1) ((dirD (DiskR.dat (DepotR.Disk r164))).take i)) := Prod.ext (congrArg DepotD.Disk p1) p2
   have hgo : gone ((DepotR.dat r).Disk, c) (gat encLink (dirD (DiskR.dat (DepotR.Disk r164))) i).Name = (sweepS (tail1 (fill1 (head1 d.dat (gen + 1)) (snapOut (gen + 1) seq data)) (gen + 1)) (gen + 1) ((dirD (DiskR.dat (DepotR.Disk r164))).take (i + 1))) := by rw [hpr, there_at hi9 p3, sweep_take hi9]; unfold sweep1; rw [if_pos hcx]
   have hnx : DepotR.dat r194 = setP (⟨d.dat, gen, seq, 0, false⟩ : DepotD) (sweepS (tail1 (fill1 (head1 d.dat (gen + 1)) (snapOut (gen + 1) seq data)) (gen + 1)) (gen + 1) ((dirD (DiskR.dat (DepotR.Disk r164))).take (i + 1))) := hd197.trans ((congrArg (a₂ := setP (⟨d.dat, gen, seq, 0, false⟩ : DepotD) (sweepS (tail1 (fill1 (head1 d.dat (gen + 1)) (snapOut (gen + 1) seq data)) (gen + 1)) (gen + 1) ((dirD (DiskR.dat (DepotR.Disk r164))).take i))) (fun q => setP q (gone ((DepotR.dat r).Disk, c) (gat encLink (dirD (DiskR.dat (DepotR.Disk r164))) i).Name)) (by exact p1)).trans (by rw [hgo]; rfl))
   have hcv := hcc199.trans (congrArg Prod.snd hgo)
   refine WL.r 1 hs200 [] rfl (WL.nil (hK186 _ _ (WC.region (WL.r 2 hs200 [] rfl (WL.nil (tkN ?_))))))
   replace hs200 := (hs200.fb b187).d1
   have hF201 := (St.grp1 (L1 := L195) [_] (((((((hs200.fr L1_20).fr L1_175).fb b2).fb b4).fb b39).fr L195).fb b37))
   refine ⟨sbF rfl, _, hF201, _, ?_, _, i + 1, r194, L195, rfl, rfl, ?_, ?_, ?_, ?_, ho196, ⟨rfl, rfl, trivial⟩⟩
   · omega
   · omega
   · exact hnx
   · exact hcv
   · exact there_sweep hsd9 hi9 p3
  have hcx : ¬ (genOk (gat encLink (dirD (DiskR.dat (DepotR.Disk r164))) i).Name && !decide (genV (gat encLink (dirD (DiskR.dat (DepotR.Disk r164))) i).Name = gen + 1)) = true := by have h9 := h191; rw [h9]; decide
  have hsw : (sweepS (tail1 (fill1 (head1 d.dat (gen + 1)) (snapOut (gen + 1) seq data)) (gen + 1)) (gen + 1) ((dirD (DiskR.dat (DepotR.Disk r164))).take (i + 1))) = (sweepS (tail1 (fill1 (head1 d.dat (gen + 1)) (snapOut (gen + 1) seq data)) (gen + 1)) (gen + 1) ((dirD (DiskR.dat (DepotR.Disk r164))).take i)) := by rw [sweep_take hi9]; unfold sweep1; rw [if_neg hcx]
  have hnx : DepotR.dat r = setP (⟨d.dat, gen, seq, 0, false⟩ : DepotD) (sweepS (tail1 (fill1 (head1 d.dat (gen + 1)) (snapOut (gen + 1) seq data)) (gen + 1)) (gen + 1) ((dirD (DiskR.dat (DepotR.Disk r164))).take (i + 1))) := by rw [hsw]; exact p1
  have hcv : c = (sweepS (tail1 (fill1 (head1 d.dat (gen + 1)) (snapOut (gen + 1) seq data)) (gen + 1)) (gen + 1) ((dirD (DiskR.dat (DepotR.Disk r164))).take (i + 1))).2 := by rw [hsw]; exact p2
  refine WC.skip (hK186 _ _ (WC.region (WL.r 2 hs190 [] rfl (WL.nil (tkN ?_)))))
  replace hs190 := hs190.d1
  have hF202 := (St.grp1 (L1 := L179) [_] (((((((hs190.fr L1_20).fr L1_175).fb b2).fb b4).fb b39).fr L179).fb b37))
  refine ⟨sbF rfl, _, hF202, _, ?_, _, i + 1, r, L179, rfl, rfl, ?_, ?_, ?_, ?_, ho180, ⟨rfl, rfl, trivial⟩⟩
  · omega
  · omega
  · exact hnx
  · exact hcv
  · exact there_sweep hsd9 hi9 p3
 refine WC.exit (hK171 _ _ (WC.sr (WL.r 3 hs183 [1] rfl ?_)))
 have hF203 := ((hs183.fr L179).fb b37)
 refine WL.cl Tryz.call40 rfl (k136_ _ r _ _ _ _ _ _ _ _ _ _ (St.headP hF203) ho180 (St.ownP hF203) (SlF.nil _ _) (by first | assumption | omega | simp) (St.nodupP hF203) (fun h_ => absurd h_ (by omega)) ?_ ?_ ?_ ?_ ?_) ?_
 iterate 5 first | assumption | rfl | omega | decide | exact hb12 | exact hq12 | exact hs12_ | exact hbr | exact hqr | exact hsmr | exact hsm9 | exact Nat.le_trans hlz (by decide) | exact Nat.le_trans hsz (by decide) | exact Nat.le_trans hz9 (by decide) | exact hz9 | exact Nat.zero_le _
 rintro _ whs204 ⟨cc209, r205, L206, rfl, hs204, ho207, hd208, hcc210⟩
 replace hs204 := St.lendP hF203 hs204
 refine ⟨_, rfl, ?_⟩
 have hs211 := ((((hs204.fb b2).fb b4).fb b39).fb b37)
 have hpr : (((DepotR.dat r).Disk, c) : SD) = sweepS (tail1 (fill1 (head1 d.dat (gen + 1)) (snapOut (gen + 1) seq data)) (gen + 1)) (gen + 1) (dirD (tail1 (fill1 (head1 d.dat (gen + 1)) (snapOut (gen + 1) seq data)) (gen + 1)).1) := Prod.ext ((congrArg DepotD.Disk p1).trans (by rw [List.take_of_length_le (by omega), eD]; rfl)) (p2.trans (by rw [List.take_of_length_le (by omega), eD]))
 have hfin : DepotR.dat r205 = setP (⟨d.dat, gen, seq, 0, false⟩ : DepotD) (stp (sweepS (tail1 (fill1 (head1 d.dat (gen + 1)) (snapOut (gen + 1) seq data)) (gen + 1)) (gen + 1) (dirD (tail1 (fill1 (head1 d.dat (gen + 1)) (snapOut (gen + 1) seq data)) (gen + 1)).1)) opY) := hd208.trans ((congrArg (a₂ := setP (⟨d.dat, gen, seq, 0, false⟩ : DepotD) (sweepS (tail1 (fill1 (head1 d.dat (gen + 1)) (snapOut (gen + 1) seq data)) (gen + 1)) (gen + 1) ((dirD (DiskR.dat (DepotR.Disk r164))).take i))) (fun q => setP q (stp ((DepotR.dat r).Disk, c) opY)) (by exact p1)).trans (by rw [hpr]; rfl))
 have hvf := hcc210.trans (congrArg (fun s : SD => (stp s opY).2) hpr)
 have hP : (beginP d.dat gen seq data) = (stp (sweepS (tail1 (fill1 (head1 d.dat (gen + 1)) (snapOut (gen + 1) seq data)) (gen + 1)) (gen + 1) (dirD (tail1 (fill1 (head1 d.dat (gen + 1)) (snapOut (gen + 1) seq data)) (gen + 1)).1)) opY) := by unfold beginP; rw [← snapOut_y hsn]; exact begin_n h5
 refine WL.r 1 hs211 [] rfl (WL.nil (WC.seq (fun K212 hK212 => WC.r1 hs211 [] rfl ?_)))
 refine WC.cq rfl (fun h213 qh213 => ?_) (fun h213 qh213 => ?_)
 ·have h0 : (stp (sweepS (tail1 (fill1 (head1 d.dat (gen + 1)) (snapOut (gen + 1) seq data)) (gen + 1)) (gen + 1) (dirD (tail1 (fill1 (head1 d.dat (gen + 1)) (snapOut (gen + 1) seq data)) (gen + 1)).1)) opY).2 = 0 := hvf.symm.trans (of_decide_eq_true h213)
  refine WC.region (WL.r 5 hs211 [] rfl (WL.st tbk hs211 0 rfl rfl (fun _ hs214 => WL.nil (hK212 _ _ (WC.sr (WL.r 4 hs214 [0] rfl (WL.st tbk hs214 2 rfl rfl (fun _ hs215 => ?_))))))))
  refine WL.r 1 hs215 [] rfl (WL.nil (WC.ret (retV2 rfl (resV.cellA tbk hs215 2 rfl rfl rfl rfl) (resV.tmp rfl) ?_)))
  obtain ⟨L216, L217, L218, hs222, ho219, ho220, ho221⟩ := ownDepotR.op hs215 ho207
  have hs223 := ((((hs222.fb b2).fb b4).fb b39).fb b37)
  obtain ⟨L225, hs224, ho226⟩ := ownDepotR.fl hs223 ho219 ho220 ho221
  have hs227 := ((((hs224.fb b2).fb b4).fb b39).fb b37)
  refine ⟨⟨⟨r205.Disk.Room, r205.Disk.Fuse, r205.Disk.Next, SlD.ofN ho219, SlD.of ho220, SlD.of ho221⟩, (gen + (1)), r205.Seq, r205.Size, r205.Stuck⟩, _, (by rw [hc]; first | done | rfl | (rw [hP, ← hvf]; first | done | rfl) | (rw [hP]; done)), (St.keep1 (hs227.fr L225)), ?_, ?_⟩
  · exact (by exact ho226)
  · rw [hdn, hP]; have q1_ := congrArg DepotD.Disk hfin; have q2_ := congrArg DepotD.Gen hfin; have q3_ := congrArg DepotD.Seq hfin; have q4_ := congrArg DepotD.Size hfin; have q5_ := congrArg DepotD.Stuck hfin; exact DepotD.ext' q1_ (show gen + 1 = (if _ = (0 : Int) then gen + 1 else gen) from (if_pos h0).symm) q3_ q4_ q5_
 have h0 : ¬ (stp (sweepS (tail1 (fill1 (head1 d.dat (gen + 1)) (snapOut (gen + 1) seq data)) (gen + 1)) (gen + 1) (dirD (tail1 (fill1 (head1 d.dat (gen + 1)) (snapOut (gen + 1) seq data)) (gen + 1)).1)) opY).2 = 0 := fun hx_ => (of_decide_eq_false h213) (hvf.trans hx_)
 refine WC.skip (hK212 _ _ (WC.sr (WL.r 4 hs211 [0] rfl (WL.st tbk hs211 2 rfl rfl (fun _ hs228 => WL.r 1 hs228 [] rfl (WL.nil (WC.ret ?_)))))))
 refine retV2 rfl (resV.cellA tbk hs228 2 rfl rfl rfl rfl) (resV.tmp rfl) ?_
 refine ⟨r205, _, (by rw [hc]; first | done | rfl | (rw [hP, ← hvf]; first | done | rfl) | (rw [hP]; done)), (St.keep1 (hs228.fr L206)), ?_, ?_⟩
 · exact ho207
 · rw [hdn, hP]; have q1_ := congrArg DepotD.Disk hfin; have q2_ := congrArg DepotD.Gen hfin; have q3_ := congrArg DepotD.Seq hfin; have q4_ := congrArg DepotD.Size hfin; have q5_ := congrArg DepotD.Stuck hfin; exact DepotD.ext' q1_ (q2_.trans (show gen = (if _ = (0 : Int) then gen + 1 else gen) from (if_neg h0).symm)) q3_ q4_ q5_
theorem k139_ (p : DepotR) (A_data : Option Addr) (n_data c_data : Nat) (data : List UInt8) (w : World) (f_p : okDepotR 549755813888 w p) (f_data : SlF encB w A_data n_data data) (hb : totDisk p.dat.Disk ≤ 1048576) (hn : n_data ≤ 1048576) :
    Calls Tryz.prog 32 #[.agg #[i64 p.Disk.Room, i64 p.Disk.Fuse, i64 p.Disk.Next, .slice p.Disk.Files.A p.Disk.Files.n p.Disk.Files.c, .slice p.Disk.Kept.A p.Disk.Kept.n p.Disk.Kept.c, .slice p.Disk.Turns.A p.Disk.Turns.n p.Disk.Turns.c, i64 p.Gen, i64 p.Seq, i64 p.Size, .bool p.Stuck], .slice A_data n_data c_data] w fun e w' => ∃ r L1, e = .returned (.tuple #[.agg #[i64 r.Disk.Room, i64 r.Disk.Fuse, i64 r.Disk.Next, .slice r.Disk.Files.A r.Disk.Files.n r.Disk.Files.c, .slice r.Disk.Kept.A r.Disk.Kept.n r.Disk.Kept.c, .slice r.Disk.Turns.A r.Disk.Turns.n r.Disk.Turns.c, i64 r.Gen, i64 r.Seq, i64 r.Size, .bool r.Stuck], .int .i64 (compC p.dat data)]) ∧ St w [] L1 w' ∧ ownDepotR r L1 ∧ r.dat = compD p.dat data := by
 have nb_p_Disk_Files := f_p.Disk.Files_n
 have nl_p_Disk_Files := f_p.Disk.Files.sl.len
 have nb_p_Disk_Kept := f_p.Disk.Kept_n
 have nl_p_Disk_Kept := f_p.Disk.Kept.len
 have nb_p_Disk_Turns := f_p.Disk.Turns_n
 have nl_p_Disk_Turns := f_p.Disk.Turns.len
 have hsmD : smDisk 1048576 p.dat.Disk := totDisk_sm hb
 have hsmB : smDepot 549755813888 p.dat := dep_sm hb
 refine enter 40 Tryz.func32 rfl Tryz.ntmps32 rfl rfl ?_
 have hs1 := St.init w
 refine WC.sr (WL.bx hs1 rfl (fun b2 _ hs3 => WL.al hs3 Tryz.zeroValue36 rfl rfl (fun b4 _ hs5 => WL.r 1 hs5 [] rfl (WL.nil (WC.seq (fun K6 hK6 => WC.sr (WL.r 1 hs5 [1] rfl ?_)))))))
 refine WL.cl Tryz.call38 rfl (k132_ p _ (okDepotR.st0 f_p hs5) ?_) ?_
 · first | assumption | rfl | omega | exact hb
 rintro _ whs7 ⟨rfl, hs7⟩
 replace hs7 := hs5.call0 hs7
 refine ⟨_, rfl, WL.r 1 hs7 [] rfl (WL.nil (WC.cq rfl (fun h8 qh8 => ?_) (fun h8 qh8 => ?_)))⟩
 ·have hk : depotOk p.dat = false := by have h9 := h8; simpa using h9
  obtain ⟨hdn, hc⟩ := comp_bad (b := data) hk
  refine WC.sr ?_
  refine WL.val rfl rfl rfl (Run.build rfl rfl rfl rfl (built_36)) (WL.st tbk hs7 0 rfl rfl (fun _ hs9 => WL.r 1 hs9 [] rfl (WL.nil (WC.ret (tkR ?_)))))
  clear hK6
  refine retV2 rfl (resV.cellA tbk hs9 0 rfl rfl rfl rfl) (resV.tmp rfl) ?_
  obtain ⟨L14, hs13, ho15⟩ := ownDepotR.fl hs9 (OwnN.nil _ _ _) (OwnF.nil _ _) (OwnF.nil _ _)
  have hs16 := ((hs13.fb b2).fb b4)
  refine ⟨⟨⟨0, 0, 0, ⟨none, 0, 0, []⟩, ⟨none, 0, 0, []⟩, ⟨none, 0, 0, []⟩⟩, 0, 0, 0, false⟩, _, (by rw [hc]; first | done | rfl), (St.keep1 (hs16.fr L14)), ?_, ?_⟩
  · exact (by exact ho15)
  · rw [hdn]; rfl
 have hk : depotOk p.dat = true := by have h9 := h8; simpa using h9
 refine WC.skip (hK6 _ _ (WC.sr (WL.r 1 hs7 [1] rfl ?_)))
 refine WL.cl Tryz.call39 rfl (k133_ p _ (okDepotR.st0 f_p hs7) ?_) ?_
 · first | assumption | rfl | omega | exact hb
 rintro _ whs17 ⟨r18, L1_19, rfl, hs17, ho20, hd21⟩
 replace hs17 := hs7.callF hs17
 refine ⟨_, rfl, ?_⟩
 replace hs17 := St.back [_, _] hs17
 have hcp := hd21
 refine WL.al hs17 Tryz.zeroValue36 rfl rfl (fun b22 _ hs23 => WL.st tbk hs23 0 rfl rfl (fun _ hs24 => WL.nil (WC.seq (fun K25 hK25 => WC.r1 hs24 [2] rfl ?_))))
 refine WC.cq rfl (fun h26 qh26 => ?_) (fun h26 qh26 => ?_)
 ·have hst : p.dat.Stuck = true := by show p.Stuck = true; have h9 := h26; simpa using h9
  obtain ⟨hdn, hc⟩ := comp_st (b := data) hk hst
  refine WC.sr (WL.r 1 hs24 [0] rfl (WL.st tbk hs24 1 rfl rfl (fun _ hs27 => WL.r 1 hs27 [] rfl (WL.nil (WC.ret (tkR ?_))))))
  clear hK25
  refine retV2 rfl (resV.cellA tbk hs27 1 rfl rfl rfl rfl) (resV.tmp rfl) ?_
  refine ⟨r18, _, (by rw [hc]; first | done | rfl), (St.keep1 (hs27.fr L1_19)), ?_, ?_⟩
  · exact ho20
  · rw [hdn]; exact hd21
 have hst : p.dat.Stuck = false := by show p.Stuck = false; have h9 := h26; simpa using h9
 refine WC.skip (hK25 _ _ (WC.sr (WL.r 7 hs24 [2, 2, 2] rfl ?_)))
 refine WL.cl Tryz.call27 rfl (k138_ p.Disk _ _ _ _ _ _ _ (okDiskR.st0 f_p.Disk hs24) (SlF.st0 f_data hs24) ?_ ?_) ?_
 iterate 2 first | assumption | rfl | omega | exact hb
 rintro _ whs28 ⟨r29, L1_30, rfl, hs28, ho31, hd32⟩
 replace hs28 := hs24.callF hs28
 refine ⟨_, rfl, ?_⟩
 replace hs28 := St.back [_, _, _] hs28
 have hbg := hd32
 refine WL.r 3 hs28 [] rfl (WL.al hs28 Tryz.zeroValue36 rfl rfl (fun b33 _ hs34 => WL.st tbk hs34 0 rfl rfl (fun _ hs35 => WL.r 1 hs35 [] rfl (WL.nil (WC.seq (fun K36 hK36 => WC.r1 hs35 [] rfl ?_))))))
 refine WC.cq rfl (fun h37 qh37 => ?_) (fun h37 qh37 => ?_)
 ·have h0 : compK p.dat data = 0 := of_decide_eq_true h37
  obtain ⟨hdn, hc⟩ := comp_0 hk hst h0
  refine WC.sr (WL.r 1 hs35 [0] rfl (WL.st tbk hs35 2 rfl rfl (fun _ hs38 => WL.r 1 hs38 [] rfl (WL.nil (WC.ret (tkR ?_))))))
  clear hK36
  refine retV2 rfl (resV.cellA tbk hs38 2 rfl rfl rfl rfl) (resV.tmp rfl) ?_
  refine ⟨r29, _, (by rw [hc]; first | done | rfl), (St.keep1 (hs38.fr L1_30)), ?_, ?_⟩
  · exact ho31
  · rw [hdn]; exact hd32
 have h0 : ¬ compK p.dat data = 0 := of_decide_eq_false h37
 refine WC.skip (hK36 _ _ (WC.seq (fun K39 hK39 => WC.r1 hs35 [] rfl ?_)))
 refine WC.cq rfl (fun h40 qh40 => ?_) (fun h40 qh40 => ?_)
 ·have h1 : compK p.dat data = 1 := of_decide_eq_true h40
  obtain ⟨hdn, hc⟩ := comp_1 hk hst h1
  refine WC.sr (WL.r 1 hs35 [1] rfl (WL.st tbk hs35 2 rfl rfl (fun _ hs41 => WL.r 1 hs41 [] rfl (WL.nil (WC.ret (tkR ?_))))))
  clear hK39
  refine retV2 rfl (resV.cellA tbk hs41 2 rfl rfl rfl rfl) (resV.tmp rfl) ?_
  refine ⟨r18, _, (by rw [hc]; first | done | rfl), (St.keep1 (hs41.fr L1_19)), ?_, ?_⟩
  · exact ho20
  · rw [hdn]; exact hd21
 have h1 : ¬ compK p.dat data = 1 := of_decide_eq_false h40
 obtain ⟨hdn, hc⟩ := comp_n hk hst h0 h1
 refine WC.skip (hK39 _ _ (WC.sr (WL.r 3 hs35 [0] rfl (WL.st tbk hs35 1 rfl rfl (fun _ hs42 => WL.nil (WC.sr (WL.r 2 hs42 [1] rfl ?_)))))))
 refine WL.st tbk hs42 2 rfl rfl (fun _ hs43 => WL.r 1 hs43 [] rfl (WL.nil (WC.ret (retV2 rfl (resV.cellA tbk hs43 2 rfl rfl rfl rfl) (resV.tmp rfl) ?_))))
 obtain ⟨L44, L45, L46, hs50, ho47, ho48, ho49⟩ := ownDepotR.op hs43 ho31
 have hs51 := ((((hs50.fb b2).fb b4).fb b22).fb b33)
 obtain ⟨L53, hs52, ho54⟩ := ownDepotR.fl hs51 ho47 ho48 ho49
 have hs55 := ((((hs52.fb b2).fb b4).fb b22).fb b33)
 refine ⟨⟨⟨r29.Disk.Room, r29.Disk.Fuse, r29.Disk.Next, SlD.ofN ho47, SlD.of ho48, SlD.of ho49⟩, r18.Gen, r18.Seq, r18.Size, r18.Stuck⟩, _, (by rw [hc]; first | done | rfl), (St.keep1 (hs55.fr L53)), ?_, ?_⟩
 · exact (by exact ho54)
 · rw [hdn]; have q_ := congrArg DepotD.Disk hbg; have g1_ := congrArg DepotD.Gen hcp; have g2_ := congrArg DepotD.Seq hcp; have g3_ := congrArg DepotD.Size hcp; have g4_ := congrArg DepotD.Stuck hcp; exact DepotD.ext' q_ g1_ g2_ g3_ g4_
set_option maxHeartbeats 4000000 in
theorem k140_ (a : DepotR) (left : Int) (w : World) (f_a : okDepotR 9223372036854775807 w a) (h1 : 0 ≤ left) (h2 : left ≤ 1048576) :
    Calls Tryz.prog 10 #[.agg #[i64 a.Disk.Room, i64 a.Disk.Fuse, i64 a.Disk.Next, .slice a.Disk.Files.A a.Disk.Files.n a.Disk.Files.c, .slice a.Disk.Kept.A a.Disk.Kept.n a.Disk.Kept.c, .slice a.Disk.Turns.A a.Disk.Turns.n a.Disk.Turns.c, i64 a.Gen, i64 a.Seq, i64 a.Size, .bool a.Stuck], i64 left] w fun e w' => e = .returned (.int .i64 (szR left (totDepot a.dat))) ∧ St w [] [] w' := by
 have nb_a_Disk_Files := f_a.Disk.Files_n
 have nl_a_Disk_Files := f_a.Disk.Files.sl.len
 have nb_a_Disk_Kept := f_a.Disk.Kept_n
 have nl_a_Disk_Kept := f_a.Disk.Kept.len
 have nb_a_Disk_Turns := f_a.Disk.Turns_n
 have nl_a_Disk_Turns := f_a.Disk.Turns.len
 refine enter 12 Tryz.func10 rfl Tryz.ntmps10 rfl rfl ?_
 have hs1 := St.init w
 refine WC.sr (WL.bx hs1 rfl (fun b2 _ hs3 => WL.r 1 hs3 [] rfl (WL.nil (WC.sr (WL.r 3 hs3 [0] rfl ?_)))))
 refine WL.cl Tryz.call26 rfl (k55_ a.Disk _ _ (okDiskR.st0 f_a.Disk hs3) ?_ ?_) ?_
 · first | assumption | omega
 · first | assumption | omega | exact szR_b (by assumption) (by omega) (by first | assumption | omega)
 rintro _ whs4 ⟨rfl, hs4⟩
 replace hs4 := hs3.call0 hs4
 refine ⟨_, rfl, WL.r 1 hs4 [] rfl (WL.nil (WC.seq (fun K5 hK5 => WC.r1 hs4 [] rfl ?_)))⟩
 refine WC.cD rfl (fun qh6 => ?_) (fun qh6 => ?_)
 ·try have soh6 := szR_ok qh6 (by omega)
  try have sbh6 := szR_b qh6 (by omega) (by first | assumption | omega)
  try have snh6 := szR_no qh6
  refine WC.r1 hs4 [] rfl (WC.ret (tkR ?_))
  clear hK5
  refine rtv rfl rfl hs4 ?_
  simp only [totDepot, totDisk, DepotR.dat, DiskR.dat] at * <;> first | (rw [szR_lt (by omega)]; done) | (refine congrArg (Value.int _) ?_; symm; refine (szR_le ?_).trans ?_ <;> omega) | rfl
 try have soh6 := szR_ok qh6 (by omega)
 try have sbh6 := szR_b qh6 (by omega) (by first | assumption | omega)
 try have snh6 := szR_no qh6
 refine WC.skip (hK5 _ _ (WC.r1 hs4 [] rfl (WC.ret (rtv rfl rfl hs4 ?_))))
 simp only [totDepot, totDisk, DepotR.dat, DiskR.dat] at * <;> first | (rw [szR_lt (by omega)]; done) | (refine congrArg (Value.int _) ?_; symm; refine (szR_le ?_).trans ?_ <;> omega) | rfl
set_option maxHeartbeats 4000000 in
theorem k141_ (a : DepotR) (w : World) (f_a : okDepotR 549755813888 w a) :
    Calls Tryz.prog 12 #[.agg #[i64 a.Disk.Room, i64 a.Disk.Fuse, i64 a.Disk.Next, .slice a.Disk.Files.A a.Disk.Files.n a.Disk.Files.c, .slice a.Disk.Kept.A a.Disk.Kept.n a.Disk.Kept.c, .slice a.Disk.Turns.A a.Disk.Turns.n a.Disk.Turns.c, i64 a.Gen, i64 a.Seq, i64 a.Size, .bool a.Stuck]] w fun e w' => ∃ r L1, e = .returned (.agg #[i64 r.Disk.Room, i64 r.Disk.Fuse, i64 r.Disk.Next, .slice r.Disk.Files.A r.Disk.Files.n r.Disk.Files.c, .slice r.Disk.Kept.A r.Disk.Kept.n r.Disk.Kept.c, .slice r.Disk.Turns.A r.Disk.Turns.n r.Disk.Turns.c, i64 r.Gen, i64 r.Seq, i64 r.Size, .bool r.Stuck]) ∧ St w [] L1 w' ∧ ownDepotR r L1 ∧ r.dat = a.dat := by
 have nb_a_Disk_Files := f_a.Disk.Files_n
 have nl_a_Disk_Files := f_a.Disk.Files.sl.len
 have nb_a_Disk_Kept := f_a.Disk.Kept_n
 have nl_a_Disk_Kept := f_a.Disk.Kept.len
 have nb_a_Disk_Turns := f_a.Disk.Turns_n
 have nl_a_Disk_Turns := f_a.Disk.Turns.len
 refine enter 21 Tryz.func12 rfl Tryz.ntmps12 rfl rfl ?_
 have hs1 := St.init w
 refine WC.sr (WL.bx hs1 rfl (fun b2 _ hs3 => WL.al hs3 Tryz.zeroValue36 rfl rfl (fun b4 _ hs5 => WL.nil (WC.sr (WL.al hs5 Tryz.zeroValue36 rfl rfl (fun b6 _ hs7 => WL.nil (WC.sr ?_)))))))
 refine WL.r 2 hs7 [2] rfl (WL.cl Tryz.call28 rfl (k56_ a.Disk _ (okDiskR.st0 f_a.Disk hs7)) ?_)
 rintro _ whs8 ⟨r9, L1_10, rfl, hs8, ho11, hd12⟩
 replace hs8 := hs7.callF hs8
 refine ⟨_, rfl, ?_⟩
 replace hs8 := St.back [_, _, _] hs8
 refine WL.r 1 hs8 [] rfl (WL.st tbk hs8 0 rfl rfl (fun _ hs13 => WL.nil (WC.sr (WL.r 3 hs13 [2] rfl (WL.st tbk hs13 0 rfl rfl (fun _ hs14 => WL.nil (WC.sr ?_)))))))
 refine WL.r 3 hs14 [2] rfl (WL.st tbk hs14 0 rfl rfl (fun _ hs15 => WL.nil (WC.sr (WL.r 3 hs15 [2] rfl (WL.st tbk hs15 0 rfl rfl (fun _ hs16 => WL.nil (WC.sr ?_)))))))
 refine WL.r 3 hs16 [2] rfl (WL.st tbk hs16 0 rfl rfl (fun _ hs17 => WL.nil (WC.sr (WL.r 1 hs17 [0] rfl (WL.st tbk hs17 1 rfl rfl (fun _ hs18 => WL.nil (WC.ret ?_)))))))
 refine retV1 rfl (resV.cellA tbk hs18 1 rfl rfl rfl rfl) ?_
 obtain ⟨L19, L20, L21, hs25, ho22, ho23, ho24⟩ := ownDiskR.op hs18 ho11
 have hs26 := (((hs25.fb b2).fb b4).fb b6)
 obtain ⟨L28, hs27, ho29⟩ := ownDepotR.fl hs26 ho22 ho23 ho24
 have hs30 := (((hs27.fb b2).fb b4).fb b6)
 refine ⟨⟨⟨r9.Room, r9.Fuse, r9.Next, SlD.ofN ho22, SlD.of ho23, SlD.of ho24⟩, a.Gen, a.Seq, a.Size, a.Stuck⟩, _, rfl, (St.keep1 (hs30.fr L28)), ?_, ?_⟩
 · exact (by exact ho29)
 · exact DepotD.ext' hd12 rfl rfl rfl rfl
set_option maxHeartbeats 4000000 in
theorem k142_ (a : DepotR) (b : DepotR) (w : World) (f_a : okDepotR 549755813888 w a) (f_b : okDepotR 549755813888 w b) (hab : a.dat = b.dat) :
    Calls Tryz.prog 14 #[.agg #[i64 a.Disk.Room, i64 a.Disk.Fuse, i64 a.Disk.Next, .slice a.Disk.Files.A a.Disk.Files.n a.Disk.Files.c, .slice a.Disk.Kept.A a.Disk.Kept.n a.Disk.Kept.c, .slice a.Disk.Turns.A a.Disk.Turns.n a.Disk.Turns.c, i64 a.Gen, i64 a.Seq, i64 a.Size, .bool a.Stuck], .agg #[i64 b.Disk.Room, i64 b.Disk.Fuse, i64 b.Disk.Next, .slice b.Disk.Files.A b.Disk.Files.n b.Disk.Files.c, .slice b.Disk.Kept.A b.Disk.Kept.n b.Disk.Kept.c, .slice b.Disk.Turns.A b.Disk.Turns.n b.Disk.Turns.c, i64 b.Gen, i64 b.Seq, i64 b.Size, .bool b.Stuck]] w fun e w' => e = .returned (.bool true) ∧ St w [] [] w' := by
 have nb_a_Disk_Files := f_a.Disk.Files_n
 have nl_a_Disk_Files := f_a.Disk.Files.sl.len
 have nb_a_Disk_Kept := f_a.Disk.Kept_n
 have nl_a_Disk_Kept := f_a.Disk.Kept.len
 have nb_a_Disk_Turns := f_a.Disk.Turns_n
 have nl_a_Disk_Turns := f_a.Disk.Turns.len
 have nb_b_Disk_Files := f_b.Disk.Files_n
 have nl_b_Disk_Files := f_b.Disk.Files.sl.len
 have nb_b_Disk_Kept := f_b.Disk.Kept_n
 have nl_b_Disk_Kept := f_b.Disk.Kept.len
 have nb_b_Disk_Turns := f_b.Disk.Turns_n
 have nl_b_Disk_Turns := f_b.Disk.Turns.len
 have e_Disk : a.Disk.dat = b.Disk.dat := congrArg (fun d : DepotD => d.Disk) hab
 have e_Disk_Room : a.Disk.Room = b.Disk.Room := congrArg (fun d : DepotD => d.Disk.Room) hab
 have e_Disk_Fuse : a.Disk.Fuse = b.Disk.Fuse := congrArg (fun d : DepotD => d.Disk.Fuse) hab
 have e_Disk_Next : a.Disk.Next = b.Disk.Next := congrArg (fun d : DepotD => d.Disk.Next) hab
 have e_Disk_Files : a.Disk.Files.xs.map FileR.dat = b.Disk.Files.xs.map FileR.dat := congrArg (fun d : DepotD => d.Disk.Files) hab
 have e_Disk_Kept : a.Disk.Kept.xs = b.Disk.Kept.xs := congrArg (fun d : DepotD => d.Disk.Kept) hab
 have e_Disk_Turns : a.Disk.Turns.xs = b.Disk.Turns.xs := congrArg (fun d : DepotD => d.Disk.Turns) hab
 have e_Gen : a.Gen = b.Gen := congrArg (fun d : DepotD => d.Gen) hab
 have e_Seq : a.Seq = b.Seq := congrArg (fun d : DepotD => d.Seq) hab
 have e_Size : a.Size = b.Size := congrArg (fun d : DepotD => d.Size) hab
 have e_Stuck : a.Stuck = b.Stuck := congrArg (fun d : DepotD => d.Stuck) hab
 refine enter 31 Tryz.func14 rfl Tryz.ntmps14 rfl rfl ?_
 have hs1 := St.init w
 refine WC.sr (WL.bx hs1 rfl (fun b2 _ hs3 => WL.bx hs3 rfl (fun b4 _ hs5 => WL.r 1 hs5 [] rfl (WL.nil (WC.seq (fun K6 hK6 => WC.sr (WL.r 4 hs5 [1, 0] rfl ?_)))))))
 refine WL.cl Tryz.call30 rfl (k57_ a.Disk b.Disk _ (okDiskR.st0 f_a.Disk hs5) (okDiskR.st0 f_b.Disk hs5) ?_) ?_
 · first | assumption | rfl | omega
 rintro _ whs7 ⟨rfl, hs7⟩
 replace hs7 := hs5.call0 hs7
 refine ⟨_, rfl, WL.r 1 hs7 [] rfl (WL.nil (WC.condF rfl (by simp [e_Disk_Room, e_Disk_Fuse, e_Disk_Next, e_Gen, e_Seq, e_Size, e_Stuck]) (WC.skip (hK6 _ _ (WC.seq (fun K9 hK9 => WC.r1 hs7 [1, 0] rfl ?_))))))⟩
 refine WC.condF rfl (by simp [e_Disk_Room, e_Disk_Fuse, e_Disk_Next, e_Gen, e_Seq, e_Size, e_Stuck]) (WC.skip (hK9 _ _ (WC.seq (fun K11 hK11 => WC.r1 hs7 [1, 0] rfl (WC.condF rfl (by simp [e_Disk_Room, e_Disk_Fuse, e_Disk_Next, e_Gen, e_Seq, e_Size, e_Stuck]) (WC.skip (hK11 _ _ ?_)))))))
 refine WC.seq (fun K13 hK13 => WC.r1 hs7 [1, 0] rfl (WC.condF rfl (by simp [e_Disk_Room, e_Disk_Fuse, e_Disk_Next, e_Gen, e_Seq, e_Size, e_Stuck]) (WC.skip (hK13 _ _ (WC.seq (fun K15 hK15 => WC.r1 hs7 [1, 0] rfl (WC.condF rfl (by simp [e_Disk_Room, e_Disk_Fuse, e_Disk_Next, e_Gen, e_Seq, e_Size, e_Stuck]) ?_)))))))
 refine WC.skip (hK15 _ _ (WC.r1 hs7 [] rfl (WC.ret (rtv rfl rfl hs7 ?_))))
 rfl
theorem digB_zero (f : Nat) (a : List UInt8) : digB f 0 a = a := by
 cases f with
 | zero => rfl
 | succ f => unfold digB; rw [if_pos rfl]
theorem digB_step {f n : Nat} {a : List UInt8} (h : n < 10 ^ f) (h0 : 0 < n) : n / 10 < 10 ^ (f - 1) ∧ digB f n a = digB (f - 1) (n / 10) (ub (48 + ((n % 10 : Nat) : Int)) :: a) := by
 cases f with
 | zero => rw [Nat.pow_zero] at h; omega
 | succ f =>
  rw [Nat.add_sub_cancel]
  refine ⟨?_, ?_⟩
  ·rw [Nat.pow_succ] at h
   omega
  ·rw [digB, if_neg (by omega)]
theorem digB_room {f n : Nat} {a : List UInt8} {b : UInt8} (h : n < 10 ^ f) (h0 : 0 < n) (hl : a.length + f ≤ 40) : (b :: a).length + (f - 1) ≤ 40 := by
 cases f with
 | zero => rw [Nat.pow_zero] at h; omega
 | succ f => rw [List.length_cons]; omega
theorem k143_ (k : Int) (w : World) (hk : k ≤ 1099511627776) :
    Calls Tryz.prog 138 #[i64 k] w fun e w' => e = .returned (.string (markText k)) ∧ St w [] [] w' := by
 refine enter 20 Tryz.func138 rfl Tryz.ntmps138 rfl rfl ?_
 have hs1 := St.init w
 refine WC.r1 hs1 [] rfl (WC.seq (fun K2 hK2 => WC.r1 hs1 [] rfl ?_))
 refine WC.cD rfl (fun qh3 => ?_) (fun qh3 => ?_)
 ·refine WC.r1 hs1 [] rfl (WC.ret (tkR ?_))
  clear hK2
  refine rtv rfl rfl hs1 ?_
  rw [show markText k = ⟨#[109, 48]⟩ from by unfold markText; rw [if_pos (by omega)]]
 refine WC.skip (hK2 _ _ (WC.r1 hs1 [] rfl (WC.seq (fun K4 hK4 => WC.block ?_))))
 refine WC.lS [2, 5] rfl hs1 (fun k_ f w' => ∃ (d n : Nat) (z : List UInt8), k_ = n + n ∧ (n < 10 ^ d) ∧ (digB 40 k.toNat [] = digB d n z) ∧ (z.length + d ≤ 40) ∧ (n ≤ 1099511627776) ∧ Sub [(0, .int .i64 (n : Int)), (3, .string ⟨z.toArray⟩)] f) ((fun (d n : Nat) (z : List UInt8) => n + n) (40) (k.toNat) ([])) ?_ ?_
 ·refine ⟨40, k.toNat, [], rfl, ?_, ?_, ?_, ?_, ⟨?_, ?_, trivial⟩⟩
  · exact Nat.lt_of_le_of_lt (by omega : k.toNat ≤ 1099511627776) (by decide)
  · rfl
  · exact Nat.le_refl _
  · omega
  · (refine congrArg some (congrArg (Value.int _) ?_); omega)
  · rfl
 clear hs1
 rintro _ f w ⟨d, n, z, rfl, p0, p1, p2, p3, hG⟩ hF hs5
 refine WC.sub _ (hG.app hF) ?_
 clear hG hF
 refine WC.seq (fun K6 hK6 => WC.r1 hs5 [] rfl ?_)
 refine WC.cD rfl (fun qh7 => ?_) (fun qh7 => ?_)
 ·refine WC.skip (hK6 _ _ (WC.block (WC.sr (WL.r 1 hs5 [] rfl ?_))))
  refine WL.val rfl rfl rfl (Run.rem rfl rfl rfl ?_ ?_) ?_
  · omega
  · omega
  refine WL.r 2 hs5 [] rfl (WL.buildSlice hs5 Tryz.runUnderlying43 Tryz.sizeOf5 Tryz.zeroValue5 rfl rfl rfl rfl rfl rfl rfl rfl rfl rfl (fun b8 whs9 hs9 => WL.val rfl rfl rfl (Run.strOf (SlF.own1 (hs9.own _ (nthL_mem (i := 0) rfl)).1) Tryz.underlying43 Tryz.underlying5 Tryz.underlying9 rfl rfl) (WL.r 1 hs9 [] rfl ?_)))
  refine WL.val rfl rfl rfl (Run.addS rfl rfl rfl ?_) ?_
  · (show List.length _ + List.length _ ≤ _; simp; omega)
  refine WL.r 1 hs9 [] rfl (WL.nil (WC.region (WL.r 1 hs9 [] rfl (WL.val rfl rfl rfl (Run.quo rfl rfl rfl ?_ ?_ ?_) ?_))))
  · omega
  · omega
  · omega
  refine WL.r 1 hs9 [] rfl (WL.nil (ibN (tkN (⟨sbF rfl, (hs9.drop (by repeat (first | exact List.Sublist.refl _ | exact List.sublist_append_left _ _ | exact List.Sublist.trans (List.sublist_append_left _ _) (List.sublist_append_left _ _) | apply List.Sublist.cons | refine List.Sublist.trans ?_ (sR _)))), _, ?_, (d - 1), (n / 10), (ub (48 + ((n % 10 : Nat) : Int)) :: z), rfl, ?_, ?_, ?_, ?_, ⟨?_, ?_, trivial⟩⟩))))
  · omega
  · exact (digB_step (f := d) (n := n) (a := z) p0 (by omega)).1
  · exact p1.trans (digB_step (f := d) (n := n) (a := z) p0 (by omega)).2
  · exact digB_room p0 (by omega) p2
  · omega
  · (refine congrArg some (congrArg (Value.int _) ?_); omega)
  · (refine congrArg some (congrArg Value.string ?_); first | rfl | exact ByteArray.ext (by simp))
 refine WC.exit (hK4 _ _ (WC.sr (WL.r 1 hs5 [] rfl ?_)))
 refine WL.val rfl rfl rfl (Run.addS rfl rfl rfl ?_) ?_
 · (show List.length _ + List.length _ ≤ _; simp; omega)
 refine WL.r 1 hs5 [] rfl (WL.nil (WC.ret (rtv rfl rfl hs5 ?_)))
 rw [show markText k = ⟨(109 :: z).toArray⟩ from by unfold markText; rw [if_neg (by omega), p1, show n = 0 by omega, digB_zero]]; first | rfl | (congr 1; exact ByteArray.ext (by simp))
end Go.Proofs.YtcpnlodkmkfplaaGreatDoor
