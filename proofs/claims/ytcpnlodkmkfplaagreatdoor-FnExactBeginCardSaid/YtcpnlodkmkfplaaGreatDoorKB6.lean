/-
  The statement: for every input the law returns true. No condition. (And what it stands on, the last part.)
-/
import Derived.Test.YtcpnlodkmkfplaaGreatDoorKB5
namespace Go.Proofs.YtcpnlodkmkfplaaGreatDoor
open Go Go.RowKit
set_option linter.unusedVariables false
set_option linter.unusedSimpArgs false
set_option maxHeartbeats 8000000 in
theorem k145_ (aD : DiskR) (aGen : Int) (aSeq : Int) (A_aData : Option Addr) (n_aData c_aData : Nat) (aData : List UInt8) (w : World) (f_aD : okDiskR 9223372036854775807 w aD) (f_aData : SlF encB w A_aData n_aData aData) (hl9 : LibOk w) :
    Calls Tryz.prog 6 #[.agg #[i64 aD.Room, i64 aD.Fuse, i64 aD.Next, .slice aD.Files.A aD.Files.n aD.Files.c, .slice aD.Kept.A aD.Kept.n aD.Kept.c, .slice aD.Turns.A aD.Turns.n aD.Turns.c], i64 aGen, i64 aSeq, .slice A_aData n_aData c_aData] w fun e w' => e = .returned (.bool true) ∧ St w [] [] w' := by
 have nb_aD_Files := f_aD.Files_n
 have nl_aD_Files := f_aD.Files.sl.len
 have nb_aD_Kept := f_aD.Kept_n
 have nl_aD_Kept := f_aD.Kept.len
 have nb_aD_Turns := f_aD.Turns_n
 have nl_aD_Turns := f_aD.Turns.len
 refine enter 127 Tryz.func6 rfl Tryz.ntmps6 rfl rfl ?_
 have hs1 := St.init w
 refine WC.sr (WL.bx hs1 rfl (fun b2 _ hs3 => WL.r 1 hs3 [] rfl (WL.nil (WC.seq (fun K4 hK4 => WC.r1 hs3 [] rfl ?_)))))
 refine WC.cD rfl (fun qh5 => ?_) (fun qh5 => ?_)
 ·refine WC.r1 hs3 [] rfl (WC.ret (tkR ?_))
  clear hK4
  refine rtv rfl rfl hs3 ?_
  rfl
 have hn : n_aData ≤ 1048576 := by have h9 := qh5; first | omega | (simp at h9; omega)
 have hbl := f_aData.len
 refine WC.skip (hK4 _ _ (WC.r1 hs3 [] rfl (WC.sr (WL.r 2 hs3 [0] rfl ?_))))
 refine WL.cl Tryz.call26 rfl (k50_ aD _ _ (okDiskR.st0 f_aD hs3) ?_ ?_) ?_
 · first | assumption | omega | exact lib_st hl9 (by assumption) | (simp only [endDepot, endDisk]; first | done | assumption | omega)
 · first | assumption | omega | exact szR_b (by assumption) (by omega) (by first | assumption | omega) | exact lib_st hl9 (by assumption) | (simp only [endDepot, endDisk]; first | done | assumption | omega)
 rintro _ whs6 ⟨rfl, hs6⟩
 replace hs6 := hs3.call0 hs6
 refine ⟨_, rfl, WL.r 1 hs6 [] rfl (WL.nil (WC.seq (fun K7 hK7 => WC.r1 hs6 [] rfl ?_)))⟩
 refine WC.cD rfl (fun qh8 => ?_) (fun qh8 => ?_)
 ·refine WC.r1 hs6 [] rfl (WC.ret (tkR ?_))
  clear hK7
  refine rtv rfl rfl hs6 ?_
  rfl
 simp only [szR] at qh8
 have hb_aD : totDisk aD.dat ≤ 1048576 := by split at qh8 <;> omega
 have hsm_aD : smDisk 1048576 aD.dat := totDisk_sm hb_aD
 have hsB_aD : smDisk 549755813888 aD.dat := totDisk_sm (by omega)
 have f_aD := f_aD.to hsB_aD
 have hbD : totDisk aD.dat ≤ 1048576 := hb_aD
 have hT : totDepot (beginD aD.dat aGen aSeq aData) ≤ 1048576 := begin_tot
 have hTB : smDepot 549755813888 (beginD aD.dat aGen aSeq aData) := totDepot_sm (by omega)
 refine WC.skip (hK7 _ _ (WC.sr (WL.r 1 hs6 [0] rfl (WL.cl Tryz.call28 rfl (k51_ aD _ (okDiskR.st0 f_aD hs6)) ?_))))
 rintro _ whs9 ⟨r10, L1_11, rfl, hs9, ho12, hd13⟩
 replace hs9 := hs6.callF hs9
 refine ⟨_, rfl, ?_⟩
 replace hs9 := St.back [_] hs9
 refine WL.r 3 hs9 [] rfl (WL.cl Tryz.call18 rfl (k5_ _ _ _ _ _ (SlF.st0 f_aData hs9) ?_) ?_)
 · first | assumption | rfl | omega | exact lib_st hl9 (by assumption) | (simp only [hd13, endDepot, endDisk]; first | done | assumption | omega)
 rintro _ whs14 ⟨A15, c16, L1_17, rfl, hs14, ho18⟩
 replace hs14 := hs9.callF hs14
 refine ⟨_, rfl, ?_⟩
 replace hs14 := St.back [_] hs14
 refine WL.cl Tryz.call27 rfl (k132_ r10 _ _ _ _ _ _ _ (ownDiskR.ok (B := 549755813888) ho12 (hs14.ow L1_11) (by rw [hd13]; assumption)) (SlF.ofOwn ho18 (hs14.ow L1_17)) ?_ ?_) ?_
 iterate 2 focus first | assumption | rfl | omega | exact lib_st hl9 (by assumption) | (simp only [hd13, endDepot, endDisk]; first | done | assumption | omega)
 rintro _ whs19 ⟨r20, L1_21, rfl, hs19, ho22, hd23⟩
 try simp only [hd13] at hd23
 replace hs19 := hs14.callF hs19
 refine ⟨_, rfl, ?_⟩
 replace hs19 := St.back [_] hs19
 refine WL.r 3 hs19 [] rfl (WL.al hs19 Tryz.zeroValue36 rfl rfl (fun b24 _ hs25 => WL.st tbk hs25 0 rfl rfl (fun _ hs26 => WL.r 1 hs26 [] rfl (WL.nil (WC.sr (WL.r 1 hs26 [1] rfl (WL.cl Tryz.call28 rfl (k51_ aD _ (okDiskR.st0 f_aD hs26)) ?_)))))))
 rintro _ whs27 ⟨r28, L1_29, rfl, hs27, ho30, hd31⟩
 try simp only [hd13, hd23] at hd31
 replace hs27 := hs26.callF hs27
 refine ⟨_, rfl, ?_⟩
 replace hs27 := St.back [_, _] hs27
 have el0 := endDisk_le 1 r28
 rw [hd31] at el0
 have eg0 := endDisk_ge 1 r28
 have eb0 : endDisk 1 r28 ≤ 549755813888 := by omega
 have en0_Files : r28.Files.xs.length ≤ 549755813888 := by have h1 := tots_len totFile (r28.Files.xs.map FileR.dat); rw [List.length_map] at h1; have h2 : totDisk r28.dat ≤ 1048576 := (by rw [hd31]; exact hb_aD); simp only [DiskR.dat, totDisk] at h2; omega
 refine WL.al hs27 Tryz.zeroValue34 rfl rfl (fun b32 _ hs33 => WL.st tbk hs33 0 rfl rfl (fun _ hs34 => WL.nil (WC.sr (WL.r 1 hs34 [] rfl ?_))))
 refine WL.cl Tryz.call18 rfl (k5_ _ _ _ _ _ (SlF.st0 f_aData hs34) ?_) ?_
 · first | assumption | rfl | omega | exact lib_st hl9 (by assumption) | (simp only [hd13, hd23, hd31, endDepot, endDisk]; first | done | assumption | omega)
 rintro _ whs35 ⟨A36, c37, L1_38, rfl, hs35, ho39⟩
 replace hs35 := hs34.callF hs35
 refine ⟨_, rfl, ?_⟩
 replace hs35 := St.back [_, _, _] hs35
 refine WL.r 1 hs35 [] rfl (WL.nil (WC.sr (WL.r 4 hs35 [0] rfl ?_)))
 refine WL.cl Tryz.call29 rfl (k131_ r28 _ _ _ _ _ _ _ (ownDiskR.ok (B := 549755813888) ho30 (hs35.ow L1_29) (by rw [hd31]; assumption)) (SlF.ofOwn ho39 (hs35.ow L1_38)) ?_ ?_ ?_) ?_
 iterate 3 focus first | assumption | rfl | omega | exact lib_st hl9 (by assumption) | (simp only [hd13, hd23, hd31, endDepot, endDisk]; first | done | assumption | omega)
 rintro _ whs40 ⟨r41, L1_42, rfl, hs40, ho43, hd44⟩
 try simp only [hd13, hd23, hd31] at hd44
 replace hs40 := hs35.callF hs40
 refine ⟨_, rfl, ?_⟩
 replace hs40 := St.back [_, _, _] hs40
 have el1 := endDepot_le 1 r41
 rw [hd44] at el1
 have eg1 := endDepot_ge 1 r41
 have eb1 : endDepot 1 r41 ≤ 549755813888 := by omega
 have en1_Disk_Files : r41.Disk.Files.xs.length ≤ 549755813888 := by have h1 := tots_len totFile (r41.Disk.Files.xs.map FileR.dat); rw [List.length_map] at h1; have h2 : totDepot r41.dat ≤ 1048576 := (by rw [hd44]; exact hT); simp only [DepotR.dat, DiskR.dat, totDepot, totDisk] at h2; omega
 refine WL.r 3 hs40 [] rfl (WL.al hs40 Tryz.zeroValue36 rfl rfl (fun b45 _ hs46 => WL.st tbk hs46 0 rfl rfl (fun _ hs47 => WL.r 1 hs47 [] rfl (WL.nil (WC.seq (fun K48 hK48 => WC.sr (WL.r 2 hs47 [0, 2] rfl ?_)))))))
 refine WL.cl Tryz.call14 rfl (k133_ r41 r20 _ (ownDepotR.ok (B := 549755813888) ho43 (hs47.ow L1_42) (by rw [hd44]; assumption)) (ownDepotR.ok (B := 549755813888) ho22 (hs47.ow L1_21) (by rw [hd23]; assumption)) ?_) ?_
 · first | assumption | rfl | omega | exact lib_st hl9 (by assumption) | (simp only [hd13, hd23, hd31, hd44, endDepot, endDisk]; first | done | assumption | omega)
 rintro _ whs49 ⟨rfl, hs49⟩
 replace hs49 := hs47.call0 hs49
 refine ⟨_, rfl, WL.r 2 hs49 [] rfl (WL.pO tbk 3 Acts.nil hs49 [] rfl rfl rfl rfl (fun g_ => trivial) (WL.nil ?_))⟩
 refine WC.condF rfl (by first | (simp; done) | (simp; omega) | (simp [hd13, hd23, hd31, hd44]; done) | (simp [hd13, hd23, hd31, hd44]; omega) | (simp only [endDepot, endDisk]; simp; omega)) (WC.skip (hK48 _ _ (WC.seq (fun K51 hK51 => WC.seq (fun K52 hK52 => WC.rH hs49 hs49 (fun _ hs53 => ?_))))))
 refine WH.rn [0, 1] hs53 [1, 3] rfl rfl (WH.o1 2 rfl (WL.cl Tryz.call28 rfl (k51_ aD _ (okDiskR.st0 f_aD hs53)) ?_))
 rintro _ whs54 ⟨r55, L1_56, rfl, hs54, ho57, hd58⟩
 try simp only [hd13, hd23, hd31, hd44] at hd58
 replace hs54 := hs53.callF hs54
 refine ⟨_, rfl, ?_⟩
 replace hs54 := St.back [_, _, _, _] hs54
 refine WL.nil ⟨(hs54.rm L1_56), WH.o1 3 rfl ?_⟩
 refine WL.cl Tryz.call30 rfl (k52_ r28 r55 _ (ownDiskR.ok (B := 549755813888) ho30 (hs54.ow L1_29) (by rw [hd31]; assumption)) (ownDiskR.ok (B := 549755813888) ho57 (hs54.ow L1_56) (by rw [hd58]; assumption)) ?_) ?_
 · first | assumption | rfl | omega | exact lib_st hl9 (by assumption) | (simp only [hd13, hd23, hd31, hd44, hd58, endDepot, endDisk]; first | done | assumption | omega)
 rintro _ whs59 ⟨rfl, hs59⟩
 replace hs59 := hs54.call0 hs59
 refine ⟨_, rfl, WL.nil ⟨(hs59.rm L1_56), WH.rn [4] (hs59.rm L1_56) [] rfl rfl (WH.dn (hK52 _ _ ?_))⟩⟩
 refine WC.condF rfl (by first | (simp; done) | (simp; omega) | (simp [hd13, hd23, hd31, hd44, hd58]; done) | (simp [hd13, hd23, hd31, hd44, hd58]; omega) | (simp only [endDepot, endDisk]; simp; omega)) (WC.skip (hK51 _ _ (WC.seq (fun K61 hK61 => WC.sr (WL.r 2 hs59 [] rfl ?_)))))
 refine WL.cl Tryz.call18 rfl (k5_ _ _ _ _ _ (SlF.st0 f_aData hs59) ?_) ?_
 · first | assumption | rfl | omega | exact lib_st hl9 (by assumption) | (simp only [hd13, hd23, hd31, hd44, hd58, endDepot, endDisk]; first | done | assumption | omega)
 rintro _ whs62 ⟨A63, c64, L1_65, rfl, hs62, ho66⟩
 replace hs62 := hs59.callF hs62
 refine ⟨_, rfl, ?_⟩
 replace hs62 := St.back [_, _, _, _] hs62
 refine WL.cl Tryz.call20 rfl (k6_ _ _ _ _ _ _ _ _ _ (SlF.ofOwn ho39 (hs62.ow L1_38)) (SlF.ofOwn ho66 (hs62.ow L1_65)) ?_ ?_) ?_
 iterate 2 focus first | assumption | rfl | omega | exact lib_st hl9 (by assumption) | (simp only [hd13, hd23, hd31, hd44, hd58, endDepot, endDisk]; first | done | assumption | omega)
 rintro _ whs67 ⟨rfl, hs67⟩
 replace hs67 := hs62.call0 hs67
 refine ⟨_, rfl, WL.r 1 hs67 [] rfl (WL.nil ?_)⟩
 refine WC.condF rfl (by first | (simp; done) | (simp; omega) | (simp [hd13, hd23, hd31, hd44, hd58]; done) | (simp [hd13, hd23, hd31, hd44, hd58]; omega) | (simp only [endDepot, endDisk]; simp; omega)) (WC.skip (hK61 _ _ (WC.r1 hs67 [] rfl (WC.sr (WL.r 2 hs67 [1] rfl ?_)))))
 refine WL.cl Tryz.call31 rfl (k141_ r28 _ _ _ ho30 (hs67.ow L1_29) (St.nodupL (hs67.fr L1_29)) ?_ ?_ ?_) ?_
 · first | assumption | omega | exact lib_st hl9 (by assumption) | (simp only [hd13, hd23, hd31, hd44, hd58, endDepot, endDisk]; first | done | assumption | omega)
 · first | assumption | omega | (simp only [endDisk]; omega) | exact lib_st hl9 (by assumption) | (simp only [hd13, hd23, hd31, hd44, hd58, endDepot, endDisk]; first | done | assumption | omega)
 · first | assumption | omega | exact lib_st hl9 (by assumption) | (simp only [hd13, hd23, hd31, hd44, hd58, endDepot, endDisk]; first | done | assumption | omega)
 rintro _ whs69 ⟨L1_70, rfl, hs69, ho71⟩
 replace hs69 := St.lend (hs67.fr L1_29) hs69
 refine ⟨_, rfl, ?_⟩
 replace hs69 := St.back [_, _, _, _] hs69
 refine WL.r 1 hs69 [] rfl (WL.nil (WC.sr (WL.r 2 hs69 [] rfl (WL.cl Tryz.call21 rfl (k7_ _ _ _ _ _ ho39 (hs69.ow L1_38) ?_ ?_ ?_) ?_))))
 iterate 3 focus first | assumption | rfl | omega | exact lib_st hl9 (by assumption) | (simp only [hd13, hd23, hd31, hd44, hd58, endDepot, endDisk]; first | done | assumption | omega)
 rintro _ whs72 ⟨L1_73, rfl, hs72, ho74⟩
 replace hs72 := St.lend (hs69.fr L1_38) hs72
 refine ⟨_, rfl, ?_⟩
 replace hs72 := St.back [_, _, _, _] hs72
 refine WL.r 1 hs72 [] rfl (WL.nil (WC.seq (fun K75 hK75 => WC.sr (WL.r 3 hs72 [] rfl ?_))))
 apply WL.gO 4 Acts.nil hs72 rfl
 ·intro g76 J77
  have qg76 := g76
  try simp only [bf, within_iff, within_not] at qg76
  refine WL.runA tbk 2 (Acts.nil.cons (j := 2) rfl g76) hs72 [0, 2] rfl ⟨rfl, rfl, trivial⟩ ?_
  refine WL.call (wantF rfl g76) rfl rfl (Run.call Tryz.call14 rfl rfl rfl) (k133_ r41 r20 _ (ownDepotR.ok (B := 549755813888) ho43 (hs72.ow L1_42) (by rw [hd44]; assumption)) (ownDepotR.ok (B := 549755813888) ho22 (hs72.ow L1_21) (by rw [hd23]; assumption)) ?_) ?_
  · first | assumption | rfl | omega | exact lib_st hl9 (by assumption) | (simp only [hd13, hd23, hd31, hd44, hd58, endDepot, endDisk]; first | done | assumption | omega)
  rintro _ whs78 ⟨rfl, hs78⟩
  replace hs78 := hs72.call0 hs78
  refine ⟨_, rfl, WL.runA tbk 1 (Acts.nil.cons (j := 2) rfl g76) hs78 [] rfl trivial (WL.eO 4 Acts.nil J77 hs78 g76 rfl rfl)⟩
 intro _ hs79
 refine WL.r 1 hs79 [] rfl (WL.pO tbk 3 Acts.nil hs79 [] rfl rfl rfl rfl (fun g_ => trivial) (WL.nil ?_))
 refine WC.condF rfl (by first | (simp; done) | (simp; omega) | (simp [hd13, hd23, hd31, hd44, hd58]; done) | (simp [hd13, hd23, hd31, hd44, hd58]; omega) | (simp only [endDepot, endDisk]; simp; omega)) (WC.skip (hK75 _ _ (WC.r1 hs79 [] rfl (WC.sr (WL.r 2 hs79 [0] rfl ?_)))))
 refine WL.cl Tryz.call15 rfl (k143_ r41 _ _ _ ho43 (hs79.ow L1_42) (St.nodupL (hs79.fr L1_42)) ?_ ?_ ?_) ?_
 · first | assumption | omega | exact lib_st hl9 (by assumption) | (simp only [hd13, hd23, hd31, hd44, hd58, endDepot, endDisk]; first | done | assumption | omega)
 · first | assumption | omega | (simp only [endDepot, endDisk]; omega) | exact lib_st hl9 (by assumption) | (simp only [hd13, hd23, hd31, hd44, hd58, endDepot, endDisk]; first | done | assumption | omega)
 · first | assumption | omega | exact lib_st hl9 (by assumption) | (simp only [hd13, hd23, hd31, hd44, hd58, endDepot, endDisk]; first | done | assumption | omega)
 rintro _ whs81 ⟨L1_82, rfl, hs81, ho83⟩
 replace hs81 := St.lend (hs79.fr L1_42) hs81
 refine ⟨_, rfl, ?_⟩
 replace hs81 := St.back [_, _, _, _] hs81
 refine WL.r 1 hs81 [] rfl (WL.nil (WC.r1 hs81 [] rfl (WC.sr (WL.r 2 hs81 [0] rfl ?_))))
 refine WL.cl Tryz.call16 rfl (k144_ _ _ _ (ownDepotR.ok (B := 549755813888) ho83 (hs81.ow L1_82) (markDepot_sm (by rw [hd44]; assumption))) ?_ ?_) ?_
 · first | assumption | omega | exact lib_st hl9 (by assumption) | (simp only [hd13, hd23, hd31, hd44, hd58, endDepot, endDisk]; first | done | assumption | omega)
 · first | assumption | omega | (simp only [endDepot, endDisk]; omega) | exact lib_st hl9 (by assumption) | (simp only [hd13, hd23, hd31, hd44, hd58, endDepot, endDisk]; first | done | assumption | omega)
 rintro _ whs84 ⟨rfl, hs84⟩
 replace hs84 := hs81.call0 hs84
 refine ⟨_, rfl, WL.r 1 hs84 [] rfl (WL.nil (WC.seq (fun K85 hK85 => WC.r1 hs84 [] rfl ?_)))⟩
 refine WC.condF rfl (by first | (simp; done) | (simp; omega) | (simp [hd13, hd23, hd31, hd44, hd58]; done) | (simp [hd13, hd23, hd31, hd44, hd58]; omega) | (simp only [endDepot, endDisk]; simp; omega)) (WC.skip (hK85 _ _ (WC.seq (fun K87 hK87 => WC.r1 hs84 [] rfl ?_))))
 refine WC.condF rfl (by first | (simp; done) | (simp; omega) | (simp [hd13, hd23, hd31, hd44, hd58]; done) | (simp [hd13, hd23, hd31, hd44, hd58]; omega) | (simp only [endDepot, endDisk]; simp; omega)) (WC.skip (hK87 _ _ (WC.sr (WL.r 1 hs84 [3] rfl (WL.cl Tryz.call28 rfl (k51_ aD _ (okDiskR.st0 f_aD hs84)) ?_)))))
 rintro _ whs89 ⟨r90, L1_91, rfl, hs89, ho92, hd93⟩
 try simp only [hd13, hd23, hd31, hd44, hd58] at hd93
 replace hs89 := hs84.callF hs89
 refine ⟨_, rfl, ?_⟩
 replace hs89 := St.back [_, _, _, _] hs89
 refine WL.r 3 hs89 [] rfl (WL.cl Tryz.call18 rfl (k5_ _ _ _ _ _ (SlF.st0 f_aData hs89) ?_) ?_)
 · first | assumption | rfl | omega | exact lib_st hl9 (by assumption) | (simp only [hd13, hd23, hd31, hd44, hd58, hd93, endDepot, endDisk]; first | done | assumption | omega)
 rintro _ whs94 ⟨A95, c96, L1_97, rfl, hs94, ho98⟩
 replace hs94 := hs89.callF hs94
 refine ⟨_, rfl, ?_⟩
 replace hs94 := St.back [_, _, _, _] hs94
 refine WL.cl Tryz.call29 rfl (k131_ r90 _ _ _ _ _ _ _ (ownDiskR.ok (B := 549755813888) ho92 (hs94.ow L1_91) (by rw [hd93]; assumption)) (SlF.ofOwn ho98 (hs94.ow L1_97)) ?_ ?_ ?_) ?_
 iterate 3 focus first | assumption | rfl | omega | exact lib_st hl9 (by assumption) | (simp only [hd13, hd23, hd31, hd44, hd58, hd93, endDepot, endDisk]; first | done | assumption | omega)
 rintro _ whs99 ⟨r100, L1_101, rfl, hs99, ho102, hd103⟩
 try simp only [hd13, hd23, hd31, hd44, hd58, hd93] at hd103
 replace hs99 := hs94.callF hs99
 refine ⟨_, rfl, ?_⟩
 replace hs99 := St.back [_, _, _, _] hs99
 refine WL.r 3 hs99 [] rfl (WL.al hs99 Tryz.zeroValue36 rfl rfl (fun b104 _ hs105 => WL.st tbk hs105 0 rfl rfl (fun _ hs106 => WL.r 1 hs106 [] rfl (WL.nil (WC.seq (fun K107 hK107 => WC.sr (WL.r 2 hs106 [0, 3] rfl ?_)))))))
 refine WL.cl Tryz.call14 rfl (k133_ r100 r20 _ (ownDepotR.ok (B := 549755813888) ho102 (hs106.ow L1_101) (by rw [hd103]; assumption)) (ownDepotR.ok (B := 549755813888) ho22 (hs106.ow L1_21) (by rw [hd23]; assumption)) ?_) ?_
 · first | assumption | rfl | omega | exact lib_st hl9 (by assumption) | (simp only [hd13, hd23, hd31, hd44, hd58, hd93, hd103, endDepot, endDisk]; first | done | assumption | omega)
 rintro _ whs108 ⟨rfl, hs108⟩
 replace hs108 := hs106.call0 hs108
 refine ⟨_, rfl, WL.r 2 hs108 [] rfl (WL.pO tbk 3 Acts.nil hs108 [] rfl rfl rfl rfl (fun g_ => trivial) (WL.nil ?_))⟩
 refine WC.condF rfl (by first | (simp; done) | (simp; omega) | (simp [hd13, hd23, hd31, hd44, hd58, hd93, hd103]; done) | (simp [hd13, hd23, hd31, hd44, hd58, hd93, hd103]; omega) | (simp only [endDepot, endDisk]; simp; omega)) (WC.skip (hK107 _ _ (WC.r1 hs108 [] rfl (WC.sr (WL.r 2 hs108 [1] rfl ?_)))))
 refine WL.cl Tryz.call16 rfl (k144_ _ _ _ (ownDepotR.ok (B := 549755813888) ho83 (hs108.ow L1_82) (markDepot_sm (by rw [hd44]; assumption))) ?_ ?_) ?_
 · first | assumption | omega | exact lib_st hl9 (by assumption) | (simp only [hd13, hd23, hd31, hd44, hd58, hd93, hd103, endDepot, endDisk]; first | done | assumption | omega)
 · first | assumption | omega | (simp only [endDepot, endDisk]; omega) | exact lib_st hl9 (by assumption) | (simp only [hd13, hd23, hd31, hd44, hd58, hd93, hd103, endDepot, endDisk]; first | done | assumption | omega)
 rintro _ whs110 ⟨rfl, hs110⟩
 replace hs110 := hs108.call0 hs110
 refine ⟨_, rfl, WL.r 1 hs110 [] rfl (WL.nil (WC.seq (fun K111 hK111 => WC.r1 hs110 [] rfl ?_)))⟩
 refine WC.condF rfl (by first | (simp; done) | (simp; omega) | (simp [hd13, hd23, hd31, hd44, hd58, hd93, hd103]; done) | (simp [hd13, hd23, hd31, hd44, hd58, hd93, hd103]; omega) | (simp only [endDepot, endDisk]; simp; omega)) (WC.skip (hK111 _ _ (WC.seq (fun K113 hK113 => WC.r1 hs110 [] rfl ?_))))
 refine WC.condF rfl (by first | (simp; done) | (simp; omega) | (simp [hd13, hd23, hd31, hd44, hd58, hd93, hd103]; done) | (simp [hd13, hd23, hd31, hd44, hd58, hd93, hd103]; omega) | (simp only [endDepot, endDisk]; simp; omega)) (WC.skip (hK113 _ _ (WC.r1 hs110 [] rfl (WC.ret (rtv rfl rfl hs110 ?_)))))
 rfl
open Go Go.RowKit Go.ChangeShapes Go.WideShapes Go.ChangeAt Go.Deep
theorem list_succ {n : Nat} {l : List Value} (h : l.length = n + 1) : ∃ c r, l = c :: r ∧ r.length = n := by
 cases l with
 | nil => simp at h
 | cons c r => exact ⟨c, r, rfl, by simpa using h⟩
theorem list_zero {l : List Value} (h : l.length = 0) : l = [] := List.eq_nil_of_length_eq_zero h
section
variable {H : Type} {enc : TypeId × Value → H} {P : Program} {w : World} {base : Nat} {spare : Nat → Bool} {held : Bool} {fuel : Nat} {t e : TypeId} {cs : List Value} {x : DataW H × List MemPlace}
theorem trod_flds {fs : Array Field} (ht : P.underlying t = some (.struct fs)) (h : DataW.trod enc P w base spare held fuel t cs = some x) :
  cs.length = P.cellsOf t ∧ ∃ n, ∀ (i : Nat) (f : Field), fs.toList[i]? = some f → ∃ y, DataW.trod enc P w base spare held n f.type ((cs.drop f.offset).take (P.cellsOf f.type)) = some y := by
 obtain ⟨xs, n, _, _, hl, hlen, hg⟩ := DataW.trod_struct ht h
 refine ⟨hl, n, fun i f hf => ?_⟩
 have hf' : fs[i]? = some f := by simpa using hf
 have hi : i < xs.length := by rw [hlen]; exact (Array.getElem?_eq_some_iff.1 hf').1
 exact ⟨xs[i], (hg i f hf').trans (List.getElem?_eq_getElem hi)⟩
theorem open_i64 (ht : P.underlying t = some (.int .i64)) (h : DataW.trod enc P w base spare held fuel t cs = some x) : ∃ n, cs = [i64 n] ∧ In64 n := by
 obtain ⟨n, rfl, _, hw⟩ := DataW.trod_int ht h
 refine ⟨n, rfl, ?_⟩
 simp [Lit.wf, IntKind.min, IntKind.max, IntKind.signed, IntKind.bits] at hw
 exact hw
theorem open_str (ht : P.underlying t = some .string) (h : DataW.trod enc P w base spare held fuel t cs = some x) : ∃ s, cs = [.string s] ∧ s.size ≤ 9223372036854775807 := by
 obtain ⟨s, rfl, _, hw⟩ := DataW.trod_string ht h
 exact ⟨s, rfl, by simpa [maxLen] using hw⟩
theorem open_SlB (ht : P.underlying t = some (.slice e)) (he : P.underlying e = some (.int .u8)) (hc : P.cellsOf e = 1) (h : DataW.trod enc P w base spare held fuel t cs = some x) :
  ∃ A n c xs, cs = [.slice A n c] ∧ SlB w A n xs ∧ n ≤ 9223372036854775807 := by
 rcases open_ints ht he hc h with ⟨rfl, _⟩ | ⟨a, l, c, zs, rfl, _, hl, hm, hz, _, hcell, hwz⟩
 ·exact ⟨none, 0, 0, [], rfl, ⟨rfl, SlR.nil _ _ _⟩, by omega⟩
 ·have hlz : l ≤ zs.length := by rw [hz]; split <;> omega
  refine ⟨some a, l, c, (zs.take l).map (fun z => UInt8.ofNat z.toNat), rfl, ⟨by simp; omega, ⟨by rw [rows_len]; simp [encB]; omega, fun _ => rfl, fun j v hv => ?_⟩⟩, by simp only [maxLen] at hm; omega⟩
  have hj : j < l := by
   have := (List.getElem?_eq_some_iff.1 hv).1
   simp [bytesV_len] at this; omega
  have hc1 := hcell j (by omega)
  have hw := hwz (zs.getD j 0) (by rw [List.getD_eq_getElem?_getD, List.getElem?_eq_getElem (show j < zs.length by omega)]; exact List.getElem_mem _)
  simp [Lit.wf, IntKind.min, IntKind.max, IntKind.signed, IntKind.bits] at hw
  show w.cell? (a.add j) = some v
  rw [hc1, ← hv]
  have hlt : j < zs.length := by omega
  have e1 : zs.getD j 0 = zs[j] := by rw [List.getD_eq_getElem?_getD, List.getElem?_eq_getElem hlt]; rfl
  rw [e1]
  simp only [List.getElem?_eq_getElem hlt, Option.getD_some] at hw
  simp [bytesV_map, hj, List.getElem?_eq_getElem hlt, UInt8.toNat_ofNat']
  omega
theorem open_SlF {α : Type} {F : Enc α} {good : α → Prop} (ht : P.underlying t = some (.slice e)) (hc : P.cellsOf e = F.sz)
  (hE : ∀ n cs' y, DataW.trod enc P w base spare held n e cs' = some y → ∃ d, cs' = F.enc d ∧ good d) (h : DataW.trod enc P w base spare held fuel t cs = some x) :
  ∃ A n c xs, cs = [.slice A n c] ∧ SlF F w A n xs ∧ n ≤ 9223372036854775807 ∧ ∀ d, d ∈ xs → good d := by
 rcases open_slice ht h with ⟨rfl, _⟩ | ⟨a, l, c, m, n, D, Pl, rfl, _, hl, hm, hmm, _, hx⟩
 ·exact ⟨none, 0, 0, [], rfl, ⟨rfl, SlR.nil _ _ _⟩, by omega, fun z h => by cases h⟩
 ·have hlm : l ≤ m := by rw [hmm]; split <;> omega
  have : Inhabited α := ⟨F.dflt⟩
  have each : ∀ i, i < l → ∃ d : α, good d ∧ ∀ r, r < F.sz → w.cell? (a.add (i * F.sz + r)) = (F.enc d)[r]? := by
   intro i hi
   obtain ⟨cs', h1, h2⟩ := hx i (by omega)
   obtain ⟨d, rfl, hg⟩ := hE _ _ _ h2
   obtain ⟨_, _, h3⟩ := World.cells?_some h1
   refine ⟨d, hg, fun r hr => ?_⟩
   have := h3 r (by rw [hc]; exact hr)
   rw [← this, hc]
   congr 1
   rw [Addr.add_add']
  obtain ⟨d, hd⟩ := choose_lt each
  have hlen : ((List.range l).map d).length = l := by simp
  refine ⟨some a, l, c, (List.range l).map d, rfl, ⟨hlen, ⟨by rw [rows_len, hlen], fun _ => rfl, fun j v hv => ?_⟩⟩, by simp only [maxLen] at hm; omega, fun z hz => ?_⟩
  ·have hj := (List.getElem?_eq_some_iff.1 hv).1
   rw [rows_len, hlen] at hj
   have hp := F.pos
   have hi : j / F.sz < l := Nat.div_lt_of_lt_mul (by rw [Nat.mul_comm]; exact hj)
   have hr : j % F.sz < F.sz := Nat.mod_lt _ hp
   have ej : j / F.sz * F.sz + j % F.sz = j := by rw [Nat.mul_comm]; exact Nat.div_add_mod _ _
   have e1 := (hd (j / F.sz) hi).2 (j % F.sz) hr
   rw [ej] at e1
   show w.cell? (a.add j) = some v
   rw [e1, ← hv]
   have e2 := rows_get (F := F) (xs := (List.range l).map d) (k := j / F.sz) (by rw [hlen]; exact hi) hr
   rw [ej] at e2
   rw [e2]
   have e3 : gat F ((List.range l).map d) (j / F.sz) = d (j / F.sz) := by
    have := gat_get (F := F) (xs := (List.range l).map d) (k := j / F.sz) (by rw [hlen]; exact hi)
    rw [List.getElem?_map, List.getElem?_range hi] at this
    exact (Option.some.inj this).symm
   rw [e3]
  ·obtain ⟨i, hi, rfl⟩ := List.mem_map.1 hz
   exact (hd i (by simpa using hi)).1
theorem open_u8 (ht : P.underlying t = some (.int .u8)) (h : DataW.trod enc P w base spare held fuel t cs = some x) : ∃ b : UInt8, cs = encB.enc b ∧ True := by
 obtain ⟨n, rfl, _, hw⟩ := DataW.trod_int ht h
 simp [Lit.wf, IntKind.min, IntKind.max, IntKind.signed, IntKind.bits] at hw
 refine ⟨UInt8.ofNat n.toNat, ?_, trivial⟩
 show [Value.int .u8 n] = [Value.int .u8 (UInt8.ofNat n.toNat).toNat]
 congr 2
 rw [UInt8.toNat_ofNat']
 omega
theorem open_SlE {α : Type} {F : Enc α} {good : α → Prop} (ht : P.underlying t = some (.slice e)) (hc : P.cellsOf e = F.sz)
  (hE : ∀ n cs' y, DataW.trod enc P w base spare held n e cs' = some y → ∃ d, cs' = F.enc d ∧ good d) (h : DataW.trod enc P w base spare held fuel t cs = some x) :
  ∃ A n c xs, cs = [.slice A n c] ∧ SlF F w A n xs ∧ n ≤ c ∧ n ≤ 9223372036854775807 ∧ ∀ d, d ∈ xs → good d := by
 obtain ⟨A, n, c, xs, e1, f, hn, hg⟩ := open_SlF ht hc hE h
 refine ⟨A, n, c, xs, e1, f, ?_, hn, hg⟩
 rcases open_slice ht h with ⟨e2, _⟩ | ⟨a, l, c', m, n', D, Pl, e2, _, hl, _⟩
 ·rw [e1] at e2
  cases e2
  exact Nat.le_refl _
 ·rw [e1] at e2
  cases e2
  exact hl
end
theorem cells_3 : Tryz.prog.cellsOf 3 = 1 := by kernel_rfl
theorem cells_5 : Tryz.prog.cellsOf 5 = 1 := by kernel_rfl
theorem cells_43 : Tryz.prog.cellsOf 43 = 1 := by kernel_rfl
theorem cells_148 : Tryz.prog.cellsOf 148 = 3 := by kernel_rfl
theorem open_FileR {H : Type} {enc : TypeId × Value → H} {w : World} {base : Nat} {spare : Nat → Bool} {held : Bool} {fuel : Nat} {cs : List Value} {x : DataW H × List MemPlace} (h : DataW.trod enc Tryz.prog w base spare held fuel 148 cs = some x) : ∃ d, cs = encFileR.enc d ∧ okFileR 9223372036854775807 w d := by
  obtain ⟨hl, n, hg⟩ := trod_flds Tryz.underlying148 h
  rw [cells_148] at hl
  obtain ⟨c0, l0, rfl, z0⟩ := list_succ hl
  obtain ⟨c1, l1, rfl, z1⟩ := list_succ z0
  obtain ⟨c2, l2, rfl, z2⟩ := list_succ z1
  obtain rfl := list_zero z2
  obtain ⟨y0, g0⟩ := hg 0 _ rfl
  rw [show Tryz.prog.cellsOf _ = 1 from cells_3] at g0
  replace g0 : DataW.trod _ _ _ _ _ _ _ 3 [c0] = _ := g0
  obtain ⟨x0, e0, w0⟩ := open_i64 Tryz.underlying3 g0
  obtain ⟨y1, g1⟩ := hg 1 _ rfl
  rw [show Tryz.prog.cellsOf _ = 1 from cells_43] at g1
  replace g1 : DataW.trod _ _ _ _ _ _ _ 43 [c1] = _ := g1
  obtain ⟨A1, n1, k1, x1, e1, f1, hc1, hn1, hg1⟩ := open_SlE (F := encB) (good := fun _ => True) Tryz.underlying43 cells_5 (fun _ _ _ h_ => open_u8 Tryz.underlying5 h_) g1
  obtain ⟨y2, g2⟩ := hg 2 _ rfl
  rw [show Tryz.prog.cellsOf _ = 1 from cells_3] at g2
  replace g2 : DataW.trod _ _ _ _ _ _ _ 3 [c2] = _ := g2
  obtain ⟨x2, e2, w2⟩ := open_i64 Tryz.underlying3 g2
  cases e0
  cases e1
  cases e2
  exact ⟨⟨x0, ⟨A1, n1, k1, x1⟩, x2⟩, rfl, ⟨f1, hc1, hn1⟩⟩
theorem cells_9 : Tryz.prog.cellsOf 9 = 1 := by kernel_rfl
theorem cells_150 : Tryz.prog.cellsOf 150 = 2 := by kernel_rfl
def goodLink (d : LinkD) : Prop := d.Name.size ≤ 9223372036854775807 ∧ In64 d.Id
theorem open_Link {H : Type} {enc : TypeId × Value → H} {w : World} {base : Nat} {spare : Nat → Bool} {held : Bool} {fuel : Nat} {cs : List Value} {x : DataW H × List MemPlace} (h : DataW.trod enc Tryz.prog w base spare held fuel 150 cs = some x) : ∃ d, cs = encLink.enc d ∧ goodLink d := by
  obtain ⟨hl, n, hg⟩ := trod_flds Tryz.underlying150 h
  rw [cells_150] at hl
  obtain ⟨c0, l0, rfl, z0⟩ := list_succ hl
  obtain ⟨c1, l1, rfl, z1⟩ := list_succ z0
  obtain rfl := list_zero z1
  obtain ⟨y0, g0⟩ := hg 0 _ rfl
  rw [show Tryz.prog.cellsOf _ = 1 from cells_9] at g0
  replace g0 : DataW.trod _ _ _ _ _ _ _ 9 [c0] = _ := g0
  obtain ⟨x0, e0, w0⟩ := open_str Tryz.underlying9 g0
  obtain ⟨y1, g1⟩ := hg 1 _ rfl
  rw [show Tryz.prog.cellsOf _ = 1 from cells_3] at g1
  replace g1 : DataW.trod _ _ _ _ _ _ _ 3 [c1] = _ := g1
  obtain ⟨x1, e1, w1⟩ := open_i64 Tryz.underlying3 g1
  cases e0
  cases e1
  exact ⟨⟨x0, x1⟩, rfl, ⟨w0, w1⟩⟩
theorem smLink_good {d : LinkD} (h : goodLink d) : smLink 9223372036854775807 d := h.1
theorem cells_152 : Tryz.prog.cellsOf 152 = 4 := by kernel_rfl
def goodTurn (d : TurnD) : Prop := In64 d.Kind ∧ d.Name.size ≤ 9223372036854775807 ∧ d.To.size ≤ 9223372036854775807 ∧ In64 d.Id
theorem open_Turn {H : Type} {enc : TypeId × Value → H} {w : World} {base : Nat} {spare : Nat → Bool} {held : Bool} {fuel : Nat} {cs : List Value} {x : DataW H × List MemPlace} (h : DataW.trod enc Tryz.prog w base spare held fuel 152 cs = some x) : ∃ d, cs = encTurn.enc d ∧ goodTurn d := by
  obtain ⟨hl, n, hg⟩ := trod_flds Tryz.underlying152 h
  rw [cells_152] at hl
  obtain ⟨c0, l0, rfl, z0⟩ := list_succ hl
  obtain ⟨c1, l1, rfl, z1⟩ := list_succ z0
  obtain ⟨c2, l2, rfl, z2⟩ := list_succ z1
  obtain ⟨c3, l3, rfl, z3⟩ := list_succ z2
  obtain rfl := list_zero z3
  obtain ⟨y0, g0⟩ := hg 0 _ rfl
  rw [show Tryz.prog.cellsOf _ = 1 from cells_3] at g0
  replace g0 : DataW.trod _ _ _ _ _ _ _ 3 [c0] = _ := g0
  obtain ⟨x0, e0, w0⟩ := open_i64 Tryz.underlying3 g0
  obtain ⟨y1, g1⟩ := hg 1 _ rfl
  rw [show Tryz.prog.cellsOf _ = 1 from cells_9] at g1
  replace g1 : DataW.trod _ _ _ _ _ _ _ 9 [c1] = _ := g1
  obtain ⟨x1, e1, w1⟩ := open_str Tryz.underlying9 g1
  obtain ⟨y2, g2⟩ := hg 2 _ rfl
  rw [show Tryz.prog.cellsOf _ = 1 from cells_9] at g2
  replace g2 : DataW.trod _ _ _ _ _ _ _ 9 [c2] = _ := g2
  obtain ⟨x2, e2, w2⟩ := open_str Tryz.underlying9 g2
  obtain ⟨y3, g3⟩ := hg 3 _ rfl
  rw [show Tryz.prog.cellsOf _ = 1 from cells_3] at g3
  replace g3 : DataW.trod _ _ _ _ _ _ _ 3 [c3] = _ := g3
  obtain ⟨x3, e3, w3⟩ := open_i64 Tryz.underlying3 g3
  cases e0
  cases e1
  cases e2
  cases e3
  exact ⟨⟨x0, x1, x2, x3⟩, rfl, ⟨w0, w1, w2, w3⟩⟩
theorem smTurn_good {d : TurnD} (h : goodTurn d) : smTurn 9223372036854775807 d := ⟨h.2.1, h.2.2.1⟩
theorem cells_22 : Tryz.prog.cellsOf 22 = 1 := by kernel_rfl
theorem cells_23 : Tryz.prog.cellsOf 23 = 1 := by kernel_rfl
theorem cells_24 : Tryz.prog.cellsOf 24 = 1 := by kernel_rfl
theorem cells_26 : Tryz.prog.cellsOf 26 = 6 := by kernel_rfl
theorem open_DiskR {H : Type} {enc : TypeId × Value → H} {w : World} {base : Nat} {spare : Nat → Bool} {held : Bool} {fuel : Nat} {cs : List Value} {x : DataW H × List MemPlace} (h : DataW.trod enc Tryz.prog w base spare held fuel 26 cs = some x) : ∃ d, cs = encDiskR.enc d ∧ okDiskR 9223372036854775807 w d := by
  obtain ⟨hl, n, hg⟩ := trod_flds Tryz.underlying26 h
  rw [cells_26] at hl
  obtain ⟨c0, l0, rfl, z0⟩ := list_succ hl
  obtain ⟨c1, l1, rfl, z1⟩ := list_succ z0
  obtain ⟨c2, l2, rfl, z2⟩ := list_succ z1
  obtain ⟨c3, l3, rfl, z3⟩ := list_succ z2
  obtain ⟨c4, l4, rfl, z4⟩ := list_succ z3
  obtain ⟨c5, l5, rfl, z5⟩ := list_succ z4
  obtain rfl := list_zero z5
  obtain ⟨y0, g0⟩ := hg 0 _ rfl
  rw [show Tryz.prog.cellsOf _ = 1 from cells_3] at g0
  replace g0 : DataW.trod _ _ _ _ _ _ _ 3 [c0] = _ := g0
  obtain ⟨x0, e0, w0⟩ := open_i64 Tryz.underlying3 g0
  obtain ⟨y1, g1⟩ := hg 1 _ rfl
  rw [show Tryz.prog.cellsOf _ = 1 from cells_3] at g1
  replace g1 : DataW.trod _ _ _ _ _ _ _ 3 [c1] = _ := g1
  obtain ⟨x1, e1, w1⟩ := open_i64 Tryz.underlying3 g1
  obtain ⟨y2, g2⟩ := hg 2 _ rfl
  rw [show Tryz.prog.cellsOf _ = 1 from cells_3] at g2
  replace g2 : DataW.trod _ _ _ _ _ _ _ 3 [c2] = _ := g2
  obtain ⟨x2, e2, w2⟩ := open_i64 Tryz.underlying3 g2
  obtain ⟨y3, g3⟩ := hg 3 _ rfl
  rw [show Tryz.prog.cellsOf _ = 1 from cells_22] at g3
  replace g3 : DataW.trod _ _ _ _ _ _ _ 22 [c3] = _ := g3
  obtain ⟨A3, n3, k3, x3, e3, f3, hc3, hn3, hg3⟩ := open_SlE (F := encFileR) (good := fun d => okFileR 9223372036854775807 w d) Tryz.underlying22 cells_148 (fun _ _ _ h_ => open_FileR h_) g3
  obtain ⟨y4, g4⟩ := hg 4 _ rfl
  rw [show Tryz.prog.cellsOf _ = 1 from cells_23] at g4
  replace g4 : DataW.trod _ _ _ _ _ _ _ 23 [c4] = _ := g4
  obtain ⟨A4, n4, k4, x4, e4, f4, hc4, hn4, hg4⟩ := open_SlE (F := encLink) (good := goodLink) Tryz.underlying23 cells_150 (fun _ _ _ h_ => open_Link h_) g4
  obtain ⟨y5, g5⟩ := hg 5 _ rfl
  rw [show Tryz.prog.cellsOf _ = 1 from cells_24] at g5
  replace g5 : DataW.trod _ _ _ _ _ _ _ 24 [c5] = _ := g5
  obtain ⟨A5, n5, k5, x5, e5, f5, hc5, hn5, hg5⟩ := open_SlE (F := encTurn) (good := goodTurn) Tryz.underlying24 cells_152 (fun _ _ _ h_ => open_Turn h_) g5
  cases e0
  cases e1
  cases e2
  cases e3
  cases e4
  cases e5
  exact ⟨⟨x0, x1, x2, ⟨A3, n3, k3, x3⟩, ⟨A4, n4, k4, x4⟩, ⟨A5, n5, k5, x5⟩⟩, rfl, ⟨⟨f3, hg3⟩, hc3, hn3, f4, hc4, hn4, fun y hy => smLink_good (hg4 y hy), f5, hc5, hn5, fun y hy => smTurn_good (hg5 y hy)⟩⟩
namespace fnExactBegin
open Go.ChangeShapes Go.WideShapes Go.ChangeAt Go.WideMaps Go.WideElems Go.RowKit
theorem own : ownKnob Tryz.prog.godebug = none := by kernel_rfl
theorem laidOut : laidOutB Tryz.prog = true := by kernel_rfl
def laid3 : List (String × DataW Unit) := [("math/bits.deBruijn32tab", Rows.laid_math_bits_deBruijn32tab), ("math/bits.deBruijn64tab", Rows.laid_math_bits_deBruijn64tab), ("internal/strconv.uint64pow10", Rows.laid_internal_strconv_uint64pow10), ("strconv.ErrRange", Rows.laid_strconv_ErrRange), ("strconv.ErrSyntax", Rows.laid_strconv_ErrSyntax)]
theorem door_met (os : Os) (args : Array Value) : laidMetH Tryz.prog laid3 ((World.doorLaid Tryz.prog 400 os).forCall (fun _ _ => 0) ⟨#[], args, []⟩).memory :=
  laidMetH_of_parts3 (fuel := 8) (laidMet_of_run' 8 (by kernel_rfl) (by kernel_rfl)) (by kernel_rfl) (by kernel_rfl)
theorem tabData_is : (Rows.laid_internal_strconv_uint64pow10 : DataW Unit) = Go.Lib.tabData .u64 Go.Lib.pow10Tab := by kernel_rfl
theorem tab_of {W : World} (h : laidMetH Tryz.prog laid3 W) : TabOk W := by
  rw [MakeChecks.laidMetH_plain _ _ _ (by kernel_rfl)] at h
  obtain ⟨ps, ⟨_, _, _, _, _, _, _, _, _, _, ⟨_, _, _, _, _, _, _, _, _, _, ⟨g, t, cs, fuel, p, q, hg, ht, hvar, hd, _, _⟩, _⟩, _⟩, _, _⟩ := h
  obtain rfl := Option.some.inj ((show Tryz.prog.globalNamed "internal/strconv.uint64pow10" = some 1 by kernel_rfl).symm.trans hg)
  have hty : (Tryz.prog.globals[1]?).map (·.type) = some t := ht
  obtain rfl := Option.some.inj ((show (Tryz.prog.globals[1]?).map (·.type) = some 240 by kernel_rfl).symm.trans hty)
  rw [tabData_is] at hd
  unfold TabOk Go.Lib.TabIs
  rw [hvar, ← Go.Lib.cells_of_tab Tryz.underlying240 Tryz.underlying219 (show Tryz.prog.cellsOf 219 = 1 by kernel_rfl) (show Tryz.prog.cellsOf 240 = 20 by kernel_rfl) hd]
theorem err_of {W : World} (h : laidMetH Tryz.prog laid3 W) : ∃ ev, W.cell? ⟨2, 0, none⟩ = some ev ∧ (ev = .nilIface ∨ ∃ te pe, ev = .iface te pe) := by
  rw [MakeChecks.laidMetH_plain _ _ _ (by kernel_rfl)] at h
  obtain ⟨ps, ⟨_, _, _, _, _, _, _, _, _, _, ⟨_, _, _, _, _, _, _, _, _, _, ⟨_, _, _, _, _, _, _, _, _, _, ⟨_, _, _, _, _, _, _, _, _, _, ⟨g, t, cs, fuel, p, q, hg, ht, hvar, hd, _, _⟩, _⟩, _⟩, _⟩, _⟩, _, _⟩ := h
  have hg2 : Tryz.prog.globalNamed "strconv.ErrSyntax" = some 2 := by kernel_rfl
  obtain rfl := Option.some.inj (hg2.symm.trans hg)
  have hty : (Tryz.prog.globals[2]?).map (·.type) = some t := ht
  obtain rfl := Option.some.inj ((show (Tryz.prog.globals[2]?).map (·.type) = some 199 by kernel_rfl).symm.trans hty)
  obtain ⟨_, u, v, hcs, _, _⟩ := iface_of_trod Tryz.underlying199 hd
  refine ⟨.iface u v, ?_, .inr ⟨u, v, rfl⟩⟩
  rw [World.var?_cell hg hvar 0]
  have e1 : cs[0]? = cs.toList[0]? := by simp
  rw [e1, hcs]; rfl
theorem lib_of {W : World} (h : laidMetH Tryz.prog laid3 W) (hs : W.ShapedOpen Tryz.prog) : LibOk W := ⟨tab_of h, Tryz.laysM145.s1_3 W hs, err_of h⟩
set_option maxRecDepth 100000 in
set_option maxHeartbeats 1000000 in
theorem lifted (os : Os) (started : os.Started) (H : Type) (enc : TypeId × Value → H) :
    ReturnsInHanded {} Tryz.checked os 6 .any (fun w args => (Rows.fnExactBeginSpec.pre enc Tryz.prog Tryz.f6 [] false w args ∧ laidMetH Tryz.prog laid3 w) ∧ sizedMet enc Tryz.prog Tryz.f6 (OpenSpec.ofChange Rows.fnExactBeginSpec) false w args) (Rows.fnExactBeginSpec.post enc Tryz.prog Tryz.f6 false true false false) := by
  refine returnsInHanded_of_calls (C := Tryz.checked) own started (by kernel_rfl)
    (ChangeSpec.witness_shaped (enc := enc) (C := Tryz.checked) (os := os) (X := fun w _ => laidMetH Tryz.prog laid3 w) false (World.doorLaid Tryz.prog 400 os) #[(Value.agg #[Value.int IntKind.i64 0, Value.int IntKind.i64 0, Value.int IntKind.i64 0, Value.slice none 0 0, Value.slice none 0 0, Value.slice none 0 0]), .int .i64 0, .int .i64 0, .slice none 0 0] 8 rfl (World.shaped_of_RefB (by kernel_rfl) (by kernel_rfl)) (by kernel_rfl) (by kernel_rfl) (by kernel_rfl) (door_met os _)) ?_
  intro w tape i _ hsh _ hok hpre _
  obtain ⟨_, _, _, fn', hfn', _, _, _, _, hval0⟩ := hok
  obtain rfl : fn' = Tryz.f6 := Option.some.inj (hfn'.symm.trans Tryz.func6)
  obtain ⟨⟨⟨ds, gs, before, hw, hc⟩, hx⟩, hz⟩ := hpre
  have hW := DataW.Whole.of_heap (w' := w.forCall tape i) (by rfl) hw
  have hL : laidMetH Tryz.prog laid3 (w.forCall tape i) := hx.of_heap (by rfl)
  suffices hmain : Calls Tryz.prog 6 i.args (w.forCall tape i) (fun e W' => ∃ v, e = .returned v ∧ Rows.fnExactBeginSpec.post enc Tryz.prog Tryz.f6 false true false false (w.forCall tape i) i.args v W') from hmain.mono fun e W' ⟨v, he, hp⟩ => by subst he; exact ChangeSpec.post_blind hp
  clear hw hx hz hc hfn'
  revert hW hL hsh hval0
  generalize w.forCall tape i = W
  generalize i.args = args
  generalize w.heap.size = base
  intro hsh hval0 hW hL
  have hval : ∀ (j : Nat) t v, Tryz.f6.params[j]? = some t → args[j]? = some v → Value.okWide Tryz.prog W .any base t v := hval0
  have hW' := hW
  obtain ⟨p, q, hA0, hV, rfl, hfz, hnd⟩ := hW
  have hA : DataW.TrodAll enc Tryz.prog W 0 (fun _ => true) true Tryz.f6.params.toList args.toList ds p := hA0
  rw [Tryz.params6] at hA hval
  obtain ⟨v0, vs0, d0, ds0, p0, q0, hargs, rfl, rfl, h0, r0⟩ := trodAll_cons hA
  obtain ⟨v1, vs1, d1, ds1, p1, q1, rfl, rfl, rfl, h1, r1⟩ := trodAll_cons r0
  obtain ⟨v2, vs2, d2, ds2, p2, q2, rfl, rfl, rfl, h2, r2⟩ := trodAll_cons r1
  obtain ⟨v3, vs3, d3, ds3, p3, q3, rfl, rfl, rfl, h3, r3⟩ := trodAll_cons r2
  obtain ⟨rfl, rfl, rfl⟩ := trodAll_nil r3
  obtain rfl : args = #[v0, v1, v2, v3] := by cases args; simp_all
  obtain ⟨rfl, rfl⟩ := trodVars_none hV
  have k0 := h0
  have lt0 : ∀ x ∈ p0, x.block < W.heap.size := by obtain ⟨m, hm⟩ := k0; exact DataW.trod_lt m _ _ _ hm
  have k1 := h1
  have lt1 : ∀ x ∈ p1, x.block < W.heap.size := by obtain ⟨m, hm⟩ := k1; exact DataW.trod_lt m _ _ _ hm
  have k2 := h2
  have lt2 : ∀ x ∈ p2, x.block < W.heap.size := by obtain ⟨m, hm⟩ := k2; exact DataW.trod_lt m _ _ _ hm
  have k3 := h3
  have lt3 : ∀ x ∈ p3, x.block < W.heap.size := by obtain ⟨m, hm⟩ := k3; exact DataW.trod_lt m _ _ _ hm
  obtain ⟨cs0, rfl, hsz0⟩ := okWide_struct Tryz.underlying26 (hval 0 26 v0 rfl rfl)
  obtain ⟨l0⟩ := cs0
  obtain ⟨fuel0, hf0⟩ := h0
  replace hf0 : DataW.trod _ _ _ _ _ _ _ 26 l0 = _ := hf0
  obtain ⟨aD, rfl, f_aD⟩ := open_DiskR hf0
  obtain ⟨q1, rfl⟩ := okWide_int Tryz.underlying3 (hval 1 3 v1 rfl rfl)
  obtain ⟨fuel1, hf1⟩ := h1
  replace hf1 : DataW.trod _ _ _ _ _ _ _ 3 [.int .i64 q1] = _ := hf1
  obtain ⟨aGen, e1, w_aGen⟩ := open_i64 Tryz.underlying3 hf1
  obtain rfl : aGen = q1 := by cases e1; rfl
  obtain ⟨q2, rfl⟩ := okWide_int Tryz.underlying3 (hval 2 3 v2 rfl rfl)
  obtain ⟨fuel2, hf2⟩ := h2
  replace hf2 : DataW.trod _ _ _ _ _ _ _ 3 [.int .i64 q2] = _ := hf2
  obtain ⟨aSeq, e2, w_aSeq⟩ := open_i64 Tryz.underlying3 hf2
  obtain rfl : aSeq = q2 := by cases e2; rfl
  obtain ⟨a3, l3, q3, rfl⟩ := okWide_slice Tryz.underlying43 (hval 3 43 v3 rfl rfl)
  obtain ⟨fuel3, hf3⟩ := h3
  replace hf3 : DataW.trod _ _ _ _ _ _ _ 43 [.slice a3 l3 q3] = _ := hf3
  obtain ⟨A_aData, n_aData, c_aData, aData, e3, f_aData, w_aData⟩ := open_SlB Tryz.underlying43 Tryz.underlying5 (by kernel_rfl) hf3
  obtain ⟨rfl, rfl, rfl⟩ : A_aData = a3 ∧ n_aData = l3 ∧ c_aData = q3 := by cases e3; exact ⟨rfl, rfl, rfl⟩
  have htab := lib_of hL hsh
  clear hA0 hval0
  refine (k145_ aD aGen aSeq A_aData n_aData c_aData aData W f_aD f_aData htab).mono fun e W' ⟨he, hst⟩ => ?_
  have bel := hst.toBelow
  subst he
  exact ⟨_, rfl, _, _, _, [], _, [], hW', trodAll_mk1 (shut_bool Tryz.underlying4 _), (trodAll_cons_mk (Below.trod laidOut (by kernel_rfl) (of_decide_eq_true (by kernel_rfl)) k0 bel lt0) (trodAll_cons_mk (Below.trod laidOut (by kernel_rfl) (of_decide_eq_true (by kernel_rfl)) k1 bel lt1) (trodAll_cons_mk (Below.trod laidOut (by kernel_rfl) (of_decide_eq_true (by kernel_rfl)) k2 bel lt2) (trodAll_cons_mk (Below.trod laidOut (by kernel_rfl) (of_decide_eq_true (by kernel_rfl)) k3 bel lt3) trodAll_mk0)))), rfl, bel.frame _, fun h => by cases h⟩
theorem over : Rows.FnExactBeginSaid :=
  OpenClaim.holds_of_wide 6 Tryz.f6 rfl rfl rfl rfl rfl rfl rfl ⟨rfl, rfl, rfl, rfl, rfl⟩ rfl rfl rfl rfl rfl (by kernel_rfl) Tryz.func6 (by kernel_rfl)
    (of_decide_eq_true (by kernel_rfl)) (by unfold Func.isWrapper; first | (rw [if_pos (by decide +kernel)]; kernel_rfl) | (rw [if_neg (by decide +kernel)]; exact ⟨rfl, rfl⟩))
    (fun os started H enc _ => lifted os started H enc)
end fnExactBegin
theorem fnExactBegin_holds : Rows.FnExactBeginCardSaid :=
  Claim7.holds_tied_plain_at .later [] [.data, .data, .data, .sentinel, .sentinel] true (true, "519186e7b6d5c76881cdc02540f2bf6a1d5bdcfe8883cd8906e5a41617715c50") true
    fnExactBegin.over (fun _ h => by cases h) (by kernel_rfl) (fun _ h => by cases h) fnExactBegin_row_tie rfl ⟨rfl, rfl⟩ (by kernel_rfl) rfl
    (fun f fn hf hfn => by
      obtain rfl : f = 6 := Option.some.inj ((show Tryz.prog.funcNamed "loop.example/g00661/laws.FnExactBegin" = some 6 by kernel_rfl).symm.trans hf) |>.symm
      obtain rfl : fn = Tryz.f6 := (Option.some.inj (Tryz.func6.symm.trans hfn)).symm
      exact ⟨by kernel_rfl, fun j t ht => by
        rw [Tryz.params6] at ht
        have hm : t ∈ [26, 3, 3, 43] := by simpa using Array.mem_of_getElem? ht
        have hall : ([26, 3, 3, 43].all fun u => !Tryz.prog.wantsStandIn u) = true := by kernel_rfl
        exact (show Tryz.prog.wantsStandIn t = false by simpa using List.all_eq_true.1 hall t hm)⟩)
    (by kernel_rfl)
end Go.Proofs.YtcpnlodkmkfplaaGreatDoor
