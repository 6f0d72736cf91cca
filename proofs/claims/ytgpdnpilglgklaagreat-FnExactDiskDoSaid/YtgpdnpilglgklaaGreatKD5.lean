/-
  The statement: for every input the law returns true. No condition. (And what it stands on, the last part.)
-/
import Derived.Test.YtgpdnpilglgklaaGreatKD4
namespace Go.Proofs.YtgpdnpilglgklaaGreat
open Go Go.RowKit
set_option linter.unusedVariables false
set_option linter.unusedSimpArgs false
set_option maxHeartbeats 8000000 in
theorem k105_ (aD : DiskR) (aOp : DiskOpR) (w : World) (f_aD : okDiskR 9223372036854775807 w aD) (f_aOp : okDiskOpR 9223372036854775807 w aOp) :
    Calls Tryz.prog 3 #[.agg #[i64 aD.Room, i64 aD.Fuse, i64 aD.Next, .slice aD.Files.A aD.Files.n aD.Files.c, .slice aD.Kept.A aD.Kept.n aD.Kept.c, .slice aD.Turns.A aD.Turns.n aD.Turns.c], .agg #[i64 aOp.Kind, .string aOp.Name, .string aOp.To, .slice aOp.Data.A aOp.Data.n aOp.Data.c]] w fun e w' => e = .returned (.bool true) ∧ St w [] [] w' := by
 have nb_aD_Files := f_aD.Files_n
 have nl_aD_Files := f_aD.Files.sl.len
 have nb_aD_Kept := f_aD.Kept_n
 have nl_aD_Kept := f_aD.Kept.len
 have nb_aD_Turns := f_aD.Turns_n
 have nl_aD_Turns := f_aD.Turns.len
 have nz_aOp_Name := f_aOp.Name_z
 have nz_aOp_To := f_aOp.To_z
 have nb_aOp_Data := f_aOp.Data_n
 have nl_aOp_Data := f_aOp.Data.len
 refine enter 119 Tryz.func3 rfl Tryz.ntmps3 rfl rfl ?_
 have hs1 := St.init w
 refine WC.sr (WL.bx hs1 rfl (fun b2 _ hs3 => WL.bx hs3 rfl (fun b4 _ hs5 => WL.r 1 hs5 [] rfl (WL.nil (WC.r1 hs5 [] rfl (WC.sr (WL.r 2 hs5 [1] rfl ?_)))))))
 refine WL.cl Tryz.call4 rfl (k36_ aD _ _ (okDiskR.st0 f_aD hs5) ?_ ?_) ?_
 · first | assumption | omega | (simp only [endDisk, endDiskOp]; first | done | assumption | omega)
 · first | assumption | omega | exact szR_b (by assumption) (by omega) (by first | assumption | omega) | (simp only [endDisk, endDiskOp]; first | done | assumption | omega)
 rintro _ whs6 ⟨rfl, hs6⟩
 replace hs6 := hs5.call0 hs6
 refine ⟨_, rfl, WL.r 1 hs6 [] rfl (WL.nil (WC.seq (fun K7 hK7 => WC.r1 hs6 [] rfl ?_)))⟩
 refine WC.cD rfl (fun qh8 => ?_) (fun qh8 => ?_)
 ·refine WC.r1 hs6 [] rfl (WC.ret (tkR ?_))
  clear hK7
  refine rtv rfl rfl hs6 ?_
  rfl
 simp only [szR] at qh8
 have hb_aD : totDisk aD.dat ≤ 1048576 := by split at qh8 <;> omega
 have hsm_aD : smDisk 1048576 aD.dat := totDisk_sm hb_aD
 have hsB_aD : smDisk 549755813888 aD.dat := totDisk_sm (by omega)
 have f_aD := f_aD.to hsB_aD
 have hl0 : 0 ≤ szR 1048576 (totDisk aD.dat) ∧ szR 1048576 (totDisk aD.dat) ≤ 1048576 := by unfold szR; split <;> omega
 refine WC.skip (hK7 _ _ (WC.sr (WL.r 2 hs6 [0] rfl ?_)))
 refine WL.cl Tryz.call5 rfl (k39_ aOp _ _ (okDiskOpR.st0 f_aOp hs6) ?_ ?_) ?_
 · first | assumption | omega | (simp only [endDisk, endDiskOp]; first | done | assumption | omega)
 · first | assumption | omega | exact szR_b (by assumption) (by omega) (by first | assumption | omega) | (simp only [endDisk, endDiskOp]; first | done | assumption | omega)
 rintro _ whs9 ⟨rfl, hs9⟩
 replace hs9 := hs6.call0 hs9
 refine ⟨_, rfl, WL.r 1 hs9 [] rfl (WL.nil (WC.seq (fun K10 hK10 => WC.r1 hs9 [] rfl ?_)))⟩
 refine WC.cD rfl (fun qh11 => ?_) (fun qh11 => ?_)
 ·refine WC.r1 hs9 [] rfl (WC.ret (tkR ?_))
  clear hK10
  refine rtv rfl rfl hs9 ?_
  rfl
 have hb_aOp : totDiskOp aOp.dat ≤ 1048576 := by unfold szR at qh11; (repeat' split at qh11) <;> omega
 have hsm_aOp : smDiskOp 1048576 aOp.dat := totDiskOp_sm hb_aOp
 have hsB_aOp : smDiskOp 549755813888 aOp.dat := totDiskOp_sm (by omega)
 have f_aOp := f_aOp.to hsB_aOp
 have hT := doneD_tot hb_aD hb_aOp
 have hTB : smDisk 549755813888 (doneD aD.dat aOp.dat) := totDisk_sm (by omega)
 refine WC.skip (hK10 _ _ (WC.seq (fun K12 hK12 => ?_)))
 refine WC.jR2 6 7 (Value.int .i64 (doneC aD.dat aOp.dat)) [0, 1, 2, 3, 4, 5, 17, 18, 19, 20, 21, 22, 23, 24, 25, 26] rfl hs9 (fun o_ L_ => ∃ r : DiskR, o_ = Obj.cells (List.toArray [i64 r.Room, i64 r.Fuse, i64 r.Next, .slice r.Files.A r.Files.n r.Files.c, .slice r.Kept.A r.Kept.n r.Kept.c, .slice r.Turns.A r.Turns.n r.Turns.c]) 36 (0, 0) ∧ ownDiskR r L_ ∧ r.dat = doneD aD.dat aOp.dat) ?_ ?_
 ·refine WC.rH hs9 hs9 (fun _ hs13 => ?_)
  refine WH.rn [0, 2] hs13 [1, 0] rfl rfl (WH.all [1, 8] (by kernel_rfl) rfl (WHs.cons (i := 1) rfl ?_ (WHs.cons (i := 8) rfl ?_ WHs.nil)))
  ·refine WL.cl Tryz.call7 rfl (k37_ aD _ (okDiskR.st0 f_aD hs13)) ?_
   rintro _ whs14 ⟨r15, L1_16, rfl, hs14, ho17, hd18⟩
   replace hs14 := hs13.callF hs14
   refine ⟨_, rfl, ?_⟩
   replace hs14 := St.back [_, _] hs14
   refine WL.nil ⟨(hs14.rm L1_16), WH.all [3, 8] (by kernel_rfl) rfl (WHs.cons (i := 3) rfl ?_ (WHs.cons (i := 8) rfl ?_ WHs.nil))⟩
   ·refine WL.cl Tryz.call8 rfl (k40_ aOp _ (okDiskOpR.st0 f_aOp hs14)) ?_
    rintro _ whs19 ⟨r20, L1_21, rfl, hs19, ho22, hd23⟩
    try simp only [hd18] at hd23
    replace hs19 := hs14.callF hs19
    refine ⟨_, rfl, ?_⟩
    replace hs19 := St.back [_, _] hs19
    refine WL.nil ⟨((hs19.rm L1_21).rm L1_16), WH.all [4, 8] (by kernel_rfl) rfl (WHs.cons (i := 4) rfl ?_ (WHs.cons (i := 8) rfl ?_ WHs.nil))⟩
    ·refine WL.cl Tryz.call6 rfl (k94_ r15 r20 _ (ownDiskR.ok (B := 549755813888) ho17 (hs19.ow L1_16) (by rw [hd18]; assumption)) (ownDiskOpR.ok (B := 549755813888) ho22 (hs19.ow L1_21) (by rw [hd23]; assumption)) ?_) ?_
     · first | assumption | rfl | omega | (simp only [hd18, hd23, endDisk, endDiskOp]; first | done | assumption | omega)
     rintro _ whs24 ⟨r25, L1_26, rfl, hs24, ho27, hd28⟩
     try simp only [hd18, hd23] at hd28
     replace hs24 := hs19.callF hs24
     refine ⟨_, rfl, ?_⟩
     replace hs24 := St.back [_, _] hs24
     refine WL.nil ⟨(((hs24.rm L1_26).rm L1_21).rm L1_16), WH.rn [5, 6, 7] (((hs24.rm L1_26).rm L1_21).rm L1_16) [] rfl rfl (WH.o1 8 rfl (WL.al hs24 Tryz.zeroValue36 rfl rfl (fun b29 _ hs30 => WL.nil ⟨(((hs30.d1.rm L1_26).rm L1_21).rm L1_16), WH.o1 9 rfl (WL.st tbk hs30 0 rfl rfl (fun _ hs31 => WL.nil ⟨(((hs31.d1.rm L1_26).rm L1_21).rm L1_16), ?_⟩))⟩)))⟩
     refine WH.rn [10] (((hs31.d1.rm L1_26).rm L1_21).rm L1_16) [] rfl rfl (WH.dn ?_)
     replace hs31 := ((hs31.rm L1_21).rm L1_16)
     exact ⟨rfl, b29, _, _, ((((hs31.fb b2).fb b4).fr L1_26).fb b29), ⟨r25, rfl, ho27, by first | exact hd28 | (rw [hd28]; simp only [hd18, hd23, hd28])⟩, ⟨rfl, by show some (Value.int _ _) = some (Value.int _ _); first | rfl | (simp only [hd18, hd23, hd28]; done), sbF rfl⟩⟩
    refine WL.al hs19 Tryz.zeroValue36 rfl rfl (fun b32 _ hs33 => WL.nil ⟨((hs33.d1.rm L1_21).rm L1_16), WH.o1 4 rfl ?_⟩)
    refine WL.cl Tryz.call6 rfl (k94_ r15 r20 _ (ownDiskR.ok (B := 549755813888) ho17 (hs33.ow L1_16) (by rw [hd18]; assumption)) (ownDiskOpR.ok (B := 549755813888) ho22 (hs33.ow L1_21) (by rw [hd23]; assumption)) ?_) ?_
    · first | assumption | rfl | omega | (simp only [hd18, hd23, endDisk, endDiskOp]; first | done | assumption | omega)
    rintro _ whs34 ⟨r35, L1_36, rfl, hs34, ho37, hd38⟩
    try simp only [hd18, hd23] at hd38
    replace hs34 := hs33.callF hs34
    refine ⟨_, rfl, ?_⟩
    replace hs34 := St.back [_, _, _] hs34
    refine WL.nil ⟨(((hs34.d1.rm L1_36).rm L1_21).rm L1_16), WH.rn [5, 6, 7] (((hs34.d1.rm L1_36).rm L1_21).rm L1_16) [] rfl rfl (WH.o1 9 rfl (WL.st tbk hs34 0 rfl rfl (fun _ hs39 => WL.nil ⟨(((hs39.d1.rm L1_36).rm L1_21).rm L1_16), WH.rn [10] (((hs39.d1.rm L1_36).rm L1_21).rm L1_16) [] rfl rfl (WH.dn ?_)⟩)))⟩
    replace hs39 := ((hs39.rm L1_21).rm L1_16)
    exact ⟨rfl, b32, _, _, ((((hs39.fb b2).fb b4).fr L1_36).fb b32), ⟨r35, rfl, ho37, by first | exact hd38 | (rw [hd38]; simp only [hd18, hd23, hd38])⟩, ⟨rfl, by show some (Value.int _ _) = some (Value.int _ _); first | rfl | (simp only [hd18, hd23, hd38]; done), sbF rfl⟩⟩
   refine WL.al hs14 Tryz.zeroValue36 rfl rfl (fun b40 _ hs41 => WL.nil ⟨(hs41.d1.rm L1_16), WH.o1 3 rfl (WL.cl Tryz.call8 rfl (k40_ aOp _ (okDiskOpR.st0 f_aOp hs41)) ?_)⟩)
   rintro _ whs42 ⟨r43, L1_44, rfl, hs42, ho45, hd46⟩
   try simp only [hd18] at hd46
   replace hs42 := hs41.callF hs42
   refine ⟨_, rfl, ?_⟩
   replace hs42 := St.back [_, _, _] hs42
   refine WL.nil ⟨((hs42.d1.rm L1_44).rm L1_16), WH.o1 4 rfl ?_⟩
   refine WL.cl Tryz.call6 rfl (k94_ r15 r43 _ (ownDiskR.ok (B := 549755813888) ho17 (hs42.ow L1_16) (by rw [hd18]; assumption)) (ownDiskOpR.ok (B := 549755813888) ho45 (hs42.ow L1_44) (by rw [hd46]; assumption)) ?_) ?_
   · first | assumption | rfl | omega | (simp only [hd18, hd46, endDisk, endDiskOp]; first | done | assumption | omega)
   rintro _ whs47 ⟨r48, L1_49, rfl, hs47, ho50, hd51⟩
   try simp only [hd18, hd46] at hd51
   replace hs47 := hs42.callF hs47
   refine ⟨_, rfl, ?_⟩
   replace hs47 := St.back [_, _, _] hs47
   refine WL.nil ⟨(((hs47.d1.rm L1_49).rm L1_44).rm L1_16), WH.rn [5, 6, 7] (((hs47.d1.rm L1_49).rm L1_44).rm L1_16) [] rfl rfl (WH.o1 9 rfl (WL.st tbk hs47 0 rfl rfl (fun _ hs52 => WL.nil ⟨(((hs52.d1.rm L1_49).rm L1_44).rm L1_16), WH.rn [10] (((hs52.d1.rm L1_49).rm L1_44).rm L1_16) [] rfl rfl (WH.dn ?_)⟩)))⟩
   replace hs52 := ((hs52.rm L1_44).rm L1_16)
   exact ⟨rfl, b40, _, _, ((((hs52.fb b2).fb b4).fr L1_49).fb b40), ⟨r48, rfl, ho50, by first | exact hd51 | (rw [hd51]; simp only [hd18, hd46, hd51])⟩, ⟨rfl, by show some (Value.int _ _) = some (Value.int _ _); first | rfl | (simp only [hd18, hd46, hd51]; done), sbF rfl⟩⟩
  refine WL.al hs13 Tryz.zeroValue36 rfl rfl (fun b53 _ hs54 => WL.nil ⟨hs54.d1, WH.o1 1 rfl (WL.cl Tryz.call7 rfl (k37_ aD _ (okDiskR.st0 f_aD hs54)) ?_)⟩)
  rintro _ whs55 ⟨r56, L1_57, rfl, hs55, ho58, hd59⟩
  replace hs55 := hs54.callF hs55
  refine ⟨_, rfl, ?_⟩
  replace hs55 := St.back [_, _, _] hs55
  refine WL.nil ⟨(hs55.d1.rm L1_57), WH.o1 3 rfl (WL.cl Tryz.call8 rfl (k40_ aOp _ (okDiskOpR.st0 f_aOp hs55)) ?_)⟩
  rintro _ whs60 ⟨r61, L1_62, rfl, hs60, ho63, hd64⟩
  try simp only [hd59] at hd64
  replace hs60 := hs55.callF hs60
  refine ⟨_, rfl, ?_⟩
  replace hs60 := St.back [_, _, _] hs60
  refine WL.nil ⟨((hs60.d1.rm L1_62).rm L1_57), WH.o1 4 rfl ?_⟩
  refine WL.cl Tryz.call6 rfl (k94_ r56 r61 _ (ownDiskR.ok (B := 549755813888) ho58 (hs60.ow L1_57) (by rw [hd59]; assumption)) (ownDiskOpR.ok (B := 549755813888) ho63 (hs60.ow L1_62) (by rw [hd64]; assumption)) ?_) ?_
  · first | assumption | rfl | omega | (simp only [hd59, hd64, endDisk, endDiskOp]; first | done | assumption | omega)
  rintro _ whs65 ⟨r66, L1_67, rfl, hs65, ho68, hd69⟩
  try simp only [hd59, hd64] at hd69
  replace hs65 := hs60.callF hs65
  refine ⟨_, rfl, ?_⟩
  replace hs65 := St.back [_, _, _] hs65
  refine WL.nil ⟨(((hs65.d1.rm L1_67).rm L1_62).rm L1_57), WH.rn [5, 6, 7] (((hs65.d1.rm L1_67).rm L1_62).rm L1_57) [] rfl rfl (WH.o1 9 rfl (WL.st tbk hs65 0 rfl rfl (fun _ hs70 => WL.nil ⟨(((hs70.d1.rm L1_67).rm L1_62).rm L1_57), WH.rn [10] (((hs70.d1.rm L1_67).rm L1_62).rm L1_57) [] rfl rfl (WH.dn ?_)⟩)))⟩
  replace hs70 := ((hs70.rm L1_62).rm L1_57)
  exact ⟨rfl, b53, _, _, ((((hs70.fb b2).fb b4).fr L1_67).fb b53), ⟨r66, rfl, ho68, by first | exact hd69 | (rw [hd69]; simp only [hd59, hd64, hd69])⟩, ⟨rfl, by show some (Value.int _ _) = some (Value.int _ _); first | rfl | (simp only [hd59, hd64, hd69]; done), sbF rfl⟩⟩
 rintro b71 _ L72 _ ⟨r73, rfl, ho74, hd75⟩ hs76 _ hf77
 have hs78 := (((hs76.fb b2).fb b4).fb b71)
 refine hK12 _ _ (WC.sub _ hf77 (WC.sr (WL.r 1 hs78 [2] rfl (WL.cl Tryz.call7 rfl (k37_ aD _ (okDiskR.st0 f_aD hs78)) ?_))))
 rintro _ whs79 ⟨r80, L1_81, rfl, hs79, ho82, hd83⟩
 try simp only [hd75] at hd83
 replace hs79 := hs78.callF hs79
 refine ⟨_, rfl, ?_⟩
 replace hs79 := St.back [_, _, _] hs79
 have el0 := endDisk_le 1 r80
 rw [hd83] at el0
 have eg0 := endDisk_ge 1 r80
 have eb0 : endDisk 1 r80 ≤ 549755813888 := by omega
 have en0_Files : r80.Files.xs.length ≤ 549755813888 := by have h1 := tots_len totFile (r80.Files.xs.map FileR.dat); rw [List.length_map] at h1; have h2 : totDisk r80.dat ≤ 1048576 := (by rw [hd83]; exact hb_aD); simp only [DiskR.dat, totDisk] at h2; omega
 refine WL.al hs79 Tryz.zeroValue36 rfl rfl (fun b84 _ hs85 => WL.st tbk hs85 0 rfl rfl (fun _ hs86 => WL.nil (WC.sr (WL.r 1 hs86 [2] rfl (WL.cl Tryz.call8 rfl (k40_ aOp _ (okDiskOpR.st0 f_aOp hs86)) ?_)))))
 rintro _ whs87 ⟨r88, L1_89, rfl, hs87, ho90, hd91⟩
 try simp only [hd75, hd83] at hd91
 replace hs87 := hs86.callF hs87
 refine ⟨_, rfl, ?_⟩
 replace hs87 := St.back [_, _, _, _] hs87
 have el1 := endDiskOp_le (endDisk 1 r80) r88
 rw [hd91] at el1
 have eg1 := endDiskOp_ge (endDisk 1 r80) r88
 have eb1 : endDiskOp (endDisk 1 r80) r88 ≤ 549755813888 := by omega
 refine WL.al hs87 Tryz.zeroValue40 rfl rfl (fun b92 _ hs93 => WL.st tbk hs93 0 rfl rfl (fun _ hs94 => WL.nil (WC.sr (WL.r 2 hs94 [1, 0] rfl ?_))))
 refine WL.cl Tryz.call9 rfl (k93_ r80 r88 _ (ownDiskR.ok (B := 549755813888) ho82 (hs94.ow L1_81) (by rw [hd83]; assumption)) (ownDiskOpR.ok (B := 549755813888) ho90 (hs94.ow L1_89) (by rw [hd91]; assumption)) ?_) ?_
 · first | assumption | rfl | omega | (simp only [hd75, hd83, hd91, endDisk, endDiskOp]; first | done | assumption | omega)
 rintro _ whs95 ⟨r96, L1_97, rfl, hs95, ho98, hd99⟩
 try simp only [hd75, hd83, hd91] at hd99
 replace hs95 := hs94.callF hs95
 refine ⟨_, rfl, ?_⟩
 replace hs95 := St.back [_, _, _, _, _] hs95
 have el2 := endDisk_le 1 r96
 rw [hd99] at el2
 have eg2 := endDisk_ge 1 r96
 have eb2 : endDisk 1 r96 ≤ 549755813888 := by omega
 have en2_Files : r96.Files.xs.length ≤ 549755813888 := by have h1 := tots_len totFile (r96.Files.xs.map FileR.dat); rw [List.length_map] at h1; have h2 : totDisk r96.dat ≤ 268435456 := (by rw [hd99]; exact hT); simp only [DiskR.dat, totDisk] at h2; omega
 refine WL.r 3 hs95 [] rfl (WL.al hs95 Tryz.zeroValue36 rfl rfl (fun b100 _ hs101 => WL.st tbk hs101 0 rfl rfl (fun _ hs102 => WL.r 1 hs102 [] rfl (WL.nil (WC.seq (fun K103 hK103 => WC.sr (WL.r 2 hs102 [0, 3] rfl ?_)))))))
 refine WL.cl Tryz.call10 rfl (k38_ r96 r73 _ (ownDiskR.ok (B := 549755813888) ho98 (hs102.ow L1_97) (by rw [hd99]; assumption)) (ownDiskR.ok (B := 549755813888) ho74 (hs102.ow L72) (by rw [hd75]; assumption)) ?_) ?_
 · first | assumption | rfl | omega | (simp only [hd75, hd83, hd91, hd99, endDisk, endDiskOp]; first | done | assumption | omega)
 rintro _ whs104 ⟨rfl, hs104⟩
 replace hs104 := hs102.call0 hs104
 refine ⟨_, rfl, WL.r 2 hs104 [] rfl (WL.pO tbk 3 Acts.nil hs104 [] rfl rfl rfl rfl (fun g_ => trivial) (WL.nil ?_))⟩
 refine WC.condF rfl (by first | (simp; done) | (simp; omega) | (simp [hd75, hd83, hd91, hd99]; done) | (simp [hd75, hd83, hd91, hd99]; omega) | (simp only [endDisk, endDiskOp]; simp; omega)) (WC.skip (hK103 _ _ (WC.seq (fun K106 hK106 => WC.seq (fun K107 hK107 => WC.rH hs104 hs104 (fun _ hs108 => ?_))))))
 refine WH.rn [0, 1] hs108 [2, 5] rfl rfl (WH.o1 2 rfl (WL.cl Tryz.call7 rfl (k37_ aD _ (okDiskR.st0 f_aD hs108)) ?_))
 rintro _ whs109 ⟨r110, L1_111, rfl, hs109, ho112, hd113⟩
 try simp only [hd75, hd83, hd91, hd99] at hd113
 replace hs109 := hs108.callF hs109
 refine ⟨_, rfl, ?_⟩
 replace hs109 := St.back [_, _, _, _, _, _] hs109
 refine WL.nil ⟨(hs109.rm L1_111), WH.o1 3 rfl ?_⟩
 refine WL.cl Tryz.call10 rfl (k38_ r80 r110 _ (ownDiskR.ok (B := 549755813888) ho82 (hs109.ow L1_81) (by rw [hd83]; assumption)) (ownDiskR.ok (B := 549755813888) ho112 (hs109.ow L1_111) (by rw [hd113]; assumption)) ?_) ?_
 · first | assumption | rfl | omega | (simp only [hd75, hd83, hd91, hd99, hd113, endDisk, endDiskOp]; first | done | assumption | omega)
 rintro _ whs114 ⟨rfl, hs114⟩
 replace hs114 := hs109.call0 hs114
 refine ⟨_, rfl, WL.nil ⟨(hs114.rm L1_111), WH.rn [4] (hs114.rm L1_111) [] rfl rfl (WH.dn (hK107 _ _ ?_))⟩⟩
 refine WC.condF rfl (by first | (simp; done) | (simp; omega) | (simp [hd75, hd83, hd91, hd99, hd113]; done) | (simp [hd75, hd83, hd91, hd99, hd113]; omega) | (simp only [endDisk, endDiskOp]; simp; omega)) (WC.skip (hK106 _ _ (WC.seq (fun K116 hK116 => WC.seq (fun K117 hK117 => WC.rH hs114 hs114 (fun _ hs118 => ?_))))))
 refine WH.rn [0, 1] hs118 [1, 4] rfl rfl (WH.o1 2 rfl (WL.cl Tryz.call8 rfl (k40_ aOp _ (okDiskOpR.st0 f_aOp hs118)) ?_))
 rintro _ whs119 ⟨r120, L1_121, rfl, hs119, ho122, hd123⟩
 try simp only [hd75, hd83, hd91, hd99, hd113] at hd123
 replace hs119 := hs118.callF hs119
 refine ⟨_, rfl, ?_⟩
 replace hs119 := St.back [_, _, _, _, _, _] hs119
 refine WL.nil ⟨(hs119.rm L1_121), WH.o1 3 rfl ?_⟩
 refine WL.cl Tryz.call11 rfl (k41_ r88 r120 _ (ownDiskOpR.ok (B := 549755813888) ho90 (hs119.ow L1_89) (by rw [hd91]; assumption)) (ownDiskOpR.ok (B := 549755813888) ho122 (hs119.ow L1_121) (by rw [hd123]; assumption)) ?_) ?_
 · first | assumption | rfl | omega | (simp only [hd75, hd83, hd91, hd99, hd113, hd123, endDisk, endDiskOp]; first | done | assumption | omega)
 rintro _ whs124 ⟨rfl, hs124⟩
 replace hs124 := hs119.call0 hs124
 refine ⟨_, rfl, WL.nil ⟨(hs124.rm L1_121), WH.rn [4] (hs124.rm L1_121) [] rfl rfl (WH.dn (hK117 _ _ ?_))⟩⟩
 refine WC.condF rfl (by first | (simp; done) | (simp; omega) | (simp [hd75, hd83, hd91, hd99, hd113, hd123]; done) | (simp [hd75, hd83, hd91, hd99, hd113, hd123]; omega) | (simp only [endDisk, endDiskOp]; simp; omega)) (WC.skip (hK116 _ _ (WC.r1 hs124 [] rfl (WC.sr (WL.r 2 hs124 [2] rfl ?_)))))
 refine WL.cl Tryz.call12 rfl (k102_ r80 _ _ _ ho82 (hs124.ow L1_81) (St.nodupL (hs124.fr L1_81)) ?_ ?_ ?_) ?_
 · first | assumption | omega | (simp only [hd75, hd83, hd91, hd99, hd113, hd123, endDisk, endDiskOp]; first | done | assumption | omega)
 · first | assumption | omega | (simp only [endDisk]; omega) | (simp only [hd75, hd83, hd91, hd99, hd113, hd123, endDisk, endDiskOp]; first | done | assumption | omega)
 · first | assumption | omega | (simp only [hd75, hd83, hd91, hd99, hd113, hd123, endDisk, endDiskOp]; first | done | assumption | omega)
 rintro _ whs126 ⟨L1_127, rfl, hs126, ho128⟩
 replace hs126 := St.lend (hs124.fr L1_81) hs126
 refine ⟨_, rfl, ?_⟩
 replace hs126 := St.back [_, _, _, _, _, _] hs126
 refine WL.r 1 hs126 [] rfl (WL.nil (WC.sr (WL.r 2 hs126 [1] rfl (WL.cl Tryz.call13 rfl (k104_ r88 _ _ _ ho90 (hs126.ow L1_89) (St.nodupL (hs126.fr L1_89)) ?_ ?_) ?_))))
 · first | assumption | omega | (simp only [hd75, hd83, hd91, hd99, hd113, hd123, endDisk, endDiskOp]; first | done | assumption | omega)
 · first | assumption | omega | (simp only [endDiskOp]; omega) | (simp only [hd75, hd83, hd91, hd99, hd113, hd123, endDisk, endDiskOp]; first | done | assumption | omega)
 rintro _ whs129 ⟨L1_130, rfl, hs129, ho131⟩
 replace hs129 := St.lend (hs126.fr L1_89) hs129
 refine ⟨_, rfl, ?_⟩
 replace hs129 := St.back [_, _, _, _, _, _] hs129
 refine WL.r 1 hs129 [] rfl (WL.nil (WC.seq (fun K132 hK132 => WC.sr (WL.r 3 hs129 [] rfl ?_))))
 apply WL.gO 4 Acts.nil hs129 rfl
 ·intro g133 J134
  have qg133 := g133
  try simp only [bf, within_iff, within_not] at qg133
  refine WL.runA tbk 2 (Acts.nil.cons (j := 2) rfl g133) hs129 [0, 3] rfl ⟨rfl, rfl, trivial⟩ ?_
  refine WL.call (wantF rfl g133) rfl rfl (Run.call Tryz.call10 rfl rfl rfl) (k38_ r96 r73 _ (ownDiskR.ok (B := 549755813888) ho98 (hs129.ow L1_97) (by rw [hd99]; assumption)) (ownDiskR.ok (B := 549755813888) ho74 (hs129.ow L72) (by rw [hd75]; assumption)) ?_) ?_
  · first | assumption | rfl | omega | (simp only [hd75, hd83, hd91, hd99, hd113, hd123, endDisk, endDiskOp]; first | done | assumption | omega)
  rintro _ whs135 ⟨rfl, hs135⟩
  replace hs135 := hs129.call0 hs135
  refine ⟨_, rfl, WL.runA tbk 1 (Acts.nil.cons (j := 2) rfl g133) hs135 [] rfl trivial (WL.eO 4 Acts.nil J134 hs135 g133 rfl rfl)⟩
 intro _ hs136
 refine WL.r 1 hs136 [] rfl (WL.pO tbk 3 Acts.nil hs136 [] rfl rfl rfl rfl (fun g_ => trivial) (WL.nil ?_))
 refine WC.condF rfl (by first | (simp; done) | (simp; omega) | (simp [hd75, hd83, hd91, hd99, hd113, hd123]; done) | (simp [hd75, hd83, hd91, hd99, hd113, hd123]; omega) | (simp only [endDisk, endDiskOp]; simp; omega)) (WC.skip (hK132 _ _ (WC.r1 hs136 [] rfl (WC.sr (WL.r 2 hs136 [0] rfl ?_)))))
 refine WL.cl Tryz.call12 rfl (k102_ r96 _ _ _ ho98 (hs136.ow L1_97) (St.nodupL (hs136.fr L1_97)) ?_ ?_ ?_) ?_
 · first | assumption | omega | (simp only [hd75, hd83, hd91, hd99, hd113, hd123, endDisk, endDiskOp]; first | done | assumption | omega)
 · first | assumption | omega | (simp only [endDisk]; omega) | (simp only [hd75, hd83, hd91, hd99, hd113, hd123, endDisk, endDiskOp]; first | done | assumption | omega)
 · first | assumption | omega | (simp only [hd75, hd83, hd91, hd99, hd113, hd123, endDisk, endDiskOp]; first | done | assumption | omega)
 rintro _ whs138 ⟨L1_139, rfl, hs138, ho140⟩
 replace hs138 := St.lend (hs136.fr L1_97) hs138
 refine ⟨_, rfl, ?_⟩
 replace hs138 := St.back [_, _, _, _, _, _] hs138
 refine WL.r 1 hs138 [] rfl (WL.nil (WC.r1 hs138 [] rfl (WC.sr (WL.r 2 hs138 [0] rfl ?_))))
 refine WL.cl Tryz.call14 rfl (k103_ _ _ _ (ownDiskR.ok (B := 549755813888) ho140 (hs138.ow L1_139) (markDisk_sm (by rw [hd99]; assumption))) ?_ ?_) ?_
 · first | assumption | omega | (simp only [hd75, hd83, hd91, hd99, hd113, hd123, endDisk, endDiskOp]; first | done | assumption | omega)
 · first | assumption | omega | (simp only [endDisk]; omega) | (simp only [hd75, hd83, hd91, hd99, hd113, hd123, endDisk, endDiskOp]; first | done | assumption | omega)
 rintro _ whs141 ⟨rfl, hs141⟩
 replace hs141 := hs138.call0 hs141
 refine ⟨_, rfl, WL.r 1 hs141 [] rfl (WL.nil (WC.seq (fun K142 hK142 => WC.r1 hs141 [] rfl ?_)))⟩
 refine WC.condF rfl (by first | (simp; done) | (simp; omega) | (simp [hd75, hd83, hd91, hd99, hd113, hd123]; done) | (simp [hd75, hd83, hd91, hd99, hd113, hd123]; omega) | (simp only [endDisk, endDiskOp]; simp; omega)) (WC.skip (hK142 _ _ (WC.seq (fun K144 hK144 => WC.r1 hs141 [] rfl ?_))))
 refine WC.condF rfl (by first | (simp; done) | (simp; omega) | (simp [hd75, hd83, hd91, hd99, hd113, hd123]; done) | (simp [hd75, hd83, hd91, hd99, hd113, hd123]; omega) | (simp only [endDisk, endDiskOp]; simp; omega)) (WC.skip (hK144 _ _ (WC.seq (fun K146 hK146 => ?_))))
 refine WC.jR2 15 16 (Value.int .i64 (doneC aD.dat aOp.dat)) [0, 1, 2, 3, 4, 5, 6, 7, 8, 9, 10, 11, 12, 13, 14, 17, 18, 19, 20, 21, 22, 23, 24, 25, 26, 35, 36, 37, 38, 39, 40, 41, 42, 43, 44, 45, 46, 47, 48, 49, 53, 54, 55, 56, 57, 58, 59, 60, 61, 62, 63, 64, 65, 66, 67, 68, 69, 70, 71, 72, 77, 78, 82, 83, 84, 85, 86, 87, 88, 89, 90, 91, 92, 93] rfl hs141 (fun o_ L_ => ∃ r : DiskR, o_ = Obj.cells (List.toArray [i64 r.Room, i64 r.Fuse, i64 r.Next, .slice r.Files.A r.Files.n r.Files.c, .slice r.Kept.A r.Kept.n r.Kept.c, .slice r.Turns.A r.Turns.n r.Turns.c]) 36 (0, 0) ∧ ownDiskR r L_ ∧ r.dat = doneD aD.dat aOp.dat) ?_ ?_
 ·refine WC.rH hs141 hs141 (fun _ hs147 => ?_)
  refine WH.rn [0, 2] hs147 [5, 4] rfl rfl (WH.all [1, 8] (by kernel_rfl) rfl (WHs.cons (i := 1) rfl ?_ (WHs.cons (i := 8) rfl ?_ WHs.nil)))
  ·refine WL.cl Tryz.call7 rfl (k37_ aD _ (okDiskR.st0 f_aD hs147)) ?_
   rintro _ whs148 ⟨r149, L1_150, rfl, hs148, ho151, hd152⟩
   try simp only [hd75, hd83, hd91, hd99, hd113, hd123] at hd152
   replace hs148 := hs147.callF hs148
   refine ⟨_, rfl, ?_⟩
   replace hs148 := St.back [_, _, _, _, _, _] hs148
   refine WL.nil ⟨(hs148.rm L1_150), WH.all [3, 8] (by kernel_rfl) rfl (WHs.cons (i := 3) rfl ?_ (WHs.cons (i := 8) rfl ?_ WHs.nil))⟩
   ·refine WL.cl Tryz.call8 rfl (k40_ aOp _ (okDiskOpR.st0 f_aOp hs148)) ?_
    rintro _ whs153 ⟨r154, L1_155, rfl, hs153, ho156, hd157⟩
    try simp only [hd75, hd83, hd91, hd99, hd113, hd123, hd152] at hd157
    replace hs153 := hs148.callF hs153
    refine ⟨_, rfl, ?_⟩
    replace hs153 := St.back [_, _, _, _, _, _] hs153
    refine WL.nil ⟨((hs153.rm L1_155).rm L1_150), WH.all [4, 8] (by kernel_rfl) rfl (WHs.cons (i := 4) rfl ?_ (WHs.cons (i := 8) rfl ?_ WHs.nil))⟩
    ·refine WL.cl Tryz.call9 rfl (k93_ r149 r154 _ (ownDiskR.ok (B := 549755813888) ho151 (hs153.ow L1_150) (by rw [hd152]; assumption)) (ownDiskOpR.ok (B := 549755813888) ho156 (hs153.ow L1_155) (by rw [hd157]; assumption)) ?_) ?_
     · first | assumption | rfl | omega | (simp only [hd75, hd83, hd91, hd99, hd113, hd123, hd152, hd157, endDisk, endDiskOp]; first | done | assumption | omega)
     rintro _ whs158 ⟨r159, L1_160, rfl, hs158, ho161, hd162⟩
     try simp only [hd75, hd83, hd91, hd99, hd113, hd123, hd152, hd157] at hd162
     replace hs158 := hs153.callF hs158
     refine ⟨_, rfl, ?_⟩
     replace hs158 := St.back [_, _, _, _, _, _] hs158
     refine WL.nil ⟨(((hs158.rm L1_160).rm L1_155).rm L1_150), WH.rn [5, 6, 7] (((hs158.rm L1_160).rm L1_155).rm L1_150) [] rfl rfl (WH.o1 8 rfl (WL.al hs158 Tryz.zeroValue36 rfl rfl (fun b163 _ hs164 => WL.nil ⟨(((hs164.d1.rm L1_160).rm L1_155).rm L1_150), WH.o1 9 rfl (WL.st tbk hs164 0 rfl rfl (fun _ hs165 => WL.nil ⟨(((hs165.d1.rm L1_160).rm L1_155).rm L1_150), ?_⟩))⟩)))⟩
     refine WH.rn [10] (((hs165.d1.rm L1_160).rm L1_155).rm L1_150) [] rfl rfl (WH.dn ?_)
     replace hs165 := ((hs165.rm L1_155).rm L1_150)
     exact ⟨rfl, b163, _, _, ((((((((((((((hs165.fr L72).fr L1_111).fr L1_121).fr L1_127).fr L1_130).fr L1_139).fb b2).fb b4).fb b71).fb b84).fb b92).fb b100).fr L1_160).fb b163), ⟨r159, rfl, ho161, by first | exact hd162 | (rw [hd162]; simp only [hd75, hd83, hd91, hd99, hd113, hd123, hd152, hd157, hd162])⟩, ⟨rfl, by show some (Value.int _ _) = some (Value.int _ _); first | rfl | (simp only [hd75, hd83, hd91, hd99, hd113, hd123, hd152, hd157, hd162]; done), sbF rfl⟩⟩
    refine WL.al hs153 Tryz.zeroValue36 rfl rfl (fun b166 _ hs167 => WL.nil ⟨((hs167.d1.rm L1_155).rm L1_150), WH.o1 4 rfl ?_⟩)
    refine WL.cl Tryz.call9 rfl (k93_ r149 r154 _ (ownDiskR.ok (B := 549755813888) ho151 (hs167.ow L1_150) (by rw [hd152]; assumption)) (ownDiskOpR.ok (B := 549755813888) ho156 (hs167.ow L1_155) (by rw [hd157]; assumption)) ?_) ?_
    · first | assumption | rfl | omega | (simp only [hd75, hd83, hd91, hd99, hd113, hd123, hd152, hd157, endDisk, endDiskOp]; first | done | assumption | omega)
    rintro _ whs168 ⟨r169, L1_170, rfl, hs168, ho171, hd172⟩
    try simp only [hd75, hd83, hd91, hd99, hd113, hd123, hd152, hd157] at hd172
    replace hs168 := hs167.callF hs168
    refine ⟨_, rfl, ?_⟩
    replace hs168 := St.back [_, _, _, _, _, _, _] hs168
    refine WL.nil ⟨(((hs168.d1.rm L1_170).rm L1_155).rm L1_150), WH.rn [5, 6, 7] (((hs168.d1.rm L1_170).rm L1_155).rm L1_150) [] rfl rfl (WH.o1 9 rfl (WL.st tbk hs168 0 rfl rfl (fun _ hs173 => WL.nil ⟨(((hs173.d1.rm L1_170).rm L1_155).rm L1_150), WH.rn [10] (((hs173.d1.rm L1_170).rm L1_155).rm L1_150) [] rfl rfl (WH.dn ?_)⟩)))⟩
    replace hs173 := ((hs173.rm L1_155).rm L1_150)
    exact ⟨rfl, b166, _, _, ((((((((((((((hs173.fr L72).fr L1_111).fr L1_121).fr L1_127).fr L1_130).fr L1_139).fb b2).fb b4).fb b71).fb b84).fb b92).fb b100).fr L1_170).fb b166), ⟨r169, rfl, ho171, by first | exact hd172 | (rw [hd172]; simp only [hd75, hd83, hd91, hd99, hd113, hd123, hd152, hd157, hd172])⟩, ⟨rfl, by show some (Value.int _ _) = some (Value.int _ _); first | rfl | (simp only [hd75, hd83, hd91, hd99, hd113, hd123, hd152, hd157, hd172]; done), sbF rfl⟩⟩
   refine WL.al hs148 Tryz.zeroValue36 rfl rfl (fun b174 _ hs175 => WL.nil ⟨(hs175.d1.rm L1_150), WH.o1 3 rfl (WL.cl Tryz.call8 rfl (k40_ aOp _ (okDiskOpR.st0 f_aOp hs175)) ?_)⟩)
   rintro _ whs176 ⟨r177, L1_178, rfl, hs176, ho179, hd180⟩
   try simp only [hd75, hd83, hd91, hd99, hd113, hd123, hd152] at hd180
   replace hs176 := hs175.callF hs176
   refine ⟨_, rfl, ?_⟩
   replace hs176 := St.back [_, _, _, _, _, _, _] hs176
   refine WL.nil ⟨((hs176.d1.rm L1_178).rm L1_150), WH.o1 4 rfl ?_⟩
   refine WL.cl Tryz.call9 rfl (k93_ r149 r177 _ (ownDiskR.ok (B := 549755813888) ho151 (hs176.ow L1_150) (by rw [hd152]; assumption)) (ownDiskOpR.ok (B := 549755813888) ho179 (hs176.ow L1_178) (by rw [hd180]; assumption)) ?_) ?_
   · first | assumption | rfl | omega | (simp only [hd75, hd83, hd91, hd99, hd113, hd123, hd152, hd180, endDisk, endDiskOp]; first | done | assumption | omega)
   rintro _ whs181 ⟨r182, L1_183, rfl, hs181, ho184, hd185⟩
   try simp only [hd75, hd83, hd91, hd99, hd113, hd123, hd152, hd180] at hd185
   replace hs181 := hs176.callF hs181
   refine ⟨_, rfl, ?_⟩
   replace hs181 := St.back [_, _, _, _, _, _, _] hs181
   refine WL.nil ⟨(((hs181.d1.rm L1_183).rm L1_178).rm L1_150), WH.rn [5, 6, 7] (((hs181.d1.rm L1_183).rm L1_178).rm L1_150) [] rfl rfl (WH.o1 9 rfl (WL.st tbk hs181 0 rfl rfl (fun _ hs186 => WL.nil ⟨(((hs186.d1.rm L1_183).rm L1_178).rm L1_150), WH.rn [10] (((hs186.d1.rm L1_183).rm L1_178).rm L1_150) [] rfl rfl (WH.dn ?_)⟩)))⟩
   replace hs186 := ((hs186.rm L1_178).rm L1_150)
   exact ⟨rfl, b174, _, _, ((((((((((((((hs186.fr L72).fr L1_111).fr L1_121).fr L1_127).fr L1_130).fr L1_139).fb b2).fb b4).fb b71).fb b84).fb b92).fb b100).fr L1_183).fb b174), ⟨r182, rfl, ho184, by first | exact hd185 | (rw [hd185]; simp only [hd75, hd83, hd91, hd99, hd113, hd123, hd152, hd180, hd185])⟩, ⟨rfl, by show some (Value.int _ _) = some (Value.int _ _); first | rfl | (simp only [hd75, hd83, hd91, hd99, hd113, hd123, hd152, hd180, hd185]; done), sbF rfl⟩⟩
  refine WL.al hs147 Tryz.zeroValue36 rfl rfl (fun b187 _ hs188 => WL.nil ⟨hs188.d1, WH.o1 1 rfl (WL.cl Tryz.call7 rfl (k37_ aD _ (okDiskR.st0 f_aD hs188)) ?_)⟩)
  rintro _ whs189 ⟨r190, L1_191, rfl, hs189, ho192, hd193⟩
  try simp only [hd75, hd83, hd91, hd99, hd113, hd123] at hd193
  replace hs189 := hs188.callF hs189
  refine ⟨_, rfl, ?_⟩
  replace hs189 := St.back [_, _, _, _, _, _, _] hs189
  refine WL.nil ⟨(hs189.d1.rm L1_191), WH.o1 3 rfl (WL.cl Tryz.call8 rfl (k40_ aOp _ (okDiskOpR.st0 f_aOp hs189)) ?_)⟩
  rintro _ whs194 ⟨r195, L1_196, rfl, hs194, ho197, hd198⟩
  try simp only [hd75, hd83, hd91, hd99, hd113, hd123, hd193] at hd198
  replace hs194 := hs189.callF hs194
  refine ⟨_, rfl, ?_⟩
  replace hs194 := St.back [_, _, _, _, _, _, _] hs194
  refine WL.nil ⟨((hs194.d1.rm L1_196).rm L1_191), WH.o1 4 rfl ?_⟩
  refine WL.cl Tryz.call9 rfl (k93_ r190 r195 _ (ownDiskR.ok (B := 549755813888) ho192 (hs194.ow L1_191) (by rw [hd193]; assumption)) (ownDiskOpR.ok (B := 549755813888) ho197 (hs194.ow L1_196) (by rw [hd198]; assumption)) ?_) ?_
  · first | assumption | rfl | omega | (simp only [hd75, hd83, hd91, hd99, hd113, hd123, hd193, hd198, endDisk, endDiskOp]; first | done | assumption | omega)
  rintro _ whs199 ⟨r200, L1_201, rfl, hs199, ho202, hd203⟩
  try simp only [hd75, hd83, hd91, hd99, hd113, hd123, hd193, hd198] at hd203
  replace hs199 := hs194.callF hs199
  refine ⟨_, rfl, ?_⟩
  replace hs199 := St.back [_, _, _, _, _, _, _] hs199
  refine WL.nil ⟨(((hs199.d1.rm L1_201).rm L1_196).rm L1_191), WH.rn [5, 6, 7] (((hs199.d1.rm L1_201).rm L1_196).rm L1_191) [] rfl rfl (WH.o1 9 rfl (WL.st tbk hs199 0 rfl rfl (fun _ hs204 => WL.nil ⟨(((hs204.d1.rm L1_201).rm L1_196).rm L1_191), WH.rn [10] (((hs204.d1.rm L1_201).rm L1_196).rm L1_191) [] rfl rfl (WH.dn ?_)⟩)))⟩
  replace hs204 := ((hs204.rm L1_196).rm L1_191)
  exact ⟨rfl, b187, _, _, ((((((((((((((hs204.fr L72).fr L1_111).fr L1_121).fr L1_127).fr L1_130).fr L1_139).fb b2).fb b4).fb b71).fb b84).fb b92).fb b100).fr L1_201).fb b187), ⟨r200, rfl, ho202, by first | exact hd203 | (rw [hd203]; simp only [hd75, hd83, hd91, hd99, hd113, hd123, hd193, hd198, hd203])⟩, ⟨rfl, by show some (Value.int _ _) = some (Value.int _ _); first | rfl | (simp only [hd75, hd83, hd91, hd99, hd113, hd123, hd193, hd198, hd203]; done), sbF rfl⟩⟩
 rintro b205 _ L206 _ ⟨r207, rfl, ho208, hd209⟩ hs210 _ hf211
 have hs212 := (((((((hs210.fb b2).fb b4).fb b71).fb b84).fb b92).fb b100).fb b205)
 refine hK146 _ _ (WC.sub _ hf211 (WC.seq (fun K213 hK213 => WC.sr (WL.r 2 hs212 [0, 4] rfl ?_))))
 refine WL.cl Tryz.call10 rfl (k38_ r207 r73 _ (ownDiskR.ok (B := 549755813888) ho208 (hs212.ow L206) (by rw [hd209]; assumption)) (ownDiskR.ok (B := 549755813888) ho74 (hs212.ow L72) (by rw [hd75]; assumption)) ?_) ?_
 · first | assumption | rfl | omega | (simp only [hd75, hd83, hd91, hd99, hd113, hd123, hd209, endDisk, endDiskOp]; first | done | assumption | omega)
 rintro _ whs214 ⟨rfl, hs214⟩
 replace hs214 := hs212.call0 hs214
 refine ⟨_, rfl, WL.r 2 hs214 [] rfl (WL.pO tbk 3 Acts.nil hs214 [] rfl rfl rfl rfl (fun g_ => trivial) (WL.nil ?_))⟩
 refine WC.condF rfl (by first | (simp; done) | (simp; omega) | (simp [hd75, hd83, hd91, hd99, hd113, hd123, hd209]; done) | (simp [hd75, hd83, hd91, hd99, hd113, hd123, hd209]; omega) | (simp only [endDisk, endDiskOp]; simp; omega)) (WC.skip (hK213 _ _ (WC.r1 hs214 [] rfl (WC.sr (WL.r 2 hs214 [1] rfl ?_)))))
 refine WL.cl Tryz.call14 rfl (k103_ _ _ _ (ownDiskR.ok (B := 549755813888) ho140 (hs214.ow L1_139) (markDisk_sm (by rw [hd99]; assumption))) ?_ ?_) ?_
 · first | assumption | omega | (simp only [hd75, hd83, hd91, hd99, hd113, hd123, hd209, endDisk, endDiskOp]; first | done | assumption | omega)
 · first | assumption | omega | (simp only [endDisk]; omega) | (simp only [hd75, hd83, hd91, hd99, hd113, hd123, hd209, endDisk, endDiskOp]; first | done | assumption | omega)
 rintro _ whs216 ⟨rfl, hs216⟩
 replace hs216 := hs214.call0 hs216
 refine ⟨_, rfl, WL.r 1 hs216 [] rfl (WL.nil (WC.seq (fun K217 hK217 => WC.r1 hs216 [] rfl ?_)))⟩
 refine WC.condF rfl (by first | (simp; done) | (simp; omega) | (simp [hd75, hd83, hd91, hd99, hd113, hd123, hd209]; done) | (simp [hd75, hd83, hd91, hd99, hd113, hd123, hd209]; omega) | (simp only [endDisk, endDiskOp]; simp; omega)) (WC.skip (hK217 _ _ (WC.seq (fun K219 hK219 => WC.r1 hs216 [] rfl ?_))))
 refine WC.condF rfl (by first | (simp; done) | (simp; omega) | (simp [hd75, hd83, hd91, hd99, hd113, hd123, hd209]; done) | (simp [hd75, hd83, hd91, hd99, hd113, hd123, hd209]; omega) | (simp only [endDisk, endDiskOp]; simp; omega)) (WC.skip (hK219 _ _ (WC.r1 hs216 [] rfl (WC.ret (rtv rfl rfl hs216 ?_)))))
 rfl
open Go Go.RowKit Go.ChangeShapes Go.WideShapes Go.ChangeAt Go.Deep
theorem list_succ {n : Nat} {l : List Value} (h : l.length = n + 1) : ∃ c r, l = c :: r ∧ r.length = n := by
 cases l with
 | nil => simp at h
 | cons c r => exact ⟨c, r, rfl, by simpa using h⟩
theorem list_zero {l : List Value} (h : l.length = 0) : l = [] := List.eq_nil_of_length_eq_zero h
section
variable {H : Type} {enc : TypeId × Value → H} {P : Program} {w : World} {base : Nat} {spare : Nat → Bool} {held : Bool} {fuel : Nat} {t e : TypeId} {cs : List Value} {x : DataW H × List MemPlace}
theorem trod_flds {fs : Array Field} (ht : P.underlying t = some (.struct fs)) (h : DataW.trod enc P w base spare held fuel t cs = some x) :
  cs.length = P.cellsOf t ∧ ∃ n, ∀ (i : Nat) (f : Field), fs.toList[i]? = some f → ∃ y, DataW.trod enc P w base spare held n f.type ((cs.drop f.offset).take (P.cellsOf f.type)) = some y := by
 obtain ⟨xs, n, _, _, hl, hlen, hg⟩ := DataW.trod_struct ht h
 refine ⟨hl, n, fun i f hf => ?_⟩
 have hf' : fs[i]? = some f := by simpa using hf
 have hi : i < xs.length := by rw [hlen]; exact (Array.getElem?_eq_some_iff.1 hf').1
 exact ⟨xs[i], (hg i f hf').trans (List.getElem?_eq_getElem hi)⟩
theorem open_i64 (ht : P.underlying t = some (.int .i64)) (h : DataW.trod enc P w base spare held fuel t cs = some x) : ∃ n, cs = [i64 n] ∧ In64 n := by
 obtain ⟨n, rfl, _, hw⟩ := DataW.trod_int ht h
 refine ⟨n, rfl, ?_⟩
 simp [Lit.wf, IntKind.min, IntKind.max, IntKind.signed, IntKind.bits] at hw
 exact hw
theorem open_str (ht : P.underlying t = some .string) (h : DataW.trod enc P w base spare held fuel t cs = some x) : ∃ s, cs = [.string s] ∧ s.size ≤ 9223372036854775807 := by
 obtain ⟨s, rfl, _, hw⟩ := DataW.trod_string ht h
 exact ⟨s, rfl, by simpa [maxLen] using hw⟩
theorem open_SlF {α : Type} {F : Enc α} {good : α → Prop} (ht : P.underlying t = some (.slice e)) (hc : P.cellsOf e = F.sz)
  (hE : ∀ n cs' y, DataW.trod enc P w base spare held n e cs' = some y → ∃ d, cs' = F.enc d ∧ good d) (h : DataW.trod enc P w base spare held fuel t cs = some x) :
  ∃ A n c xs, cs = [.slice A n c] ∧ SlF F w A n xs ∧ n ≤ 9223372036854775807 ∧ ∀ d, d ∈ xs → good d := by
 rcases open_slice ht h with ⟨rfl, _⟩ | ⟨a, l, c, m, n, D, Pl, rfl, _, hl, hm, hmm, _, hx⟩
 ·exact ⟨none, 0, 0, [], rfl, ⟨rfl, SlR.nil _ _ _⟩, by omega, fun z h => by cases h⟩
 ·have hlm : l ≤ m := by rw [hmm]; split <;> omega
  have : Inhabited α := ⟨F.dflt⟩
  have each : ∀ i, i < l → ∃ d : α, good d ∧ ∀ r, r < F.sz → w.cell? (a.add (i * F.sz + r)) = (F.enc d)[r]? := by
   intro i hi
   obtain ⟨cs', h1, h2⟩ := hx i (by omega)
   obtain ⟨d, rfl, hg⟩ := hE _ _ _ h2
   obtain ⟨_, _, h3⟩ := World.cells?_some h1
   refine ⟨d, hg, fun r hr => ?_⟩
   have := h3 r (by rw [hc]; exact hr)
   rw [← this, hc]
   congr 1
   rw [Addr.add_add']
  obtain ⟨d, hd⟩ := choose_lt each
  have hlen : ((List.range l).map d).length = l := by simp
  refine ⟨some a, l, c, (List.range l).map d, rfl, ⟨hlen, ⟨by rw [rows_len, hlen], fun _ => rfl, fun j v hv => ?_⟩⟩, by simp only [maxLen] at hm; omega, fun z hz => ?_⟩
  ·have hj := (List.getElem?_eq_some_iff.1 hv).1
   rw [rows_len, hlen] at hj
   have hp := F.pos
   have hi : j / F.sz < l := Nat.div_lt_of_lt_mul (by rw [Nat.mul_comm]; exact hj)
   have hr : j % F.sz < F.sz := Nat.mod_lt _ hp
   have ej : j / F.sz * F.sz + j % F.sz = j := by rw [Nat.mul_comm]; exact Nat.div_add_mod _ _
   have e1 := (hd (j / F.sz) hi).2 (j % F.sz) hr
   rw [ej] at e1
   show w.cell? (a.add j) = some v
   rw [e1, ← hv]
   have e2 := rows_get (F := F) (xs := (List.range l).map d) (k := j / F.sz) (by rw [hlen]; exact hi) hr
   rw [ej] at e2
   rw [e2]
   have e3 : gat F ((List.range l).map d) (j / F.sz) = d (j / F.sz) := by
    have := gat_get (F := F) (xs := (List.range l).map d) (k := j / F.sz) (by rw [hlen]; exact hi)
    rw [List.getElem?_map, List.getElem?_range hi] at this
    exact (Option.some.inj this).symm
   rw [e3]
  ·obtain ⟨i, hi, rfl⟩ := List.mem_map.1 hz
   exact (hd i (by simpa using hi)).1
theorem open_u8 (ht : P.underlying t = some (.int .u8)) (h : DataW.trod enc P w base spare held fuel t cs = some x) : ∃ b : UInt8, cs = encB.enc b ∧ True := by
 obtain ⟨n, rfl, _, hw⟩ := DataW.trod_int ht h
 simp [Lit.wf, IntKind.min, IntKind.max, IntKind.signed, IntKind.bits] at hw
 refine ⟨UInt8.ofNat n.toNat, ?_, trivial⟩
 show [Value.int .u8 n] = [Value.int .u8 (UInt8.ofNat n.toNat).toNat]
 congr 2
 rw [UInt8.toNat_ofNat']
 omega
theorem open_SlE {α : Type} {F : Enc α} {good : α → Prop} (ht : P.underlying t = some (.slice e)) (hc : P.cellsOf e = F.sz)
  (hE : ∀ n cs' y, DataW.trod enc P w base spare held n e cs' = some y → ∃ d, cs' = F.enc d ∧ good d) (h : DataW.trod enc P w base spare held fuel t cs = some x) :
  ∃ A n c xs, cs = [.slice A n c] ∧ SlF F w A n xs ∧ n ≤ c ∧ n ≤ 9223372036854775807 ∧ ∀ d, d ∈ xs → good d := by
 obtain ⟨A, n, c, xs, e1, f, hn, hg⟩ := open_SlF ht hc hE h
 refine ⟨A, n, c, xs, e1, f, ?_, hn, hg⟩
 rcases open_slice ht h with ⟨e2, _⟩ | ⟨a, l, c', m, n', D, Pl, e2, _, hl, _⟩
 ·rw [e1] at e2
  cases e2
  exact Nat.le_refl _
 ·rw [e1] at e2
  cases e2
  exact hl
end
theorem cells_3 : Tryz.prog.cellsOf 3 = 1 := by kernel_rfl
theorem cells_5 : Tryz.prog.cellsOf 5 = 1 := by kernel_rfl
theorem cells_27 : Tryz.prog.cellsOf 27 = 1 := by kernel_rfl
theorem cells_75 : Tryz.prog.cellsOf 75 = 3 := by kernel_rfl
theorem open_FileR {H : Type} {enc : TypeId × Value → H} {w : World} {base : Nat} {spare : Nat → Bool} {held : Bool} {fuel : Nat} {cs : List Value} {x : DataW H × List MemPlace} (h : DataW.trod enc Tryz.prog w base spare held fuel 75 cs = some x) : ∃ d, cs = encFileR.enc d ∧ okFileR 9223372036854775807 w d := by
  obtain ⟨hl, n, hg⟩ := trod_flds Tryz.underlying75 h
  rw [cells_75] at hl
  obtain ⟨c0, l0, rfl, z0⟩ := list_succ hl
  obtain ⟨c1, l1, rfl, z1⟩ := list_succ z0
  obtain ⟨c2, l2, rfl, z2⟩ := list_succ z1
  obtain rfl := list_zero z2
  obtain ⟨y0, g0⟩ := hg 0 _ rfl
  rw [show Tryz.prog.cellsOf _ = 1 from cells_3] at g0
  replace g0 : DataW.trod _ _ _ _ _ _ _ 3 [c0] = _ := g0
  obtain ⟨x0, e0, w0⟩ := open_i64 Tryz.underlying3 g0
  obtain ⟨y1, g1⟩ := hg 1 _ rfl
  rw [show Tryz.prog.cellsOf _ = 1 from cells_27] at g1
  replace g1 : DataW.trod _ _ _ _ _ _ _ 27 [c1] = _ := g1
  obtain ⟨A1, n1, k1, x1, e1, f1, hc1, hn1, hg1⟩ := open_SlE (F := encB) (good := fun _ => True) Tryz.underlying27 cells_5 (fun _ _ _ h_ => open_u8 Tryz.underlying5 h_) g1
  obtain ⟨y2, g2⟩ := hg 2 _ rfl
  rw [show Tryz.prog.cellsOf _ = 1 from cells_3] at g2
  replace g2 : DataW.trod _ _ _ _ _ _ _ 3 [c2] = _ := g2
  obtain ⟨x2, e2, w2⟩ := open_i64 Tryz.underlying3 g2
  cases e0
  cases e1
  cases e2
  exact ⟨⟨x0, ⟨A1, n1, k1, x1⟩, x2⟩, rfl, ⟨f1, hc1, hn1⟩⟩
theorem cells_9 : Tryz.prog.cellsOf 9 = 1 := by kernel_rfl
theorem cells_78 : Tryz.prog.cellsOf 78 = 2 := by kernel_rfl
def goodLink (d : LinkD) : Prop := d.Name.size ≤ 9223372036854775807 ∧ In64 d.Id
theorem open_Link {H : Type} {enc : TypeId × Value → H} {w : World} {base : Nat} {spare : Nat → Bool} {held : Bool} {fuel : Nat} {cs : List Value} {x : DataW H × List MemPlace} (h : DataW.trod enc Tryz.prog w base spare held fuel 78 cs = some x) : ∃ d, cs = encLink.enc d ∧ goodLink d := by
  obtain ⟨hl, n, hg⟩ := trod_flds Tryz.underlying78 h
  rw [cells_78] at hl
  obtain ⟨c0, l0, rfl, z0⟩ := list_succ hl
  obtain ⟨c1, l1, rfl, z1⟩ := list_succ z0
  obtain rfl := list_zero z1
  obtain ⟨y0, g0⟩ := hg 0 _ rfl
  rw [show Tryz.prog.cellsOf _ = 1 from cells_9] at g0
  replace g0 : DataW.trod _ _ _ _ _ _ _ 9 [c0] = _ := g0
  obtain ⟨x0, e0, w0⟩ := open_str Tryz.underlying9 g0
  obtain ⟨y1, g1⟩ := hg 1 _ rfl
  rw [show Tryz.prog.cellsOf _ = 1 from cells_3] at g1
  replace g1 : DataW.trod _ _ _ _ _ _ _ 3 [c1] = _ := g1
  obtain ⟨x1, e1, w1⟩ := open_i64 Tryz.underlying3 g1
  cases e0
  cases e1
  exact ⟨⟨x0, x1⟩, rfl, ⟨w0, w1⟩⟩
theorem smLink_good {d : LinkD} (h : goodLink d) : smLink 9223372036854775807 d := h.1
theorem cells_80 : Tryz.prog.cellsOf 80 = 4 := by kernel_rfl
def goodTurn (d : TurnD) : Prop := In64 d.Kind ∧ d.Name.size ≤ 9223372036854775807 ∧ d.To.size ≤ 9223372036854775807 ∧ In64 d.Id
theorem open_Turn {H : Type} {enc : TypeId × Value → H} {w : World} {base : Nat} {spare : Nat → Bool} {held : Bool} {fuel : Nat} {cs : List Value} {x : DataW H × List MemPlace} (h : DataW.trod enc Tryz.prog w base spare held fuel 80 cs = some x) : ∃ d, cs = encTurn.enc d ∧ goodTurn d := by
  obtain ⟨hl, n, hg⟩ := trod_flds Tryz.underlying80 h
  rw [cells_80] at hl
  obtain ⟨c0, l0, rfl, z0⟩ := list_succ hl
  obtain ⟨c1, l1, rfl, z1⟩ := list_succ z0
  obtain ⟨c2, l2, rfl, z2⟩ := list_succ z1
  obtain ⟨c3, l3, rfl, z3⟩ := list_succ z2
  obtain rfl := list_zero z3
  obtain ⟨y0, g0⟩ := hg 0 _ rfl
  rw [show Tryz.prog.cellsOf _ = 1 from cells_3] at g0
  replace g0 : DataW.trod _ _ _ _ _ _ _ 3 [c0] = _ := g0
  obtain ⟨x0, e0, w0⟩ := open_i64 Tryz.underlying3 g0
  obtain ⟨y1, g1⟩ := hg 1 _ rfl
  rw [show Tryz.prog.cellsOf _ = 1 from cells_9] at g1
  replace g1 : DataW.trod _ _ _ _ _ _ _ 9 [c1] = _ := g1
  obtain ⟨x1, e1, w1⟩ := open_str Tryz.underlying9 g1
  obtain ⟨y2, g2⟩ := hg 2 _ rfl
  rw [show Tryz.prog.cellsOf _ = 1 from cells_9] at g2
  replace g2 : DataW.trod _ _ _ _ _ _ _ 9 [c2] = _ := g2
  obtain ⟨x2, e2, w2⟩ := open_str Tryz.underlying9 g2
  obtain ⟨y3, g3⟩ := hg 3 _ rfl
  rw [show Tryz.prog.cellsOf _ = 1 from cells_3] at g3
  replace g3 : DataW.trod _ _ _ _ _ _ _ 3 [c3] = _ := g3
  obtain ⟨x3, e3, w3⟩ := open_i64 Tryz.underlying3 g3
  cases e0
  cases e1
  cases e2
  cases e3
  exact ⟨⟨x0, x1, x2, x3⟩, rfl, ⟨w0, w1, w2, w3⟩⟩
theorem smTurn_good {d : TurnD} (h : goodTurn d) : smTurn 9223372036854775807 d := ⟨h.2.1, h.2.2.1⟩
theorem cells_22 : Tryz.prog.cellsOf 22 = 1 := by kernel_rfl
theorem cells_23 : Tryz.prog.cellsOf 23 = 1 := by kernel_rfl
theorem cells_24 : Tryz.prog.cellsOf 24 = 1 := by kernel_rfl
theorem cells_26 : Tryz.prog.cellsOf 26 = 6 := by kernel_rfl
theorem open_DiskR {H : Type} {enc : TypeId × Value → H} {w : World} {base : Nat} {spare : Nat → Bool} {held : Bool} {fuel : Nat} {cs : List Value} {x : DataW H × List MemPlace} (h : DataW.trod enc Tryz.prog w base spare held fuel 26 cs = some x) : ∃ d, cs = encDiskR.enc d ∧ okDiskR 9223372036854775807 w d := by
  obtain ⟨hl, n, hg⟩ := trod_flds Tryz.underlying26 h
  rw [cells_26] at hl
  obtain ⟨c0, l0, rfl, z0⟩ := list_succ hl
  obtain ⟨c1, l1, rfl, z1⟩ := list_succ z0
  obtain ⟨c2, l2, rfl, z2⟩ := list_succ z1
  obtain ⟨c3, l3, rfl, z3⟩ := list_succ z2
  obtain ⟨c4, l4, rfl, z4⟩ := list_succ z3
  obtain ⟨c5, l5, rfl, z5⟩ := list_succ z4
  obtain rfl := list_zero z5
  obtain ⟨y0, g0⟩ := hg 0 _ rfl
  rw [show Tryz.prog.cellsOf _ = 1 from cells_3] at g0
  replace g0 : DataW.trod _ _ _ _ _ _ _ 3 [c0] = _ := g0
  obtain ⟨x0, e0, w0⟩ := open_i64 Tryz.underlying3 g0
  obtain ⟨y1, g1⟩ := hg 1 _ rfl
  rw [show Tryz.prog.cellsOf _ = 1 from cells_3] at g1
  replace g1 : DataW.trod _ _ _ _ _ _ _ 3 [c1] = _ := g1
  obtain ⟨x1, e1, w1⟩ := open_i64 Tryz.underlying3 g1
  obtain ⟨y2, g2⟩ := hg 2 _ rfl
  rw [show Tryz.prog.cellsOf _ = 1 from cells_3] at g2
  replace g2 : DataW.trod _ _ _ _ _ _ _ 3 [c2] = _ := g2
  obtain ⟨x2, e2, w2⟩ := open_i64 Tryz.underlying3 g2
  obtain ⟨y3, g3⟩ := hg 3 _ rfl
  rw [show Tryz.prog.cellsOf _ = 1 from cells_22] at g3
  replace g3 : DataW.trod _ _ _ _ _ _ _ 22 [c3] = _ := g3
  obtain ⟨A3, n3, k3, x3, e3, f3, hc3, hn3, hg3⟩ := open_SlE (F := encFileR) (good := fun d => okFileR 9223372036854775807 w d) Tryz.underlying22 cells_75 (fun _ _ _ h_ => open_FileR h_) g3
  obtain ⟨y4, g4⟩ := hg 4 _ rfl
  rw [show Tryz.prog.cellsOf _ = 1 from cells_23] at g4
  replace g4 : DataW.trod _ _ _ _ _ _ _ 23 [c4] = _ := g4
  obtain ⟨A4, n4, k4, x4, e4, f4, hc4, hn4, hg4⟩ := open_SlE (F := encLink) (good := goodLink) Tryz.underlying23 cells_78 (fun _ _ _ h_ => open_Link h_) g4
  obtain ⟨y5, g5⟩ := hg 5 _ rfl
  rw [show Tryz.prog.cellsOf _ = 1 from cells_24] at g5
  replace g5 : DataW.trod _ _ _ _ _ _ _ 24 [c5] = _ := g5
  obtain ⟨A5, n5, k5, x5, e5, f5, hc5, hn5, hg5⟩ := open_SlE (F := encTurn) (good := goodTurn) Tryz.underlying24 cells_80 (fun _ _ _ h_ => open_Turn h_) g5
  cases e0
  cases e1
  cases e2
  cases e3
  cases e4
  cases e5
  exact ⟨⟨x0, x1, x2, ⟨A3, n3, k3, x3⟩, ⟨A4, n4, k4, x4⟩, ⟨A5, n5, k5, x5⟩⟩, rfl, ⟨⟨f3, hg3⟩, hc3, hn3, f4, hc4, hn4, fun y hy => smLink_good (hg4 y hy), f5, hc5, hn5, fun y hy => smTurn_good (hg5 y hy)⟩⟩
theorem cells_29 : Tryz.prog.cellsOf 29 = 4 := by kernel_rfl
theorem open_DiskOpR {H : Type} {enc : TypeId × Value → H} {w : World} {base : Nat} {spare : Nat → Bool} {held : Bool} {fuel : Nat} {cs : List Value} {x : DataW H × List MemPlace} (h : DataW.trod enc Tryz.prog w base spare held fuel 29 cs = some x) : ∃ d, cs = encDiskOpR.enc d ∧ okDiskOpR 9223372036854775807 w d := by
  obtain ⟨hl, n, hg⟩ := trod_flds Tryz.underlying29 h
  rw [cells_29] at hl
  obtain ⟨c0, l0, rfl, z0⟩ := list_succ hl
  obtain ⟨c1, l1, rfl, z1⟩ := list_succ z0
  obtain ⟨c2, l2, rfl, z2⟩ := list_succ z1
  obtain ⟨c3, l3, rfl, z3⟩ := list_succ z2
  obtain rfl := list_zero z3
  obtain ⟨y0, g0⟩ := hg 0 _ rfl
  rw [show Tryz.prog.cellsOf _ = 1 from cells_3] at g0
  replace g0 : DataW.trod _ _ _ _ _ _ _ 3 [c0] = _ := g0
  obtain ⟨x0, e0, w0⟩ := open_i64 Tryz.underlying3 g0
  obtain ⟨y1, g1⟩ := hg 1 _ rfl
  rw [show Tryz.prog.cellsOf _ = 1 from cells_9] at g1
  replace g1 : DataW.trod _ _ _ _ _ _ _ 9 [c1] = _ := g1
  obtain ⟨x1, e1, w1⟩ := open_str Tryz.underlying9 g1
  obtain ⟨y2, g2⟩ := hg 2 _ rfl
  rw [show Tryz.prog.cellsOf _ = 1 from cells_9] at g2
  replace g2 : DataW.trod _ _ _ _ _ _ _ 9 [c2] = _ := g2
  obtain ⟨x2, e2, w2⟩ := open_str Tryz.underlying9 g2
  obtain ⟨y3, g3⟩ := hg 3 _ rfl
  rw [show Tryz.prog.cellsOf _ = 1 from cells_27] at g3
  replace g3 : DataW.trod _ _ _ _ _ _ _ 27 [c3] = _ := g3
  obtain ⟨A3, n3, k3, x3, e3, f3, hc3, hn3, hg3⟩ := open_SlE (F := encB) (good := fun _ => True) Tryz.underlying27 cells_5 (fun _ _ _ h_ => open_u8 Tryz.underlying5 h_) g3
  cases e0
  cases e1
  cases e2
  cases e3
  exact ⟨⟨x0, x1, x2, ⟨A3, n3, k3, x3⟩⟩, rfl, ⟨w1, w2, f3, hc3, hn3⟩⟩
namespace fnExactDiskDo
open Go.ChangeShapes Go.WideShapes Go.ChangeAt Go.RowKit
theorem own : ownKnob Tryz.prog.godebug = none := by kernel_rfl
theorem laidOut : laidOutB Tryz.prog = true := by kernel_rfl
set_option maxRecDepth 100000 in
set_option maxHeartbeats 1000000 in
theorem lifted (os : Os) (started : os.Started) (H : Type) (enc : TypeId × Value → H) :
    ReturnsInHanded {} Tryz.checked os 3 .any (Rows.fnExactDiskDoSpec.pre6 enc Tryz.prog Tryz.f3 Rows.fnExactDiskDoRow.domain false) (Rows.fnExactDiskDoSpec.post enc Tryz.prog Tryz.f3 false true false false) := by
  refine returnsInHanded_of_change (C := Tryz.checked) own started (by kernel_rfl) Tryz.func3
    (ChangeSpec.witness6 (enc := enc) (C := Tryz.checked) false ⟨#[], #[(Value.agg #[Value.int IntKind.i64 0, Value.int IntKind.i64 0, Value.int IntKind.i64 0, Value.slice none 0 0, Value.slice none 0 0, Value.slice none 0 0]), (Value.agg #[Value.int IntKind.i64 0, Value.string { data := #[] }, Value.string { data := #[] }, Value.slice none 0 0])], []⟩ 8 (by kernel_rfl) (by kernel_rfl) (by kernel_rfl) (by kernel_rfl)) ?_
  intro W base args ds gs before hval0 hW hcnd _
  have hval : ∀ (j : Nat) t v, Tryz.f3.params[j]? = some t → args[j]? = some v → Value.okWide Tryz.prog W .any base t v := hval0
  have hW' := hW
  obtain ⟨p, q, hA0, hV, rfl, hfz, hnd⟩ := hW
  have hA : DataW.TrodAll enc Tryz.prog W 0 (fun _ => true) true Tryz.f3.params.toList args.toList ds p := hA0
  rw [Tryz.params3] at hA hval
  obtain ⟨v0, vs0, d0, ds0, p0, q0, hargs, rfl, rfl, h0, r0⟩ := trodAll_cons hA
  obtain ⟨v1, vs1, d1, ds1, p1, q1, rfl, rfl, rfl, h1, r1⟩ := trodAll_cons r0
  obtain ⟨rfl, rfl, rfl⟩ := trodAll_nil r1
  obtain rfl : args = #[v0, v1] := by cases args; simp_all
  obtain ⟨rfl, rfl⟩ := trodVars_none hV
  have k0 := h0
  have lt0 : ∀ x ∈ p0, x.block < W.heap.size := by obtain ⟨m, hm⟩ := k0; exact DataW.trod_lt m _ _ _ hm
  have k1 := h1
  have lt1 : ∀ x ∈ p1, x.block < W.heap.size := by obtain ⟨m, hm⟩ := k1; exact DataW.trod_lt m _ _ _ hm
  obtain ⟨cs0, rfl, hsz0⟩ := okWide_struct Tryz.underlying26 (hval 0 26 v0 rfl rfl)
  obtain ⟨l0⟩ := cs0
  obtain ⟨fuel0, hf0⟩ := h0
  replace hf0 : DataW.trod _ _ _ _ _ _ _ 26 l0 = _ := hf0
  obtain ⟨aD, rfl, f_aD⟩ := open_DiskR hf0
  obtain ⟨cs1, rfl, hsz1⟩ := okWide_struct Tryz.underlying29 (hval 1 29 v1 rfl rfl)
  obtain ⟨l1⟩ := cs1
  obtain ⟨fuel1, hf1⟩ := h1
  replace hf1 : DataW.trod _ _ _ _ _ _ _ 29 l1 = _ := hf1
  obtain ⟨aOp, rfl, f_aOp⟩ := open_DiskOpR hf1
  clear hA0 hval0
  refine (k105_ aD aOp W f_aD f_aOp).mono fun e W' ⟨he, hst⟩ => ?_
  have bel := hst.toBelow
  subst he
  exact ⟨_, rfl, _, _, _, [], _, [], hW', trodAll_mk1 (shut_bool Tryz.underlying4 _), (trodAll_cons_mk (Below.trod laidOut (by kernel_rfl) (of_decide_eq_true (by kernel_rfl)) k0 bel lt0) (trodAll_cons_mk (Below.trod laidOut (by kernel_rfl) (of_decide_eq_true (by kernel_rfl)) k1 bel lt1) trodAll_mk0)), rfl, bel.frame _, fun h => by cases h⟩
theorem jq0 : laidOutB Tryz.pinned.checked.prog = true := by kernel_rfl
theorem jq1 : mapsRowed Tryz.pinned.checked.prog = true := by kernel_rfl
theorem jq2 : Tryz.pinned.checked.prog.inPlace 3 = Rows.fnExactDiskDoRow.inPlace := by kernel_rfl
theorem jq3 : Tryz.pinned.checked.prog.unfollowed 3 = Rows.fnExactDiskDoRow.unfollowed := by kernel_rfl
theorem jq4 : Tryz.pinned.checked.prog.recurses 3 = Rows.fnExactDiskDoRow.recurses := by kernel_rfl
theorem jq5 : Tryz.pinned.checked.prog.varsNamed 3 = Rows.fnExactDiskDoRow.named := by kernel_rfl
theorem closed : joinedFacts Tryz.pinned.checked.prog 3 Tryz.f3 Rows.fnExactDiskDoSpec Rows.fnExactDiskDoRow = true := by
  unfold joinedFacts
  rw [jq0, jq1, jq2, jq3, jq4, jq5]
  kernel_rfl
theorem fnIs : Tryz.pinned.checked.prog.funcNamed Rows.fnExactDiskDoRow.func = some 3 := by kernel_rfl
theorem instIs : Tryz.f3.isInstance Tryz.pinned.checked.prog Rows.fnExactDiskDoRow.origin Rows.fnExactDiskDoRow.targs := of_decide_eq_true (by kernel_rfl)
theorem wrapIs : Tryz.f3.isWrapper Tryz.pinned.checked.prog Rows.fnExactDiskDoRow.wrapper Rows.fnExactDiskDoRow.mainSum := by unfold Func.isWrapper; first | (rw [if_pos (by decide +kernel)]; kernel_rfl) | (rw [if_neg (by decide +kernel)]; exact ⟨rfl, rfl⟩)
theorem over : Rows.fnExactDiskDoRow.holds Tryz.pinned (OpenSpec.ofChange Rows.fnExactDiskDoSpec) :=
  OpenClaim.holds_of_wide 3 Tryz.f3 rfl rfl rfl rfl rfl rfl rfl ⟨rfl, rfl, rfl, rfl, rfl⟩ rfl rfl rfl rfl rfl fnIs Tryz.func3 closed instIs wrapIs
    (fun os started H enc _ => lifted os started H enc)
end fnExactDiskDo
theorem fnExactDiskDo_holds : Rows.FnExactDiskDoSaid := fnExactDiskDo.over
end Go.Proofs.YtgpdnpilglgklaaGreat
