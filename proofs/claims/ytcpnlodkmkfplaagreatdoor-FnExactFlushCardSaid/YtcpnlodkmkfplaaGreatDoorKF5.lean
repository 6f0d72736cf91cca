/-
  The statement: for every input the law returns true. No condition. (And what it stands on, the last part.)
-/
import Derived.Test.YtcpnlodkmkfplaaGreatDoorKF4
namespace Go.Proofs.YtcpnlodkmkfplaaGreatDoor
open Go Go.RowKit
set_option linter.unusedVariables false
set_option linter.unusedSimpArgs false
set_option maxHeartbeats 8000000 in
theorem k126_ (aP : DepotR) (w : World) (f_aP : okDepotR 9223372036854775807 w aP) (ht : TabOk w) :
    Calls Tryz.prog 3 #[.agg #[i64 aP.Disk.Room, i64 aP.Disk.Fuse, i64 aP.Disk.Next, .slice aP.Disk.Files.A aP.Disk.Files.n aP.Disk.Files.c, .slice aP.Disk.Kept.A aP.Disk.Kept.n aP.Disk.Kept.c, .slice aP.Disk.Turns.A aP.Disk.Turns.n aP.Disk.Turns.c, i64 aP.Gen, i64 aP.Seq, i64 aP.Size, .bool aP.Stuck]] w fun e w' => e = .returned (.bool true) ∧ St w [] [] w' := by
 have nb_aP_Disk_Files := f_aP.Disk.Files_n
 have nl_aP_Disk_Files := f_aP.Disk.Files.sl.len
 have nb_aP_Disk_Kept := f_aP.Disk.Kept_n
 have nl_aP_Disk_Kept := f_aP.Disk.Kept.len
 have nb_aP_Disk_Turns := f_aP.Disk.Turns_n
 have nl_aP_Disk_Turns := f_aP.Disk.Turns.len
 refine enter 96 Tryz.func3 rfl Tryz.ntmps3 rfl rfl ?_
 have hs1 := St.init w
 refine WC.sr (WL.bx hs1 rfl (fun b2 _ hs3 => WL.r 1 hs3 [] rfl (WL.nil (WC.r1 hs3 [] rfl (WC.sr (WL.r 2 hs3 [0] rfl ?_))))))
 refine WL.cl Tryz.call10 rfl (k112_ aP _ _ (okDepotR.st0 f_aP hs3) ?_ ?_) ?_
 · first | assumption | omega | exact tab_st ht (by assumption) | (simp only [endDepot, endDisk]; first | done | assumption | omega)
 · first | assumption | omega | exact szR_b (by assumption) (by omega) (by first | assumption | omega) | exact tab_st ht (by assumption) | (simp only [endDepot, endDisk]; first | done | assumption | omega)
 rintro _ whs4 ⟨rfl, hs4⟩
 replace hs4 := hs3.call0 hs4
 refine ⟨_, rfl, WL.r 1 hs4 [] rfl (WL.nil (WC.seq (fun K5 hK5 => WC.r1 hs4 [] rfl ?_)))⟩
 refine WC.cD rfl (fun qh6 => ?_) (fun qh6 => ?_)
 ·refine WC.r1 hs4 [] rfl (WC.ret (tkR ?_))
  clear hK5
  refine rtv rfl rfl hs4 ?_
  rfl
 simp only [szR] at qh6
 have hb_aP : totDepot aP.dat ≤ 1048576 := by split at qh6 <;> omega
 have hsm_aP : smDepot 1048576 aP.dat := totDepot_sm hb_aP
 have hsB_aP : smDepot 549755813888 aP.dat := totDepot_sm (by omega)
 have f_aP := f_aP.to hsB_aP
 have hbD : totDisk aP.dat.Disk ≤ 1048576 := hb_aP
 have hT : totDepot (flushD aP.dat) ≤ 268435456 := flush_tot hbD
 have hTB : smDepot 549755813888 (flushD aP.dat) := totDepot_sm (by omega)
 refine WC.skip (hK5 _ _ (WC.sr (WL.r 1 hs4 [0] rfl (WL.cl Tryz.call12 rfl (k113_ aP _ (okDepotR.st0 f_aP hs4)) ?_))))
 rintro _ whs7 ⟨r8, L1_9, rfl, hs7, ho10, hd11⟩
 replace hs7 := hs4.callF hs7
 refine ⟨_, rfl, ?_⟩
 replace hs7 := St.back [_] hs7
 refine WL.cl Tryz.call11 rfl (k111_ r8 _ (ownDepotR.ok (B := 549755813888) ho10 (hs7.ow L1_9) (by rw [hd11]; assumption)) ?_) ?_
 · first | assumption | rfl | omega | exact tab_st ht (by assumption) | (simp only [hd11, endDepot, endDisk]; first | done | assumption | omega)
 rintro _ whs12 ⟨r13, L1_14, rfl, hs12, ho15, hd16⟩
 try simp only [hd11] at hd16
 replace hs12 := hs7.callF hs12
 refine ⟨_, rfl, ?_⟩
 replace hs12 := St.back [_] hs12
 refine WL.r 3 hs12 [] rfl (WL.al hs12 Tryz.zeroValue36 rfl rfl (fun b17 _ hs18 => WL.st tbk hs18 0 rfl rfl (fun _ hs19 => WL.r 1 hs19 [] rfl (WL.nil (WC.sr (WL.r 1 hs19 [1] rfl (WL.cl Tryz.call12 rfl (k113_ aP _ (okDepotR.st0 f_aP hs19)) ?_)))))))
 rintro _ whs20 ⟨r21, L1_22, rfl, hs20, ho23, hd24⟩
 try simp only [hd11, hd16] at hd24
 replace hs20 := hs19.callF hs20
 refine ⟨_, rfl, ?_⟩
 replace hs20 := St.back [_, _] hs20
 have el0 := endDepot_le 1 r21
 rw [hd24] at el0
 have eg0 := endDepot_ge 1 r21
 have eb0 : endDepot 1 r21 ≤ 549755813888 := by omega
 have en0_Disk_Files : r21.Disk.Files.xs.length ≤ 549755813888 := by have h1 := tots_len totFile (r21.Disk.Files.xs.map FileR.dat); rw [List.length_map] at h1; have h2 : totDepot r21.dat ≤ 1048576 := (by rw [hd24]; exact hb_aP); simp only [DepotR.dat, DiskR.dat, totDepot, totDisk] at h2; omega
 refine WL.al hs20 Tryz.zeroValue36 rfl rfl (fun b25 _ hs26 => WL.st tbk hs26 0 rfl rfl (fun _ hs27 => WL.nil (WC.sr (WL.r 1 hs27 [0] rfl ?_))))
 refine WL.cl Tryz.call13 rfl (k110_ r21 _ (ownDepotR.ok (B := 549755813888) ho23 (hs27.ow L1_22) (by rw [hd24]; assumption)) ?_ ?_) ?_
 iterate 2 focus first | assumption | rfl | omega | exact tab_st ht (by assumption) | (simp only [hd11, hd16, hd24, endDepot, endDisk]; first | done | assumption | omega)
 rintro _ whs28 ⟨r29, L1_30, rfl, hs28, ho31, hd32⟩
 try simp only [hd11, hd16, hd24] at hd32
 replace hs28 := hs27.callF hs28
 refine ⟨_, rfl, ?_⟩
 replace hs28 := St.back [_, _, _] hs28
 have el1 := endDepot_le 1 r29
 rw [hd32] at el1
 have eg1 := endDepot_ge 1 r29
 have eb1 : endDepot 1 r29 ≤ 549755813888 := by omega
 have en1_Disk_Files : r29.Disk.Files.xs.length ≤ 549755813888 := by have h1 := tots_len totFile (r29.Disk.Files.xs.map FileR.dat); rw [List.length_map] at h1; have h2 : totDepot r29.dat ≤ 268435456 := (by rw [hd32]; exact hT); simp only [DepotR.dat, DiskR.dat, totDepot, totDisk] at h2; omega
 refine WL.r 3 hs28 [] rfl (WL.al hs28 Tryz.zeroValue36 rfl rfl (fun b33 _ hs34 => WL.st tbk hs34 0 rfl rfl (fun _ hs35 => WL.r 1 hs35 [] rfl (WL.nil (WC.seq (fun K36 hK36 => WC.sr (WL.r 2 hs35 [0, 2] rfl ?_)))))))
 refine WL.cl Tryz.call14 rfl (k114_ r29 r13 _ (ownDepotR.ok (B := 549755813888) ho31 (hs35.ow L1_30) (by rw [hd32]; assumption)) (ownDepotR.ok (B := 549755813888) ho15 (hs35.ow L1_14) (by rw [hd16]; assumption)) ?_) ?_
 · first | assumption | rfl | omega | exact tab_st ht (by assumption) | (simp only [hd11, hd16, hd24, hd32, endDepot, endDisk]; first | done | assumption | omega)
 rintro _ whs37 ⟨rfl, hs37⟩
 replace hs37 := hs35.call0 hs37
 refine ⟨_, rfl, WL.r 2 hs37 [] rfl (WL.pO tbk 3 Acts.nil hs37 [] rfl rfl rfl rfl (fun g_ => trivial) (WL.nil ?_))⟩
 refine WC.condF rfl (by first | (simp; done) | (simp; omega) | (simp [hd11, hd16, hd24, hd32]; done) | (simp [hd11, hd16, hd24, hd32]; omega) | (simp only [endDepot, endDisk]; simp; omega)) (WC.skip (hK36 _ _ (WC.seq (fun K39 hK39 => WC.seq (fun K40 hK40 => WC.rH hs37 hs37 (fun _ hs41 => ?_))))))
 refine WH.rn [0, 1] hs41 [1, 3] rfl rfl (WH.o1 2 rfl (WL.cl Tryz.call12 rfl (k113_ aP _ (okDepotR.st0 f_aP hs41)) ?_))
 rintro _ whs42 ⟨r43, L1_44, rfl, hs42, ho45, hd46⟩
 try simp only [hd11, hd16, hd24, hd32] at hd46
 replace hs42 := hs41.callF hs42
 refine ⟨_, rfl, ?_⟩
 replace hs42 := St.back [_, _, _, _] hs42
 refine WL.nil ⟨(hs42.rm L1_44), WH.o1 3 rfl ?_⟩
 refine WL.cl Tryz.call14 rfl (k114_ r21 r43 _ (ownDepotR.ok (B := 549755813888) ho23 (hs42.ow L1_22) (by rw [hd24]; assumption)) (ownDepotR.ok (B := 549755813888) ho45 (hs42.ow L1_44) (by rw [hd46]; assumption)) ?_) ?_
 · first | assumption | rfl | omega | exact tab_st ht (by assumption) | (simp only [hd11, hd16, hd24, hd32, hd46, endDepot, endDisk]; first | done | assumption | omega)
 rintro _ whs47 ⟨rfl, hs47⟩
 replace hs47 := hs42.call0 hs47
 refine ⟨_, rfl, WL.nil ⟨(hs47.rm L1_44), WH.rn [4] (hs47.rm L1_44) [] rfl rfl (WH.dn (hK40 _ _ ?_))⟩⟩
 refine WC.condF rfl (by first | (simp; done) | (simp; omega) | (simp [hd11, hd16, hd24, hd32, hd46]; done) | (simp [hd11, hd16, hd24, hd32, hd46]; omega) | (simp only [endDepot, endDisk]; simp; omega)) (WC.skip (hK39 _ _ (WC.r1 hs47 [] rfl (WC.sr (WL.r 2 hs47 [1] rfl ?_)))))
 refine WL.cl Tryz.call15 rfl (k124_ r21 _ _ _ ho23 (hs47.ow L1_22) (St.nodupL (hs47.fr L1_22)) ?_ ?_ ?_) ?_
 · first | assumption | omega | exact tab_st ht (by assumption) | (simp only [hd11, hd16, hd24, hd32, hd46, endDepot, endDisk]; first | done | assumption | omega)
 · first | assumption | omega | (simp only [endDepot, endDisk]; omega) | exact tab_st ht (by assumption) | (simp only [hd11, hd16, hd24, hd32, hd46, endDepot, endDisk]; first | done | assumption | omega)
 · first | assumption | omega | exact tab_st ht (by assumption) | (simp only [hd11, hd16, hd24, hd32, hd46, endDepot, endDisk]; first | done | assumption | omega)
 rintro _ whs49 ⟨L1_50, rfl, hs49, ho51⟩
 replace hs49 := St.lend (hs47.fr L1_22) hs49
 refine ⟨_, rfl, ?_⟩
 replace hs49 := St.back [_, _, _, _] hs49
 refine WL.r 1 hs49 [] rfl (WL.nil (WC.seq (fun K52 hK52 => WC.sr (WL.r 3 hs49 [] rfl ?_))))
 apply WL.gO 4 Acts.nil hs49 rfl
 ·intro g53 J54
  have qg53 := g53
  try simp only [bf, within_iff, within_not] at qg53
  refine WL.runA tbk 2 (Acts.nil.cons (j := 2) rfl g53) hs49 [0, 2] rfl ⟨rfl, rfl, trivial⟩ ?_
  refine WL.call (wantF rfl g53) rfl rfl (Run.call Tryz.call14 rfl rfl rfl) (k114_ r29 r13 _ (ownDepotR.ok (B := 549755813888) ho31 (hs49.ow L1_30) (by rw [hd32]; assumption)) (ownDepotR.ok (B := 549755813888) ho15 (hs49.ow L1_14) (by rw [hd16]; assumption)) ?_) ?_
  · first | assumption | rfl | omega | exact tab_st ht (by assumption) | (simp only [hd11, hd16, hd24, hd32, hd46, endDepot, endDisk]; first | done | assumption | omega)
  rintro _ whs55 ⟨rfl, hs55⟩
  replace hs55 := hs49.call0 hs55
  refine ⟨_, rfl, WL.runA tbk 1 (Acts.nil.cons (j := 2) rfl g53) hs55 [] rfl trivial (WL.eO 4 Acts.nil J54 hs55 g53 rfl rfl)⟩
 intro _ hs56
 refine WL.r 1 hs56 [] rfl (WL.pO tbk 3 Acts.nil hs56 [] rfl rfl rfl rfl (fun g_ => trivial) (WL.nil ?_))
 refine WC.condF rfl (by first | (simp; done) | (simp; omega) | (simp [hd11, hd16, hd24, hd32, hd46]; done) | (simp [hd11, hd16, hd24, hd32, hd46]; omega) | (simp only [endDepot, endDisk]; simp; omega)) (WC.skip (hK52 _ _ (WC.r1 hs56 [] rfl (WC.sr (WL.r 2 hs56 [0] rfl ?_)))))
 refine WL.cl Tryz.call15 rfl (k124_ r29 _ _ _ ho31 (hs56.ow L1_30) (St.nodupL (hs56.fr L1_30)) ?_ ?_ ?_) ?_
 · first | assumption | omega | exact tab_st ht (by assumption) | (simp only [hd11, hd16, hd24, hd32, hd46, endDepot, endDisk]; first | done | assumption | omega)
 · first | assumption | omega | (simp only [endDepot, endDisk]; omega) | exact tab_st ht (by assumption) | (simp only [hd11, hd16, hd24, hd32, hd46, endDepot, endDisk]; first | done | assumption | omega)
 · first | assumption | omega | exact tab_st ht (by assumption) | (simp only [hd11, hd16, hd24, hd32, hd46, endDepot, endDisk]; first | done | assumption | omega)
 rintro _ whs58 ⟨L1_59, rfl, hs58, ho60⟩
 replace hs58 := St.lend (hs56.fr L1_30) hs58
 refine ⟨_, rfl, ?_⟩
 replace hs58 := St.back [_, _, _, _] hs58
 refine WL.r 1 hs58 [] rfl (WL.nil (WC.r1 hs58 [] rfl (WC.sr (WL.r 2 hs58 [0] rfl ?_))))
 refine WL.cl Tryz.call16 rfl (k125_ _ _ _ (ownDepotR.ok (B := 549755813888) ho60 (hs58.ow L1_59) (markDepot_sm (by rw [hd32]; assumption))) ?_ ?_) ?_
 · first | assumption | omega | exact tab_st ht (by assumption) | (simp only [hd11, hd16, hd24, hd32, hd46, endDepot, endDisk]; first | done | assumption | omega)
 · first | assumption | omega | (simp only [endDepot, endDisk]; omega) | exact tab_st ht (by assumption) | (simp only [hd11, hd16, hd24, hd32, hd46, endDepot, endDisk]; first | done | assumption | omega)
 rintro _ whs61 ⟨rfl, hs61⟩
 replace hs61 := hs58.call0 hs61
 refine ⟨_, rfl, WL.r 1 hs61 [] rfl (WL.nil (WC.seq (fun K62 hK62 => WC.r1 hs61 [] rfl ?_)))⟩
 refine WC.condF rfl (by first | (simp; done) | (simp; omega) | (simp [hd11, hd16, hd24, hd32, hd46]; done) | (simp [hd11, hd16, hd24, hd32, hd46]; omega) | (simp only [endDepot, endDisk]; simp; omega)) (WC.skip (hK62 _ _ (WC.seq (fun K64 hK64 => WC.r1 hs61 [] rfl ?_))))
 refine WC.condF rfl (by first | (simp; done) | (simp; omega) | (simp [hd11, hd16, hd24, hd32, hd46]; done) | (simp [hd11, hd16, hd24, hd32, hd46]; omega) | (simp only [endDepot, endDisk]; simp; omega)) (WC.skip (hK64 _ _ (WC.sr (WL.r 1 hs61 [3] rfl (WL.cl Tryz.call12 rfl (k113_ aP _ (okDepotR.st0 f_aP hs61)) ?_)))))
 rintro _ whs66 ⟨r67, L1_68, rfl, hs66, ho69, hd70⟩
 try simp only [hd11, hd16, hd24, hd32, hd46] at hd70
 replace hs66 := hs61.callF hs66
 refine ⟨_, rfl, ?_⟩
 replace hs66 := St.back [_, _, _, _] hs66
 refine WL.cl Tryz.call13 rfl (k110_ r67 _ (ownDepotR.ok (B := 549755813888) ho69 (hs66.ow L1_68) (by rw [hd70]; assumption)) ?_ ?_) ?_
 iterate 2 focus first | assumption | rfl | omega | exact tab_st ht (by assumption) | (simp only [hd11, hd16, hd24, hd32, hd46, hd70, endDepot, endDisk]; first | done | assumption | omega)
 rintro _ whs71 ⟨r72, L1_73, rfl, hs71, ho74, hd75⟩
 try simp only [hd11, hd16, hd24, hd32, hd46, hd70] at hd75
 replace hs71 := hs66.callF hs71
 refine ⟨_, rfl, ?_⟩
 replace hs71 := St.back [_, _, _, _] hs71
 refine WL.r 3 hs71 [] rfl (WL.al hs71 Tryz.zeroValue36 rfl rfl (fun b76 _ hs77 => WL.st tbk hs77 0 rfl rfl (fun _ hs78 => WL.r 1 hs78 [] rfl (WL.nil (WC.seq (fun K79 hK79 => WC.sr (WL.r 2 hs78 [0, 3] rfl ?_)))))))
 refine WL.cl Tryz.call14 rfl (k114_ r72 r13 _ (ownDepotR.ok (B := 549755813888) ho74 (hs78.ow L1_73) (by rw [hd75]; assumption)) (ownDepotR.ok (B := 549755813888) ho15 (hs78.ow L1_14) (by rw [hd16]; assumption)) ?_) ?_
 · first | assumption | rfl | omega | exact tab_st ht (by assumption) | (simp only [hd11, hd16, hd24, hd32, hd46, hd70, hd75, endDepot, endDisk]; first | done | assumption | omega)
 rintro _ whs80 ⟨rfl, hs80⟩
 replace hs80 := hs78.call0 hs80
 refine ⟨_, rfl, WL.r 2 hs80 [] rfl (WL.pO tbk 3 Acts.nil hs80 [] rfl rfl rfl rfl (fun g_ => trivial) (WL.nil ?_))⟩
 refine WC.condF rfl (by first | (simp; done) | (simp; omega) | (simp [hd11, hd16, hd24, hd32, hd46, hd70, hd75]; done) | (simp [hd11, hd16, hd24, hd32, hd46, hd70, hd75]; omega) | (simp only [endDepot, endDisk]; simp; omega)) (WC.skip (hK79 _ _ (WC.r1 hs80 [] rfl (WC.sr (WL.r 2 hs80 [1] rfl ?_)))))
 refine WL.cl Tryz.call16 rfl (k125_ _ _ _ (ownDepotR.ok (B := 549755813888) ho60 (hs80.ow L1_59) (markDepot_sm (by rw [hd32]; assumption))) ?_ ?_) ?_
 · first | assumption | omega | exact tab_st ht (by assumption) | (simp only [hd11, hd16, hd24, hd32, hd46, hd70, hd75, endDepot, endDisk]; first | done | assumption | omega)
 · first | assumption | omega | (simp only [endDepot, endDisk]; omega) | exact tab_st ht (by assumption) | (simp only [hd11, hd16, hd24, hd32, hd46, hd70, hd75, endDepot, endDisk]; first | done | assumption | omega)
 rintro _ whs82 ⟨rfl, hs82⟩
 replace hs82 := hs80.call0 hs82
 refine ⟨_, rfl, WL.r 1 hs82 [] rfl (WL.nil (WC.seq (fun K83 hK83 => WC.r1 hs82 [] rfl ?_)))⟩
 refine WC.condF rfl (by first | (simp; done) | (simp; omega) | (simp [hd11, hd16, hd24, hd32, hd46, hd70, hd75]; done) | (simp [hd11, hd16, hd24, hd32, hd46, hd70, hd75]; omega) | (simp only [endDepot, endDisk]; simp; omega)) (WC.skip (hK83 _ _ (WC.seq (fun K85 hK85 => WC.r1 hs82 [] rfl ?_))))
 refine WC.condF rfl (by first | (simp; done) | (simp; omega) | (simp [hd11, hd16, hd24, hd32, hd46, hd70, hd75]; done) | (simp [hd11, hd16, hd24, hd32, hd46, hd70, hd75]; omega) | (simp only [endDepot, endDisk]; simp; omega)) (WC.skip (hK85 _ _ (WC.r1 hs82 [] rfl (WC.ret (rtv rfl rfl hs82 ?_)))))
 rfl
open Go Go.RowKit Go.ChangeShapes Go.WideShapes Go.ChangeAt Go.Deep
theorem list_succ {n : Nat} {l : List Value} (h : l.length = n + 1) : ∃ c r, l = c :: r ∧ r.length = n := by
 cases l with
 | nil => simp at h
 | cons c r => exact ⟨c, r, rfl, by simpa using h⟩
theorem list_zero {l : List Value} (h : l.length = 0) : l = [] := List.eq_nil_of_length_eq_zero h
section
variable {H : Type} {enc : TypeId × Value → H} {P : Program} {w : World} {base : Nat} {spare : Nat → Bool} {held : Bool} {fuel : Nat} {t e : TypeId} {cs : List Value} {x : DataW H × List MemPlace}
theorem trod_flds {fs : Array Field} (ht : P.underlying t = some (.struct fs)) (h : DataW.trod enc P w base spare held fuel t cs = some x) :
  cs.length = P.cellsOf t ∧ ∃ n, ∀ (i : Nat) (f : Field), fs.toList[i]? = some f → ∃ y, DataW.trod enc P w base spare held n f.type ((cs.drop f.offset).take (P.cellsOf f.type)) = some y := by
 obtain ⟨xs, n, _, _, hl, hlen, hg⟩ := DataW.trod_struct ht h
 refine ⟨hl, n, fun i f hf => ?_⟩
 have hf' : fs[i]? = some f := by simpa using hf
 have hi : i < xs.length := by rw [hlen]; exact (Array.getElem?_eq_some_iff.1 hf').1
 exact ⟨xs[i], (hg i f hf').trans (List.getElem?_eq_getElem hi)⟩
theorem open_i64 (ht : P.underlying t = some (.int .i64)) (h : DataW.trod enc P w base spare held fuel t cs = some x) : ∃ n, cs = [i64 n] ∧ In64 n := by
 obtain ⟨n, rfl, _, hw⟩ := DataW.trod_int ht h
 refine ⟨n, rfl, ?_⟩
 simp [Lit.wf, IntKind.min, IntKind.max, IntKind.signed, IntKind.bits] at hw
 exact hw
theorem open_str (ht : P.underlying t = some .string) (h : DataW.trod enc P w base spare held fuel t cs = some x) : ∃ s, cs = [.string s] ∧ s.size ≤ 9223372036854775807 := by
 obtain ⟨s, rfl, _, hw⟩ := DataW.trod_string ht h
 exact ⟨s, rfl, by simpa [maxLen] using hw⟩
theorem open_bool' (ht : P.underlying t = some .bool) (h : DataW.trod enc P w base spare held fuel t cs = some x) : ∃ b, cs = [.bool b] := by
 obtain ⟨b, rfl, _⟩ := DataW.trod_bool ht h
 exact ⟨b, rfl⟩
theorem open_SlF {α : Type} {F : Enc α} {good : α → Prop} (ht : P.underlying t = some (.slice e)) (hc : P.cellsOf e = F.sz)
  (hE : ∀ n cs' y, DataW.trod enc P w base spare held n e cs' = some y → ∃ d, cs' = F.enc d ∧ good d) (h : DataW.trod enc P w base spare held fuel t cs = some x) :
  ∃ A n c xs, cs = [.slice A n c] ∧ SlF F w A n xs ∧ n ≤ 9223372036854775807 ∧ ∀ d, d ∈ xs → good d := by
 rcases open_slice ht h with ⟨rfl, _⟩ | ⟨a, l, c, m, n, D, Pl, rfl, _, hl, hm, hmm, _, hx⟩
 ·exact ⟨none, 0, 0, [], rfl, ⟨rfl, SlR.nil _ _ _⟩, by omega, fun z h => by cases h⟩
 ·have hlm : l ≤ m := by rw [hmm]; split <;> omega
  have : Inhabited α := ⟨F.dflt⟩
  have each : ∀ i, i < l → ∃ d : α, good d ∧ ∀ r, r < F.sz → w.cell? (a.add (i * F.sz + r)) = (F.enc d)[r]? := by
   intro i hi
   obtain ⟨cs', h1, h2⟩ := hx i (by omega)
   obtain ⟨d, rfl, hg⟩ := hE _ _ _ h2
   obtain ⟨_, _, h3⟩ := World.cells?_some h1
   refine ⟨d, hg, fun r hr => ?_⟩
   have := h3 r (by rw [hc]; exact hr)
   rw [← this, hc]
   congr 1
   rw [Addr.add_add']
  obtain ⟨d, hd⟩ := choose_lt each
  have hlen : ((List.range l).map d).length = l := by simp
  refine ⟨some a, l, c, (List.range l).map d, rfl, ⟨hlen, ⟨by rw [rows_len, hlen], fun _ => rfl, fun j v hv => ?_⟩⟩, by simp only [maxLen] at hm; omega, fun z hz => ?_⟩
  ·have hj := (List.getElem?_eq_some_iff.1 hv).1
   rw [rows_len, hlen] at hj
   have hp := F.pos
   have hi : j / F.sz < l := Nat.div_lt_of_lt_mul (by rw [Nat.mul_comm]; exact hj)
   have hr : j % F.sz < F.sz := Nat.mod_lt _ hp
   have ej : j / F.sz * F.sz + j % F.sz = j := by rw [Nat.mul_comm]; exact Nat.div_add_mod _ _
   have e1 := (hd (j / F.sz) hi).2 (j % F.sz) hr
   rw [ej] at e1
   show w.cell? (a.add j) = some v
   rw [e1, ← hv]
   have e2 := rows_get (F := F) (xs := (List.range l).map d) (k := j / F.sz) (by rw [hlen]; exact hi) hr
   rw [ej] at e2
   rw [e2]
   have e3 : gat F ((List.range l).map d) (j / F.sz) = d (j / F.sz) := by
    have := gat_get (F := F) (xs := (List.range l).map d) (k := j / F.sz) (by rw [hlen]; exact hi)
    rw [List.getElem?_map, List.getElem?_range hi] at this
    exact (Option.some.inj this).symm
   rw [e3]
  ·obtain ⟨i, hi, rfl⟩ := List.mem_map.1 hz
   exact (hd i (by simpa using hi)).1
theorem open_u8 (ht : P.underlying t = some (.int .u8)) (h : DataW.trod enc P w base spare held fuel t cs = some x) : ∃ b : UInt8, cs = encB.enc b ∧ True := by
 obtain ⟨n, rfl, _, hw⟩ := DataW.trod_int ht h
 simp [Lit.wf, IntKind.min, IntKind.max, IntKind.signed, IntKind.bits] at hw
 refine ⟨UInt8.ofNat n.toNat, ?_, trivial⟩
 show [Value.int .u8 n] = [Value.int .u8 (UInt8.ofNat n.toNat).toNat]
 congr 2
 rw [UInt8.toNat_ofNat']
 omega
theorem open_SlE {α : Type} {F : Enc α} {good : α → Prop} (ht : P.underlying t = some (.slice e)) (hc : P.cellsOf e = F.sz)
  (hE : ∀ n cs' y, DataW.trod enc P w base spare held n e cs' = some y → ∃ d, cs' = F.enc d ∧ good d) (h : DataW.trod enc P w base spare held fuel t cs = some x) :
  ∃ A n c xs, cs = [.slice A n c] ∧ SlF F w A n xs ∧ n ≤ c ∧ n ≤ 9223372036854775807 ∧ ∀ d, d ∈ xs → good d := by
 obtain ⟨A, n, c, xs, e1, f, hn, hg⟩ := open_SlF ht hc hE h
 refine ⟨A, n, c, xs, e1, f, ?_, hn, hg⟩
 rcases open_slice ht h with ⟨e2, _⟩ | ⟨a, l, c', m, n', D, Pl, e2, _, hl, _⟩
 ·rw [e1] at e2
  cases e2
  exact Nat.le_refl _
 ·rw [e1] at e2
  cases e2
  exact hl
end
theorem cells_3 : Tryz.prog.cellsOf 3 = 1 := by kernel_rfl
theorem cells_5 : Tryz.prog.cellsOf 5 = 1 := by kernel_rfl
theorem cells_43 : Tryz.prog.cellsOf 43 = 1 := by kernel_rfl
theorem cells_148 : Tryz.prog.cellsOf 148 = 3 := by kernel_rfl
theorem open_FileR {H : Type} {enc : TypeId × Value → H} {w : World} {base : Nat} {spare : Nat → Bool} {held : Bool} {fuel : Nat} {cs : List Value} {x : DataW H × List MemPlace} (h : DataW.trod enc Tryz.prog w base spare held fuel 148 cs = some x) : ∃ d, cs = encFileR.enc d ∧ okFileR 9223372036854775807 w d := by
  obtain ⟨hl, n, hg⟩ := trod_flds Tryz.underlying148 h
  rw [cells_148] at hl
  obtain ⟨c0, l0, rfl, z0⟩ := list_succ hl
  obtain ⟨c1, l1, rfl, z1⟩ := list_succ z0
  obtain ⟨c2, l2, rfl, z2⟩ := list_succ z1
  obtain rfl := list_zero z2
  obtain ⟨y0, g0⟩ := hg 0 _ rfl
  rw [show Tryz.prog.cellsOf _ = 1 from cells_3] at g0
  replace g0 : DataW.trod _ _ _ _ _ _ _ 3 [c0] = _ := g0
  obtain ⟨x0, e0, w0⟩ := open_i64 Tryz.underlying3 g0
  obtain ⟨y1, g1⟩ := hg 1 _ rfl
  rw [show Tryz.prog.cellsOf _ = 1 from cells_43] at g1
  replace g1 : DataW.trod _ _ _ _ _ _ _ 43 [c1] = _ := g1
  obtain ⟨A1, n1, k1, x1, e1, f1, hc1, hn1, hg1⟩ := open_SlE (F := encB) (good := fun _ => True) Tryz.underlying43 cells_5 (fun _ _ _ h_ => open_u8 Tryz.underlying5 h_) g1
  obtain ⟨y2, g2⟩ := hg 2 _ rfl
  rw [show Tryz.prog.cellsOf _ = 1 from cells_3] at g2
  replace g2 : DataW.trod _ _ _ _ _ _ _ 3 [c2] = _ := g2
  obtain ⟨x2, e2, w2⟩ := open_i64 Tryz.underlying3 g2
  cases e0
  cases e1
  cases e2
  exact ⟨⟨x0, ⟨A1, n1, k1, x1⟩, x2⟩, rfl, ⟨f1, hc1, hn1⟩⟩
theorem cells_9 : Tryz.prog.cellsOf 9 = 1 := by kernel_rfl
theorem cells_150 : Tryz.prog.cellsOf 150 = 2 := by kernel_rfl
def goodLink (d : LinkD) : Prop := d.Name.size ≤ 9223372036854775807 ∧ In64 d.Id
theorem open_Link {H : Type} {enc : TypeId × Value → H} {w : World} {base : Nat} {spare : Nat → Bool} {held : Bool} {fuel : Nat} {cs : List Value} {x : DataW H × List MemPlace} (h : DataW.trod enc Tryz.prog w base spare held fuel 150 cs = some x) : ∃ d, cs = encLink.enc d ∧ goodLink d := by
  obtain ⟨hl, n, hg⟩ := trod_flds Tryz.underlying150 h
  rw [cells_150] at hl
  obtain ⟨c0, l0, rfl, z0⟩ := list_succ hl
  obtain ⟨c1, l1, rfl, z1⟩ := list_succ z0
  obtain rfl := list_zero z1
  obtain ⟨y0, g0⟩ := hg 0 _ rfl
  rw [show Tryz.prog.cellsOf _ = 1 from cells_9] at g0
  replace g0 : DataW.trod _ _ _ _ _ _ _ 9 [c0] = _ := g0
  obtain ⟨x0, e0, w0⟩ := open_str Tryz.underlying9 g0
  obtain ⟨y1, g1⟩ := hg 1 _ rfl
  rw [show Tryz.prog.cellsOf _ = 1 from cells_3] at g1
  replace g1 : DataW.trod _ _ _ _ _ _ _ 3 [c1] = _ := g1
  obtain ⟨x1, e1, w1⟩ := open_i64 Tryz.underlying3 g1
  cases e0
  cases e1
  exact ⟨⟨x0, x1⟩, rfl, ⟨w0, w1⟩⟩
theorem smLink_good {d : LinkD} (h : goodLink d) : smLink 9223372036854775807 d := h.1
theorem cells_152 : Tryz.prog.cellsOf 152 = 4 := by kernel_rfl
def goodTurn (d : TurnD) : Prop := In64 d.Kind ∧ d.Name.size ≤ 9223372036854775807 ∧ d.To.size ≤ 9223372036854775807 ∧ In64 d.Id
theorem open_Turn {H : Type} {enc : TypeId × Value → H} {w : World} {base : Nat} {spare : Nat → Bool} {held : Bool} {fuel : Nat} {cs : List Value} {x : DataW H × List MemPlace} (h : DataW.trod enc Tryz.prog w base spare held fuel 152 cs = some x) : ∃ d, cs = encTurn.enc d ∧ goodTurn d := by
  obtain ⟨hl, n, hg⟩ := trod_flds Tryz.underlying152 h
  rw [cells_152] at hl
  obtain ⟨c0, l0, rfl, z0⟩ := list_succ hl
  obtain ⟨c1, l1, rfl, z1⟩ := list_succ z0
  obtain ⟨c2, l2, rfl, z2⟩ := list_succ z1
  obtain ⟨c3, l3, rfl, z3⟩ := list_succ z2
  obtain rfl := list_zero z3
  obtain ⟨y0, g0⟩ := hg 0 _ rfl
  rw [show Tryz.prog.cellsOf _ = 1 from cells_3] at g0
  replace g0 : DataW.trod _ _ _ _ _ _ _ 3 [c0] = _ := g0
  obtain ⟨x0, e0, w0⟩ := open_i64 Tryz.underlying3 g0
  obtain ⟨y1, g1⟩ := hg 1 _ rfl
  rw [show Tryz.prog.cellsOf _ = 1 from cells_9] at g1
  replace g1 : DataW.trod _ _ _ _ _ _ _ 9 [c1] = _ := g1
  obtain ⟨x1, e1, w1⟩ := open_str Tryz.underlying9 g1
  obtain ⟨y2, g2⟩ := hg 2 _ rfl
  rw [show Tryz.prog.cellsOf _ = 1 from cells_9] at g2
  replace g2 : DataW.trod _ _ _ _ _ _ _ 9 [c2] = _ := g2
  obtain ⟨x2, e2, w2⟩ := open_str Tryz.underlying9 g2
  obtain ⟨y3, g3⟩ := hg 3 _ rfl
  rw [show Tryz.prog.cellsOf _ = 1 from cells_3] at g3
  replace g3 : DataW.trod _ _ _ _ _ _ _ 3 [c3] = _ := g3
  obtain ⟨x3, e3, w3⟩ := open_i64 Tryz.underlying3 g3
  cases e0
  cases e1
  cases e2
  cases e3
  exact ⟨⟨x0, x1, x2, x3⟩, rfl, ⟨w0, w1, w2, w3⟩⟩
theorem smTurn_good {d : TurnD} (h : goodTurn d) : smTurn 9223372036854775807 d := ⟨h.2.1, h.2.2.1⟩
theorem cells_22 : Tryz.prog.cellsOf 22 = 1 := by kernel_rfl
theorem cells_23 : Tryz.prog.cellsOf 23 = 1 := by kernel_rfl
theorem cells_24 : Tryz.prog.cellsOf 24 = 1 := by kernel_rfl
theorem cells_26 : Tryz.prog.cellsOf 26 = 6 := by kernel_rfl
theorem open_DiskR {H : Type} {enc : TypeId × Value → H} {w : World} {base : Nat} {spare : Nat → Bool} {held : Bool} {fuel : Nat} {cs : List Value} {x : DataW H × List MemPlace} (h : DataW.trod enc Tryz.prog w base spare held fuel 26 cs = some x) : ∃ d, cs = encDiskR.enc d ∧ okDiskR 9223372036854775807 w d := by
  obtain ⟨hl, n, hg⟩ := trod_flds Tryz.underlying26 h
  rw [cells_26] at hl
  obtain ⟨c0, l0, rfl, z0⟩ := list_succ hl
  obtain ⟨c1, l1, rfl, z1⟩ := list_succ z0
  obtain ⟨c2, l2, rfl, z2⟩ := list_succ z1
  obtain ⟨c3, l3, rfl, z3⟩ := list_succ z2
  obtain ⟨c4, l4, rfl, z4⟩ := list_succ z3
  obtain ⟨c5, l5, rfl, z5⟩ := list_succ z4
  obtain rfl := list_zero z5
  obtain ⟨y0, g0⟩ := hg 0 _ rfl
  rw [show Tryz.prog.cellsOf _ = 1 from cells_3] at g0
  replace g0 : DataW.trod _ _ _ _ _ _ _ 3 [c0] = _ := g0
  obtain ⟨x0, e0, w0⟩ := open_i64 Tryz.underlying3 g0
  obtain ⟨y1, g1⟩ := hg 1 _ rfl
  rw [show Tryz.prog.cellsOf _ = 1 from cells_3] at g1
  replace g1 : DataW.trod _ _ _ _ _ _ _ 3 [c1] = _ := g1
  obtain ⟨x1, e1, w1⟩ := open_i64 Tryz.underlying3 g1
  obtain ⟨y2, g2⟩ := hg 2 _ rfl
  rw [show Tryz.prog.cellsOf _ = 1 from cells_3] at g2
  replace g2 : DataW.trod _ _ _ _ _ _ _ 3 [c2] = _ := g2
  obtain ⟨x2, e2, w2⟩ := open_i64 Tryz.underlying3 g2
  obtain ⟨y3, g3⟩ := hg 3 _ rfl
  rw [show Tryz.prog.cellsOf _ = 1 from cells_22] at g3
  replace g3 : DataW.trod _ _ _ _ _ _ _ 22 [c3] = _ := g3
  obtain ⟨A3, n3, k3, x3, e3, f3, hc3, hn3, hg3⟩ := open_SlE (F := encFileR) (good := fun d => okFileR 9223372036854775807 w d) Tryz.underlying22 cells_148 (fun _ _ _ h_ => open_FileR h_) g3
  obtain ⟨y4, g4⟩ := hg 4 _ rfl
  rw [show Tryz.prog.cellsOf _ = 1 from cells_23] at g4
  replace g4 : DataW.trod _ _ _ _ _ _ _ 23 [c4] = _ := g4
  obtain ⟨A4, n4, k4, x4, e4, f4, hc4, hn4, hg4⟩ := open_SlE (F := encLink) (good := goodLink) Tryz.underlying23 cells_150 (fun _ _ _ h_ => open_Link h_) g4
  obtain ⟨y5, g5⟩ := hg 5 _ rfl
  rw [show Tryz.prog.cellsOf _ = 1 from cells_24] at g5
  replace g5 : DataW.trod _ _ _ _ _ _ _ 24 [c5] = _ := g5
  obtain ⟨A5, n5, k5, x5, e5, f5, hc5, hn5, hg5⟩ := open_SlE (F := encTurn) (good := goodTurn) Tryz.underlying24 cells_152 (fun _ _ _ h_ => open_Turn h_) g5
  cases e0
  cases e1
  cases e2
  cases e3
  cases e4
  cases e5
  exact ⟨⟨x0, x1, x2, ⟨A3, n3, k3, x3⟩, ⟨A4, n4, k4, x4⟩, ⟨A5, n5, k5, x5⟩⟩, rfl, ⟨⟨f3, hg3⟩, hc3, hn3, f4, hc4, hn4, fun y hy => smLink_good (hg4 y hy), f5, hc5, hn5, fun y hy => smTurn_good (hg5 y hy)⟩⟩
theorem cells_4 : Tryz.prog.cellsOf 4 = 1 := by kernel_rfl
theorem cells_28 : Tryz.prog.cellsOf 28 = 10 := by kernel_rfl
theorem open_DepotR {H : Type} {enc : TypeId × Value → H} {w : World} {base : Nat} {spare : Nat → Bool} {held : Bool} {fuel : Nat} {cs : List Value} {x : DataW H × List MemPlace} (h : DataW.trod enc Tryz.prog w base spare held fuel 28 cs = some x) : ∃ d, cs = encDepotR.enc d ∧ okDepotR 9223372036854775807 w d := by
  obtain ⟨hl, n, hg⟩ := trod_flds Tryz.underlying28 h
  rw [cells_28] at hl
  obtain ⟨c0, l0, rfl, z0⟩ := list_succ hl
  obtain ⟨c1, l1, rfl, z1⟩ := list_succ z0
  obtain ⟨c2, l2, rfl, z2⟩ := list_succ z1
  obtain ⟨c3, l3, rfl, z3⟩ := list_succ z2
  obtain ⟨c4, l4, rfl, z4⟩ := list_succ z3
  obtain ⟨c5, l5, rfl, z5⟩ := list_succ z4
  obtain ⟨c6, l6, rfl, z6⟩ := list_succ z5
  obtain ⟨c7, l7, rfl, z7⟩ := list_succ z6
  obtain ⟨c8, l8, rfl, z8⟩ := list_succ z7
  obtain ⟨c9, l9, rfl, z9⟩ := list_succ z8
  obtain rfl := list_zero z9
  obtain ⟨y0, g0⟩ := hg 0 _ rfl
  rw [show Tryz.prog.cellsOf _ = 6 from cells_26] at g0
  replace g0 : DataW.trod _ _ _ _ _ _ _ 26 [c0, c1, c2, c3, c4, c5] = _ := g0
  obtain ⟨x0, e0, o0⟩ := open_DiskR g0
  replace e0 : [c0, c1, c2, c3, c4, c5] = [i64 x0.Room, i64 x0.Fuse, i64 x0.Next, .slice x0.Files.A x0.Files.n x0.Files.c, .slice x0.Kept.A x0.Kept.n x0.Kept.c, .slice x0.Turns.A x0.Turns.n x0.Turns.c] := e0
  obtain ⟨y1, g1⟩ := hg 1 _ rfl
  rw [show Tryz.prog.cellsOf _ = 1 from cells_3] at g1
  replace g1 : DataW.trod _ _ _ _ _ _ _ 3 [c6] = _ := g1
  obtain ⟨x1, e1, w1⟩ := open_i64 Tryz.underlying3 g1
  obtain ⟨y2, g2⟩ := hg 2 _ rfl
  rw [show Tryz.prog.cellsOf _ = 1 from cells_3] at g2
  replace g2 : DataW.trod _ _ _ _ _ _ _ 3 [c7] = _ := g2
  obtain ⟨x2, e2, w2⟩ := open_i64 Tryz.underlying3 g2
  obtain ⟨y3, g3⟩ := hg 3 _ rfl
  rw [show Tryz.prog.cellsOf _ = 1 from cells_3] at g3
  replace g3 : DataW.trod _ _ _ _ _ _ _ 3 [c8] = _ := g3
  obtain ⟨x3, e3, w3⟩ := open_i64 Tryz.underlying3 g3
  obtain ⟨y4, g4⟩ := hg 4 _ rfl
  rw [show Tryz.prog.cellsOf _ = 1 from cells_4] at g4
  replace g4 : DataW.trod _ _ _ _ _ _ _ 4 [c9] = _ := g4
  obtain ⟨x4, e4⟩ := open_bool' Tryz.underlying4 g4
  cases e0
  cases e1
  cases e2
  cases e3
  cases e4
  exact ⟨⟨x0, x1, x2, x3, x4⟩, rfl, ⟨o0⟩⟩
namespace fnExactFlush
open Go.ChangeShapes Go.WideShapes Go.ChangeAt Go.WideMaps Go.WideElems Go.RowKit
theorem own : ownKnob Tryz.prog.godebug = none := by kernel_rfl
theorem laidOut : laidOutB Tryz.prog = true := by kernel_rfl
def laid3 : List (String × DataW Unit) := [("math/bits.deBruijn32tab", Rows.laid_math_bits_deBruijn32tab), ("math/bits.deBruijn64tab", Rows.laid_math_bits_deBruijn64tab), ("internal/strconv.uint64pow10", Rows.laid_internal_strconv_uint64pow10)]
theorem door_met (os : Os) (args : Array Value) : laidMetH Tryz.prog laid3 ((World.doorLaid Tryz.prog 400 os).forCall (fun _ _ => 0) ⟨#[], args, []⟩).memory :=
  laidMetH_of_parts3 (fuel := 8) (laidMet_of_run' 8 (by kernel_rfl) (by kernel_rfl)) (by kernel_rfl) (by kernel_rfl)
theorem tabData_is : (Rows.laid_internal_strconv_uint64pow10 : DataW Unit) = Go.Lib.tabData .u64 Go.Lib.pow10Tab := by kernel_rfl
theorem tab_of {W : World} (h : laidMetH Tryz.prog laid3 W) : TabOk W := by
  rw [MakeChecks.laidMetH_plain _ _ _ (by kernel_rfl)] at h
  obtain ⟨ps, ⟨_, _, _, _, _, _, _, _, _, _, ⟨_, _, _, _, _, _, _, _, _, _, ⟨g, t, cs, fuel, p, q, hg, ht, hvar, hd, _, _⟩, _⟩, _⟩, _, _⟩ := h
  obtain rfl := Option.some.inj ((show Tryz.prog.globalNamed "internal/strconv.uint64pow10" = some 1 by kernel_rfl).symm.trans hg)
  have hty : (Tryz.prog.globals[1]?).map (·.type) = some t := ht
  obtain rfl := Option.some.inj ((show (Tryz.prog.globals[1]?).map (·.type) = some 240 by kernel_rfl).symm.trans hty)
  rw [tabData_is] at hd
  unfold TabOk Go.Lib.TabIs
  rw [hvar, ← Go.Lib.cells_of_tab Tryz.underlying240 Tryz.underlying219 (show Tryz.prog.cellsOf 219 = 1 by kernel_rfl) (show Tryz.prog.cellsOf 240 = 20 by kernel_rfl) hd]
set_option maxRecDepth 100000 in
set_option maxHeartbeats 1000000 in
theorem lifted (os : Os) (started : os.Started) (H : Type) (enc : TypeId × Value → H) :
    ReturnsInHanded {} Tryz.checked os 3 .any (fun w args => (Rows.fnExactFlushSpec.pre enc Tryz.prog Tryz.f3 [] false w args ∧ laidMetH Tryz.prog laid3 w) ∧ sizedMet enc Tryz.prog Tryz.f3 (OpenSpec.ofChange Rows.fnExactFlushSpec) false w args) (Rows.fnExactFlushSpec.post enc Tryz.prog Tryz.f3 false true false false) := by
  refine returnsInHanded_of_change_and (C := Tryz.checked) (X := fun w _ => laidMetH Tryz.prog laid3 w) (fun _ _ _ hh h => h.of_heap hh) own started (by kernel_rfl) Tryz.func3
    (ChangeSpec.witness_shaped (enc := enc) (C := Tryz.checked) (os := os) (X := fun w _ => laidMetH Tryz.prog laid3 w) false (World.doorLaid Tryz.prog 400 os) #[(Value.agg #[Value.int IntKind.i64 0, Value.int IntKind.i64 0, Value.int IntKind.i64 0, Value.slice none 0 0, Value.slice none 0 0, Value.slice none 0 0, Value.int IntKind.i64 0, Value.int IntKind.i64 0, Value.int IntKind.i64 0, Value.bool false])] 8 rfl (World.shaped_of_RefB (by kernel_rfl) (by kernel_rfl)) (by kernel_rfl) (by kernel_rfl) (by kernel_rfl) (door_met os _)) ?_
  intro W base args ds gs before hval0 hW _ _ hL _
  have hval : ∀ (j : Nat) t v, Tryz.f3.params[j]? = some t → args[j]? = some v → Value.okWide Tryz.prog W .any base t v := hval0
  have hW' := hW
  obtain ⟨p, q, hA0, hV, rfl, hfz, hnd⟩ := hW
  have hA : DataW.TrodAll enc Tryz.prog W 0 (fun _ => true) true Tryz.f3.params.toList args.toList ds p := hA0
  rw [Tryz.params3] at hA hval
  obtain ⟨v0, vs0, d0, ds0, p0, q0, hargs, rfl, rfl, h0, r0⟩ := trodAll_cons hA
  obtain ⟨rfl, rfl, rfl⟩ := trodAll_nil r0
  obtain rfl : args = #[v0] := by cases args; simp_all
  obtain ⟨rfl, rfl⟩ := trodVars_none hV
  have k0 := h0
  have lt0 : ∀ x ∈ p0, x.block < W.heap.size := by obtain ⟨m, hm⟩ := k0; exact DataW.trod_lt m _ _ _ hm
  obtain ⟨cs0, rfl, hsz0⟩ := okWide_struct Tryz.underlying28 (hval 0 28 v0 rfl rfl)
  obtain ⟨l0⟩ := cs0
  obtain ⟨fuel0, hf0⟩ := h0
  replace hf0 : DataW.trod _ _ _ _ _ _ _ 28 l0 = _ := hf0
  obtain ⟨aP, rfl, f_aP⟩ := open_DepotR hf0
  have htab := tab_of hL
  clear hA0 hval0
  refine (k126_ aP W f_aP htab).mono fun e W' ⟨he, hst⟩ => ?_
  have bel := hst.toBelow
  subst he
  exact ⟨_, rfl, _, _, _, [], _, [], hW', trodAll_mk1 (shut_bool Tryz.underlying4 _), (trodAll_cons_mk (Below.trod laidOut (by kernel_rfl) (of_decide_eq_true (by kernel_rfl)) k0 bel lt0) trodAll_mk0), rfl, bel.frame _, fun h => by cases h⟩
theorem over : Rows.FnExactFlushSaid :=
  OpenClaim.holds_of_wide 3 Tryz.f3 rfl rfl rfl rfl rfl rfl rfl ⟨rfl, rfl, rfl, rfl, rfl⟩ rfl rfl rfl rfl rfl (by kernel_rfl) Tryz.func3 (by kernel_rfl)
    (of_decide_eq_true (by kernel_rfl)) (by unfold Func.isWrapper; first | (rw [if_pos (by decide +kernel)]; kernel_rfl) | (rw [if_neg (by decide +kernel)]; exact ⟨rfl, rfl⟩))
    (fun os started H enc _ => lifted os started H enc)
end fnExactFlush
theorem fnExactFlush_holds : Rows.FnExactFlushCardSaid :=
  Claim7.holds_tied_plain_at .later [] [.data, .data, .data] true (true, "519186e7b6d5c76881cdc02540f2bf6a1d5bdcfe8883cd8906e5a41617715c50") true
    fnExactFlush.over (fun _ h => by cases h) (by kernel_rfl) (fun _ h => by cases h) fnExactFlush_row_tie rfl ⟨rfl, rfl⟩ (by kernel_rfl) rfl
    (fun f fn hf hfn => by
      obtain rfl : f = 3 := Option.some.inj ((show Tryz.prog.funcNamed "loop.example/g00661/laws.FnExactFlush" = some 3 by kernel_rfl).symm.trans hf) |>.symm
      obtain rfl : fn = Tryz.f3 := (Option.some.inj (Tryz.func3.symm.trans hfn)).symm
      exact ⟨by kernel_rfl, fun j t ht => by
        rw [Tryz.params3] at ht
        have hm : t ∈ [28] := by simpa using Array.mem_of_getElem? ht
        have hall : ([28].all fun u => !Tryz.prog.wantsStandIn u) = true := by kernel_rfl
        exact (show Tryz.prog.wantsStandIn t = false by simpa using List.all_eq_true.1 hall t hm)⟩)
    (by kernel_rfl)
end Go.Proofs.YtcpnlodkmkfplaaGreatDoor
