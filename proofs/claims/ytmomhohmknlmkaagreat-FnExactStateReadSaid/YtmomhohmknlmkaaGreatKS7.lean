/-
  The statement: for every input the law returns true. No condition. (And what it stands on, the last part.)
-/
import Derived.Test.YtmomhohmknlmkaaGreatKS6
namespace Go.Proofs.YtmomhohmknlmkaaGreat
open Go Go.RowKit
set_option linter.unusedVariables false
set_option linter.unusedSimpArgs false
set_option maxHeartbeats 16000000 in
set_option maxRecDepth 20000 in
theorem E2 (A_a:Option Addr) (n_a c_a:Nat) (a:List cr) (k:Int) (w:World) (f_a:cT bW (dz 549755813888) w A_a n_a (ex ct cw k a)) (h1:0≤k) (h2:k+dm cw a≤549755813888) (h3:n_a≤549755813888) :
    Calls Tryz.prog 45 #[.slice A_a n_a c_a,i64 k] w fun e w'=>e = .returned (.int .i64 (k+dm cw a))∧St w [] [] w':=by
 have hl:a.length=n_a:=by have h_:=f_a.sl.len;simpa [eW] using h_
 have ag:∀ x,0≤cw x:=kq
 refine enter 492 Tryz.func45 rfl Tryz.ntmps45 rfl rfl ?_
 have Z:=St.init w
 refine WC.r1 Z [] rfl (WC.seq (fun K2 a2=>WC.r1 Z [] rfl (WC.block ?_)))
 refine WC.lS [0] rfl Z (fun k_ f w'=>∃ (i:Nat),k_=n_a-i∧(i≤n_a)∧cC [(5,.int .i64 i),(1,.int .i64 (k+dm cw (a.take i)))] f) ((fun (i:Nat)=>n_a-i) (0)) ?_ ?_
 ·refine ⟨0,rfl,?_,⟨rfl,?_,trivial⟩⟩
  · exact Nat.zero_le _
  · (refine congrArg some (congrArg (Value.int _) ?_);simp [dm])
 clear Z
 rintro _ f w ⟨i,rfl,p0,hG⟩ hF U
 refine WC.sub _ (hG.app hF) ?_
 clear hG hF
 have fo:=dJ (c:=cw) ag (a.take i)
 have fr:=eJ ag a i
 refine WC.seq (fun K4 a6=>WC.r1 U [] rfl ?_)
 refine WC.cD rfl (fun a7=>?_) (fun a7=>?_)
 ·have G:=nf (mk:=ct) (c:=cw) (F:=bW) (k:=k) (xs:=a) (i:=i) (by omega)
  have a8:=fM (c:=cw) (F:=bW) (xs:=a) (i:=i) (by omega)
  have f2:=eJ ag a (i+1)
  simp only [cw] at a8
  have N:=(cT.nth f_a (show i<n_a by omega))
  rw [G] at N
  have ba:=N.Term.P.Args.len
  have bb:=N.Term.P.Part.len
  have bc:=N.Term.S.Main.Cells.len
  have bd:=N.Term.S.Alt.Cells.len
  have bg:=N.Term.S.Tabs.len
  have bo:=N.Term.S.Back.sl.len
  have bx:=N.Term.P.Args_n
  have b0:=N.Term.P.Part_n
  have b1:=N.Term.S.Main.Cells_n
  have b2:=N.Term.S.Alt.Cells_n
  have b3:=N.Term.S.Tabs_n
  have b4:=N.Term.S.Back_n
  simp only [ct,er,eW] at ba bx bb b0 bc b1 bd b2 bg b3 bo b4
  have f3:=dJ (c:=dv) oU (bO bW a i).Term.S.Back.xs
  have f4:(bO bW (ex ct cw k a) i).Term.P.Args.n=(bO bW a i).Term.P.Args.n:=by rw [G];rfl
  have f5:(bO bW (ex ct cw k a) i).Term.P.Part.n=(bO bW a i).Term.P.Part.n:=by rw [G];rfl
  have ga:(bO bW (ex ct cw k a) i).Term.S.Main.Cells.n=(bO bW a i).Term.S.Main.Cells.n:=by rw [G];rfl
  have gb:(bO bW (ex ct cw k a) i).Term.S.Alt.Cells.n=(bO bW a i).Term.S.Alt.Cells.n:=by rw [G];rfl
  have gc:(bO bW (ex ct cw k a) i).Term.S.Tabs.n=(bO bW a i).Term.S.Tabs.n:=by rw [G];rfl
  have gm:(bO bW (ex ct cw k a) i).Term.S.Back.n=(bO bW a i).Term.S.Back.n:=by rw [G];rfl
  have b5:(bO bW (ex ct cw k a) i).Term.P.Args.xs=eP (fun k=>k) 1 (((((((((k+dm cw (a.take i))+1)+1)+1)+1)+1)+1)+1)+1) (bO bW a i).Term.P.Args.xs.length:=by rw [G];rfl
  have b6:(bO bW (ex ct cw k a) i).Term.P.Part.xs=eP ub 1 ((((((((((k+dm cw (a.take i))+1)+1)+1)+1)+1)+1)+1)+1)+1*((bO bW a i).Term.P.Args.xs.length:Int)) (bO bW a i).Term.P.Part.xs.length:=by rw [G];rfl
  have b7:(bO bW (ex ct cw k a) i).Term.S.Main.Cells.xs=eP eu 6 (((((((((((((((k+dm cw (a.take i))+1)+1)+1)+1)+1)+1)+1)+1)+1*((bO bW a i).Term.P.Args.xs.length:Int))+1*((bO bW a i).Term.P.Part.xs.length:Int))+1)+1)+1)+1) (bO bW a i).Term.S.Main.Cells.xs.length:=by rw [G];rfl
  have b8:(bO bW (ex ct cw k a) i).Term.S.Alt.Cells.xs=eP eu 6 ((((((((((((((((((k+dm cw (a.take i))+1)+1)+1)+1)+1)+1)+1)+1)+1*((bO bW a i).Term.P.Args.xs.length:Int))+1*((bO bW a i).Term.P.Part.xs.length:Int))+1)+1)+1)+1)+6*((bO bW a i).Term.S.Main.Cells.xs.length:Int))+1)+1) (bO bW a i).Term.S.Alt.Cells.xs.length:=by rw [G];rfl
  have b9:(bO bW (ex ct cw k a) i).Term.S.Tabs.xs=eP (fun k=>k) 1 (((((((((((((((((((((((((((((((((((((((k+dm cw (a.take i))+1)+1)+1)+1)+1)+1)+1)+1)+1*((bO bW a i).Term.P.Args.xs.length:Int))+1*((bO bW a i).Term.P.Part.xs.length:Int))+1)+1)+1)+1)+6*((bO bW a i).Term.S.Main.Cells.xs.length:Int))+1)+1)+6*((bO bW a i).Term.S.Alt.Cells.xs.length:Int))+1)+1)+1)+1)+1)+1)+1)+1)+1)+1)+1)+1)+1)+1)+1)+1)+1)+1)+1)+1) (bO bW a i).Term.S.Tabs.xs.length:=by rw [G];rfl
  have ck:(bO bW (ex ct cw k a) i).Term.S.Back.xs=ex gU dv (((((((((((((((((((((((((((((((((((((((((k+dm cw (a.take i))+1)+1)+1)+1)+1)+1)+1)+1)+1*((bO bW a i).Term.P.Args.xs.length:Int))+1*((bO bW a i).Term.P.Part.xs.length:Int))+1)+1)+1)+1)+6*((bO bW a i).Term.S.Main.Cells.xs.length:Int))+1)+1)+6*((bO bW a i).Term.S.Alt.Cells.xs.length:Int))+1)+1)+1)+1)+1)+1)+1)+1)+1)+1)+1)+1)+1)+1)+1)+1)+1)+1)+1)+1)+1*((bO bW a i).Term.S.Tabs.xs.length:Int))+1) (bO bW a i).Term.S.Back.xs:=by rw [G];rfl
  have al:=(cT.nth f_a (show i<n_a by omega)).Term.S.Back
  rw [ck] at al
  refine WC.skip (a6 _ _ (WC.seq (fun K6 cq=>WC.block (WC.seq (fun K7 cN=>WC.sr (WL.r 2 U [] rfl ?_))))))
  refine WL.ix af ab rfl rfl rfl rfl rfl rfl (bN.st0 f_a.sl U) ?_
  refine WL.fs 0 rfl (WL.val rfl rfl rfl (bP.load ac rfl rfl (bN.fld (bN.st0 f_a.sl U) ?_ rfl)) ?_)
  · omega
  refine WL.r 2 U [] rfl (WL.nil (WC.condF rfl (by simp [G,ct]) (WC.skip (cN _ _ (WC.r1 U [] rfl (WC.seq (fun K9 c1=>WC.sq1 U ?_)))))))
  refine WQ.r 2 [] rfl ?_
  refine WQ.val rfl rfl rfl (fun w_ hs_=>(bP.idxN af ab rfl rfl rfl ?_ ?_ ?_)) ?_
  · exact bN.some_ (bN.st0 f_a.sl (hs_:St _ _ _ _))
  · omega
  · omega
  refine WQ.val rfl rfl rfl (fun w_ hs_=>(bP.fieldO bA rfl rfl rfl aK rfl)) ?_
  refine WQ.val rfl rfl rfl (fun w_ hs_=>(bP.load bj rfl rfl (bN.fld (bN.st0 f_a.sl (hs_:St _ _ _ _)) ?_ rfl))) ?_
  · omega
  refine WQ.r 1 [] rfl ?_
  refine WQ.c0 Tryz.call98 rfl (fun w_ hs_=>nl _ _ ?_) ?_
  · first | assumption | rfl | omega
  refine WQ.r 1 [] rfl (WQ.nil (fun _ (aB:St _ _ _ _)=>WC.condF rfl (by simp [G,ct]) (WC.skip (c1 _ _ (WC.r1 aB [] rfl (WC.seq (fun g0 c2=>WC.sq1 aB ?_)))))))
  refine WQ.r 2 [] rfl ?_
  refine WQ.val rfl rfl rfl (fun w_ hs_=>(bP.idxN af ab rfl rfl rfl ?_ ?_ ?_)) ?_
  · exact bN.some_ (bN.st0 f_a.sl (hs_:St _ _ _ _))
  · omega
  · omega
  refine WQ.val rfl rfl rfl (fun w_ hs_=>(bP.fieldO bA rfl rfl rfl aK rfl)) ?_
  refine WQ.val rfl rfl rfl (fun w_ hs_=>(bP.load bj rfl rfl (bN.fld (bN.st0 f_a.sl (hs_:St _ _ _ _)) ?_ rfl))) ?_
  · omega
  refine WQ.r 1 [] rfl ?_
  refine WQ.c0 Tryz.call98 rfl (fun w_ hs_=>nl _ _ ?_) ?_
  · first | assumption | rfl | omega
  refine WQ.r 1 [] rfl (WQ.nil (fun _ (I:St _ _ _ _)=>WC.condF rfl (by simp [G,ct]) (WC.skip (c2 _ _ (WC.r1 I [] rfl (WC.seq (fun g1 c3=>WC.sr ?_)))))))
  refine WL.r 2 I [] rfl (WL.ix af ab rfl rfl rfl rfl rfl rfl (bN.st0 f_a.sl I) ?_)
  refine WL.fs 0 rfl (WL.val rfl rfl rfl (bP.load ac rfl rfl (bN.fld (bN.st0 f_a.sl I) ?_ rfl)) ?_)
  · omega
  refine WL.r 2 I [] rfl (WL.nil (WC.condF rfl (by simp [G,ct]) (WC.skip (c3 _ _ (WC.r1 I [] rfl (WC.seq (fun g2 c4=>WC.sr ?_)))))))
  refine WL.r 2 I [] rfl (WL.ix af ab rfl rfl rfl rfl rfl rfl (bN.st0 f_a.sl I) ?_)
  refine WL.fs 0 rfl (WL.val rfl rfl rfl (bP.load ac rfl rfl (bN.fld (bN.st0 f_a.sl I) ?_ rfl)) ?_)
  · omega
  refine WL.r 2 I [] rfl (WL.nil (WC.condF rfl (by simp [G,ct]) (WC.skip (c4 _ _ (WC.r1 I [] rfl (WC.seq (fun g3 c5=>WC.sr ?_)))))))
  refine WL.r 2 I [] rfl (WL.ix af ab rfl rfl rfl rfl rfl rfl (bN.st0 f_a.sl I) ?_)
  refine WL.fs 0 rfl (WL.val rfl rfl rfl (bP.load ac rfl rfl (bN.fld (bN.st0 f_a.sl I) ?_ rfl)) ?_)
  · omega
  refine WL.r 2 I [] rfl (WL.nil (WC.condF rfl (by simp [G,ct]) (WC.skip (c5 _ _ (WC.r1 I [] rfl (WC.seq (fun g4 c6=>WC.sr ?_)))))))
  refine WL.r 2 I [] rfl (WL.ix af ab rfl rfl rfl rfl rfl rfl (bN.st0 f_a.sl I) ?_)
  refine WL.fs 2 rfl (WL.val rfl rfl rfl (bP.load ac rfl rfl (bN.fld (bN.st0 f_a.sl I) ?_ rfl)) ?_)
  · omega
  refine WL.r 2 I [] rfl (WL.nil (WC.condF rfl (by simp [G,ct]) (WC.skip (c6 _ _ (WC.r1 I [] rfl (WC.seq (fun g5 c7=>WC.sr ?_)))))))
  refine WL.r 2 I [] rfl (WL.ix af ab rfl rfl rfl rfl rfl rfl (bN.st0 f_a.sl I) ?_)
  refine WL.fs 2 rfl (WL.val rfl rfl rfl (bP.load aw rfl rfl (bN.fld (bN.st0 f_a.sl I) ?_ rfl)) ?_)
  · omega
  refine WL.r 1 I [] rfl (WL.val rfl rfl rfl (bP.rem rfl rfl rfl ?_ ?_) ?_)
  · omega
  · omega
  refine WL.r 2 I [] rfl (WL.nil (WC.condF rfl (by simp [G,ct]) (WC.skip (c7 _ _ (WC.r1 I [] rfl (WC.sr (WL.r 2 I [] rfl ?_)))))))
  refine WL.ix af ab rfl rfl rfl rfl rfl rfl (bN.st0 f_a.sl I) ?_
  refine WL.fs 2 rfl (WL.val rfl rfl rfl (bP.load be rfl rfl (bN.fld (bN.st0 f_a.sl I) ?_ rfl)) ?_)
  · omega
  refine WL.r 1 I [] rfl (WL.c0 I Tryz.call103 rfl (xF _ _ _ _ _ _ _ (bN.st0 (cT.nth f_a (by omega)).Term.P.Args I) b5 ?_ ?_ ?_) (fun _ V=>?_))
  iterate 3 first | assumption | rfl | omega
  refine WL.r 1 V [] rfl (WL.nil (WC.seq (fun g6 c8=>WC.r1 V [] rfl ?_)))
  refine WC.condF rfl (by first | (simp [G,ct];done) | (simp [G,ct];omega)) (WC.skip (c8 _ _ (WC.sr (WL.r 2 V [] rfl ?_))))
  refine WL.ix af ab rfl rfl rfl rfl rfl rfl (bN.st0 f_a.sl V) ?_
  refine WL.fs 2 rfl (WL.val rfl rfl rfl (bP.load Tryz.isAgg22 rfl rfl (bN.fld (bN.st0 f_a.sl V) ?_ rfl)) ?_)
  · omega
  refine WL.r 1 V [] rfl (WL.c0 V Tryz.call104 rfl (E9 _ _ _ _ _ _ _ (bN.st0 (cT.nth f_a (by omega)).Term.P.Part V) b6 ?_ ?_ ?_) (fun _ J=>?_))
  iterate 3 first | assumption | rfl | omega
  refine WL.r 1 J [] rfl (WL.nil (WC.seq (fun g7 c9=>WC.r1 J [] rfl ?_)))
  refine WC.condF rfl (by first | (simp [G,ct];done) | (simp [G,ct];omega)) (WC.skip (c9 _ _ (WC.seq (fun g8 dj=>WC.sr (WL.r 2 J [] rfl ?_)))))
  refine WL.ix af ab rfl rfl rfl rfl rfl rfl (bN.st0 f_a.sl J) ?_
  refine WL.fs 2 rfl (WL.val rfl rfl rfl (bP.load ac rfl rfl (bN.fld (bN.st0 f_a.sl J) ?_ rfl)) ?_)
  · omega
  refine WL.r 2 J [] rfl (WL.nil (WC.condF rfl (by simp [G,ct]) (WC.skip (dj _ _ (WC.r1 J [] rfl (WC.seq (fun g9 dn=>WC.sr ?_)))))))
  refine WL.r 2 J [] rfl (WL.ix af ab rfl rfl rfl rfl rfl rfl (bN.st0 f_a.sl J) ?_)
  refine WL.fs 2 rfl (WL.val rfl rfl rfl (bP.load ac rfl rfl (bN.fld (bN.st0 f_a.sl J) ?_ rfl)) ?_)
  · omega
  refine WL.r 2 J [] rfl (WL.nil (WC.condF rfl (by simp [G,ct]) (WC.skip (dn _ _ (WC.r1 J [] rfl (WC.seq (fun ha ds=>WC.sr ?_)))))))
  refine WL.r 2 J [] rfl (WL.ix af ab rfl rfl rfl rfl rfl rfl (bN.st0 f_a.sl J) ?_)
  refine WL.fs 3 rfl (WL.val rfl rfl rfl (bP.load ac rfl rfl (bN.fld (bN.st0 f_a.sl J) ?_ rfl)) ?_)
  · omega
  refine WL.r 2 J [] rfl (WL.nil (WC.condF rfl (by simp [G,ct]) (WC.skip (ds _ _ (WC.r1 J [] rfl (WC.seq (fun hb d0=>WC.sr ?_)))))))
  refine WL.r 2 J [] rfl (WL.ix af ab rfl rfl rfl rfl rfl rfl (bN.st0 f_a.sl J) ?_)
  refine WL.fs 3 rfl (WL.val rfl rfl rfl (bP.load ac rfl rfl (bN.fld (bN.st0 f_a.sl J) ?_ rfl)) ?_)
  · omega
  refine WL.r 2 J [] rfl (WL.nil (WC.condF rfl (by simp [G,ct]) (WC.skip (d0 _ _ (WC.r1 J [] rfl (WC.sr (WL.r 2 J [] rfl ?_)))))))
  refine WL.ix af ab rfl rfl rfl rfl rfl rfl (bN.st0 f_a.sl J) ?_
  refine WL.fs 3 rfl (WL.val rfl rfl rfl (bP.load bk rfl rfl (bN.fld (bN.st0 f_a.sl J) ?_ rfl)) ?_)
  · omega
  refine WL.r 1 J [] rfl (WL.c0 J Tryz.call105 rfl (xe _ _ _ _ _ _ _ (bN.st0 (cT.nth f_a (by omega)).Term.S.Main.Cells J) b7 ?_ ?_ ?_) (fun _ M=>?_))
  iterate 3 first | assumption | rfl | omega
  refine WL.r 1 M [] rfl (WL.nil (WC.seq (fun hc d1=>WC.r1 M [] rfl ?_)))
  refine WC.condF rfl (by first | (simp [G,ct];done) | (simp [G,ct];omega)) (WC.skip (d1 _ _ (WC.seq (fun hd d2=>WC.sr (WL.r 2 M [] rfl ?_)))))
  refine WL.ix af ab rfl rfl rfl rfl rfl rfl (bN.st0 f_a.sl M) ?_
  refine WL.fs 3 rfl (WL.val rfl rfl rfl (bP.load ac rfl rfl (bN.fld (bN.st0 f_a.sl M) ?_ rfl)) ?_)
  · omega
  refine WL.r 2 M [] rfl (WL.nil (WC.condF rfl (by simp [G,ct]) (WC.skip (d2 _ _ (WC.r1 M [] rfl (WC.seq (fun he d3=>WC.sr ?_)))))))
  refine WL.r 2 M [] rfl (WL.ix af ab rfl rfl rfl rfl rfl rfl (bN.st0 f_a.sl M) ?_)
  refine WL.fs 3 rfl (WL.val rfl rfl rfl (bP.load ac rfl rfl (bN.fld (bN.st0 f_a.sl M) ?_ rfl)) ?_)
  · omega
  refine WL.r 2 M [] rfl (WL.nil (WC.condF rfl (by simp [G,ct]) (WC.skip (d3 _ _ (WC.r1 M [] rfl (WC.sr (WL.r 2 M [] rfl ?_)))))))
  refine WL.ix af ab rfl rfl rfl rfl rfl rfl (bN.st0 f_a.sl M) ?_
  refine WL.fs 3 rfl (WL.val rfl rfl rfl (bP.load bk rfl rfl (bN.fld (bN.st0 f_a.sl M) ?_ rfl)) ?_)
  · omega
  refine WL.r 1 M [] rfl (WL.c0 M Tryz.call105 rfl (xe _ _ _ _ _ _ _ (bN.st0 (cT.nth f_a (by omega)).Term.S.Alt.Cells M) b8 ?_ ?_ ?_) (fun _ E=>?_))
  iterate 3 first | assumption | rfl | omega
  refine WL.r 1 E [] rfl (WL.nil (WC.seq (fun hf d4=>WC.r1 E [] rfl ?_)))
  refine WC.condF rfl (by first | (simp [G,ct];done) | (simp [G,ct];omega)) (WC.skip (d4 _ _ (WC.seq (fun hh d5=>WC.sr (WL.r 2 E [] rfl ?_)))))
  refine WL.ix af ab rfl rfl rfl rfl rfl rfl (bN.st0 f_a.sl E) ?_
  refine WL.fs 2 rfl (WL.val rfl rfl rfl (bP.load aw rfl rfl (bN.fld (bN.st0 f_a.sl E) ?_ rfl)) ?_)
  · omega
  refine WL.r 1 E [] rfl (WL.val rfl rfl rfl (bP.rem rfl rfl rfl ?_ ?_) ?_)
  · omega
  · omega
  refine WL.r 2 E [] rfl (WL.nil (WC.condF rfl (by simp [G,ct]) (WC.skip (d5 _ _ (WC.r1 E [] rfl (WC.seq (fun hj d6=>WC.sr ?_)))))))
  refine WL.r 2 E [] rfl (WL.ix af ab rfl rfl rfl rfl rfl rfl (bN.st0 f_a.sl E) ?_)
  refine WL.fs 2 rfl (WL.val rfl rfl rfl (bP.load ac rfl rfl (bN.fld (bN.st0 f_a.sl E) ?_ rfl)) ?_)
  · omega
  refine WL.r 2 E [] rfl (WL.nil (WC.condF rfl (by simp [G,ct]) (WC.skip (d6 _ _ (WC.r1 E [] rfl (WC.seq (fun hk d7=>WC.sr ?_)))))))
  refine WL.r 2 E [] rfl (WL.ix af ab rfl rfl rfl rfl rfl rfl (bN.st0 f_a.sl E) ?_)
  refine WL.fs 2 rfl (WL.val rfl rfl rfl (bP.load ac rfl rfl (bN.fld (bN.st0 f_a.sl E) ?_ rfl)) ?_)
  · omega
  refine WL.r 2 E [] rfl (WL.nil (WC.condF rfl (by simp [G,ct]) (WC.skip (d7 _ _ (WC.r1 E [] rfl (WC.seq (fun hm d8=>WC.sr ?_)))))))
  refine WL.r 2 E [] rfl (WL.ix af ab rfl rfl rfl rfl rfl rfl (bN.st0 f_a.sl E) ?_)
  refine WL.fs 2 rfl (WL.val rfl rfl rfl (bP.load aw rfl rfl (bN.fld (bN.st0 f_a.sl E) ?_ rfl)) ?_)
  · omega
  refine WL.r 1 E [] rfl (WL.val rfl rfl rfl (bP.rem rfl rfl rfl ?_ ?_) ?_)
  · omega
  · omega
  refine WL.r 2 E [] rfl (WL.nil (WC.condF rfl (by simp [G,ct]) (WC.skip (d8 _ _ (WC.r1 E [] rfl (WC.seq (fun hn d9=>WC.sr ?_)))))))
  refine WL.r 2 E [] rfl (WL.ix af ab rfl rfl rfl rfl rfl rfl (bN.st0 f_a.sl E) ?_)
  refine WL.fs 3 rfl (WL.val rfl rfl rfl (bP.load ac rfl rfl (bN.fld (bN.st0 f_a.sl E) ?_ rfl)) ?_)
  · omega
  refine WL.r 2 E [] rfl (WL.nil (WC.condF rfl (by simp [G,ct]) (WC.skip (d9 _ _ (WC.r1 E [] rfl (WC.seq (fun ho ea=>WC.sr ?_)))))))
  refine WL.r 2 E [] rfl (WL.ix af ab rfl rfl rfl rfl rfl rfl (bN.st0 f_a.sl E) ?_)
  refine WL.fs 3 rfl (WL.val rfl rfl rfl (bP.load ac rfl rfl (bN.fld (bN.st0 f_a.sl E) ?_ rfl)) ?_)
  · omega
  refine WL.r 2 E [] rfl (WL.nil (WC.condF rfl (by simp [G,ct]) (WC.skip (ea _ _ (WC.r1 E [] rfl (WC.seq (fun hp ec=>WC.sr ?_)))))))
  refine WL.r 2 E [] rfl (WL.ix af ab rfl rfl rfl rfl rfl rfl (bN.st0 f_a.sl E) ?_)
  refine WL.fs 3 rfl (WL.val rfl rfl rfl (bP.load aw rfl rfl (bN.fld (bN.st0 f_a.sl E) ?_ rfl)) ?_)
  · omega
  refine WL.r 1 E [] rfl (WL.val rfl rfl rfl (bP.rem rfl rfl rfl ?_ ?_) ?_)
  · omega
  · omega
  refine WL.r 2 E [] rfl (WL.nil (WC.condF rfl (by simp [G,ct]) (WC.skip (ec _ _ (WC.r1 E [] rfl (WC.seq (fun hq el=>WC.sr ?_)))))))
  refine WL.r 2 E [] rfl (WL.ix af ab rfl rfl rfl rfl rfl rfl (bN.st0 f_a.sl E) ?_)
  refine WL.fs 3 rfl (WL.val rfl rfl rfl (bP.load aw rfl rfl (bN.fld (bN.st0 f_a.sl E) ?_ rfl)) ?_)
  · omega
  refine WL.r 1 E [] rfl (WL.val rfl rfl rfl (bP.rem rfl rfl rfl ?_ ?_) ?_)
  · omega
  · omega
  refine WL.r 2 E [] rfl (WL.nil (WC.condF rfl (by simp [G,ct]) (WC.skip (el _ _ (WC.r1 E [] rfl (WC.seq (fun hr em=>WC.sr ?_)))))))
  refine WL.r 2 E [] rfl (WL.ix af ab rfl rfl rfl rfl rfl rfl (bN.st0 f_a.sl E) ?_)
  refine WL.fs 3 rfl (WL.val rfl rfl rfl (bP.load aw rfl rfl (bN.fld (bN.st0 f_a.sl E) ?_ rfl)) ?_)
  · omega
  refine WL.r 1 E [] rfl (WL.val rfl rfl rfl (bP.rem rfl rfl rfl ?_ ?_) ?_)
  · omega
  · omega
  refine WL.r 2 E [] rfl (WL.nil (WC.condF rfl (by simp [G,ct]) (WC.skip (em _ _ (WC.r1 E [] rfl (WC.seq (fun hs es=>WC.sr ?_)))))))
  refine WL.r 2 E [] rfl (WL.ix af ab rfl rfl rfl rfl rfl rfl (bN.st0 f_a.sl E) ?_)
  refine WL.fs 2 rfl (WL.val rfl rfl rfl (bP.load ac rfl rfl (bN.fld (bN.st0 f_a.sl E) ?_ rfl)) ?_)
  · omega
  refine WL.r 2 E [] rfl (WL.nil (WC.condF rfl (by simp [G,ct]) (WC.skip (es _ _ (WC.r1 E [] rfl (WC.seq (fun ht et=>WC.sr ?_)))))))
  refine WL.r 2 E [] rfl (WL.ix af ab rfl rfl rfl rfl rfl rfl (bN.st0 f_a.sl E) ?_)
  refine WL.fs 2 rfl (WL.val rfl rfl rfl (bP.load ac rfl rfl (bN.fld (bN.st0 f_a.sl E) ?_ rfl)) ?_)
  · omega
  refine WL.r 2 E [] rfl (WL.nil (WC.condF rfl (by simp [G,ct]) (WC.skip (et _ _ (WC.r1 E [] rfl (WC.seq (fun hu eA=>WC.sr ?_)))))))
  refine WL.r 2 E [] rfl (WL.ix af ab rfl rfl rfl rfl rfl rfl (bN.st0 f_a.sl E) ?_)
  refine WL.fs 2 rfl (WL.val rfl rfl rfl (bP.load aw rfl rfl (bN.fld (bN.st0 f_a.sl E) ?_ rfl)) ?_)
  · omega
  refine WL.r 1 E [] rfl (WL.val rfl rfl rfl (bP.rem rfl rfl rfl ?_ ?_) ?_)
  · omega
  · omega
  refine WL.r 2 E [] rfl (WL.nil (WC.condF rfl (by simp [G,ct]) (WC.skip (eA _ _ (WC.r1 E [] rfl (WC.seq (fun hv eO=>WC.sr ?_)))))))
  refine WL.r 2 E [] rfl (WL.ix af ab rfl rfl rfl rfl rfl rfl (bN.st0 f_a.sl E) ?_)
  refine WL.fs 2 rfl (WL.val rfl rfl rfl (bP.load aw rfl rfl (bN.fld (bN.st0 f_a.sl E) ?_ rfl)) ?_)
  · omega
  refine WL.r 1 E [] rfl (WL.val rfl rfl rfl (bP.rem rfl rfl rfl ?_ ?_) ?_)
  · omega
  · omega
  refine WL.r 2 E [] rfl (WL.nil (WC.condF rfl (by simp [G,ct]) (WC.skip (eO _ _ (WC.r1 E [] rfl (WC.seq (fun hw e0=>WC.sr ?_)))))))
  refine WL.r 2 E [] rfl (WL.ix af ab rfl rfl rfl rfl rfl rfl (bN.st0 f_a.sl E) ?_)
  refine WL.fs 2 rfl (WL.val rfl rfl rfl (bP.load ac rfl rfl (bN.fld (bN.st0 f_a.sl E) ?_ rfl)) ?_)
  · omega
  refine WL.r 2 E [] rfl (WL.nil (WC.condF rfl (by simp [G,ct]) (WC.skip (e0 _ _ (WC.r1 E [] rfl (WC.seq (fun hx e1=>WC.sr ?_)))))))
  refine WL.r 2 E [] rfl (WL.ix af ab rfl rfl rfl rfl rfl rfl (bN.st0 f_a.sl E) ?_)
  refine WL.fs 2 rfl (WL.val rfl rfl rfl (bP.load ac rfl rfl (bN.fld (bN.st0 f_a.sl E) ?_ rfl)) ?_)
  · omega
  refine WL.r 2 E [] rfl (WL.nil (WC.condF rfl (by simp [G,ct]) (WC.skip (e1 _ _ (WC.r1 E [] rfl (WC.seq (fun hy e2=>WC.sr ?_)))))))
  refine WL.r 2 E [] rfl (WL.ix af ab rfl rfl rfl rfl rfl rfl (bN.st0 f_a.sl E) ?_)
  refine WL.fs 3 rfl (WL.val rfl rfl rfl (bP.load ac rfl rfl (bN.fld (bN.st0 f_a.sl E) ?_ rfl)) ?_)
  · omega
  refine WL.r 2 E [] rfl (WL.nil (WC.condF rfl (by simp [G,ct]) (WC.skip (e2 _ _ (WC.r1 E [] rfl (WC.seq (fun hA e3=>WC.sr ?_)))))))
  refine WL.r 2 E [] rfl (WL.ix af ab rfl rfl rfl rfl rfl rfl (bN.st0 f_a.sl E) ?_)
  refine WL.fs 3 rfl (WL.val rfl rfl rfl (bP.load ac rfl rfl (bN.fld (bN.st0 f_a.sl E) ?_ rfl)) ?_)
  · omega
  refine WL.r 2 E [] rfl (WL.nil (WC.condF rfl (by simp [G,ct]) (WC.skip (e3 _ _ (WC.r1 E [] rfl (WC.seq (fun hB e4=>WC.sr ?_)))))))
  refine WL.r 2 E [] rfl (WL.ix af ab rfl rfl rfl rfl rfl rfl (bN.st0 f_a.sl E) ?_)
  refine WL.fs 3 rfl (WL.val rfl rfl rfl (bP.load aw rfl rfl (bN.fld (bN.st0 f_a.sl E) ?_ rfl)) ?_)
  · omega
  refine WL.r 1 E [] rfl (WL.val rfl rfl rfl (bP.rem rfl rfl rfl ?_ ?_) ?_)
  · omega
  · omega
  refine WL.r 2 E [] rfl (WL.nil (WC.condF rfl (by simp [G,ct]) (WC.skip (e4 _ _ (WC.r1 E [] rfl (WC.seq (fun hC e5=>WC.sr ?_)))))))
  refine WL.r 2 E [] rfl (WL.ix af ab rfl rfl rfl rfl rfl rfl (bN.st0 f_a.sl E) ?_)
  refine WL.fs 3 rfl (WL.val rfl rfl rfl (bP.load aw rfl rfl (bN.fld (bN.st0 f_a.sl E) ?_ rfl)) ?_)
  · omega
  refine WL.r 1 E [] rfl (WL.val rfl rfl rfl (bP.rem rfl rfl rfl ?_ ?_) ?_)
  · omega
  · omega
  refine WL.r 2 E [] rfl (WL.nil (WC.condF rfl (by simp [G,ct]) (WC.skip (e5 _ _ (WC.r1 E [] rfl (WC.seq (fun hD e6=>WC.sr ?_)))))))
  refine WL.r 2 E [] rfl (WL.ix af ab rfl rfl rfl rfl rfl rfl (bN.st0 f_a.sl E) ?_)
  refine WL.fs 3 rfl (WL.val rfl rfl rfl (bP.load aw rfl rfl (bN.fld (bN.st0 f_a.sl E) ?_ rfl)) ?_)
  · omega
  refine WL.r 1 E [] rfl (WL.val rfl rfl rfl (bP.rem rfl rfl rfl ?_ ?_) ?_)
  · omega
  · omega
  refine WL.r 2 E [] rfl (WL.nil (WC.condF rfl (by simp [G,ct]) (WC.skip (e6 _ _ (WC.r1 E [] rfl (WC.sr (WL.r 2 E [] rfl ?_)))))))
  refine WL.ix af ab rfl rfl rfl rfl rfl rfl (bN.st0 f_a.sl E) ?_
  refine WL.fs 2 rfl (WL.val rfl rfl rfl (bP.load be rfl rfl (bN.fld (bN.st0 f_a.sl E) ?_ rfl)) ?_)
  · omega
  refine WL.r 1 E [] rfl (WL.c0 E Tryz.call103 rfl (xF _ _ _ _ _ _ _ (bN.st0 (cT.nth f_a (by omega)).Term.S.Tabs E) b9 ?_ ?_ ?_) (fun _ O=>?_))
  iterate 3 first | assumption | rfl | omega
  refine WL.r 1 O [] rfl (WL.nil (WC.seq (fun hE e7=>WC.r1 O [] rfl ?_)))
  refine WC.condF rfl (by first | (simp [G,ct];done) | (simp [G,ct];omega)) (WC.skip (e7 _ _ (WC.seq (fun hH e8=>WC.sr (WL.r 2 O [] rfl ?_)))))
  refine WL.ix af ab rfl rfl rfl rfl rfl rfl (bN.st0 f_a.sl O) ?_
  refine WL.fs 2 rfl (WL.val rfl rfl rfl (bP.load ac rfl rfl (bN.fld (bN.st0 f_a.sl O) ?_ rfl)) ?_)
  · omega
  refine WL.r 2 O [] rfl (WL.nil (WC.condF rfl (by simp [G,ct]) (WC.skip (e8 _ _ (WC.r1 O [] rfl (WC.sr (WL.r 2 O [] rfl ?_)))))))
  refine WL.ix af ab rfl rfl rfl rfl rfl rfl (bN.st0 f_a.sl O) ?_
  refine WL.fs 2 rfl (WL.val rfl rfl rfl (bP.load Tryz.isAgg49 rfl rfl (bN.fld (bN.st0 f_a.sl O) ?_ rfl)) ?_)
  · omega
  refine WL.r 1 O [] rfl (WL.c0 O Tryz.call106 rfl (Fh _ _ _ _ _ _ (cT.st0 eh.st0 al O) ?_ ?_ ?_) (fun _ ad=>?_))
  iterate 3 first | assumption | omega
  refine WL.r 1 ad [] rfl (WL.nil (WC.r1 ad [] rfl ?_))
  refine WC.condF rfl (by first | (simp [G,ct];done) | (simp [G,ct];omega)) (WC.skip (cq _ _ (WC.region (WL.r 3 ad [] rfl (WL.nil (cQ ?_))))))
  refine ⟨cR rfl,ad,_,?_,i+1,rfl,?_,⟨rfl,?_,trivial⟩⟩
  · omega
  · omega
  · (refine congrArg some (congrArg (Value.int _) ?_);rw [fM (F:=bW) (by omega)];simp only [cw];omega)
 refine WC.exit (a2 _ _ (WC.r1 U [] rfl (WC.ret (rtv rfl rfl U ?_))))
 rw [show i=a.length from by omega,List.take_of_length_le (Nat.le_refl _)]
set_option maxHeartbeats 16000000 in
set_option maxRecDepth 20000 in
theorem Fc (v_a:Value) (a:List da) (L_a:Hp) (k:Int) (w:World) (o_a:cv ci hX 72 v_a a L_a) (h_a:Hh w L_a) (hd_:((L_a).map (·.1)).Nodup) (h1:0≤k) (h2:k+dm de a≤549755813888) (h3:a.length≤549755813888) :
    Calls Tryz.prog 44 #[v_a,i64 k] w fun e w'=>∃ L1,e = .returned (.int .i64 (k+dm de a))∧St w (L_a.map (·.1)) L1 w'∧cv ci hX 72 v_a (ex fL de k a) L1:=by
 obtain ⟨A_a,c_a,rfl⟩:=o_a.shape
 have U:∀ x,0≤de x:=qX
 refine enter 35 Tryz.func44 rfl Tryz.ntmps44 rfl rfl ?_
 have I:=St.takes1 w L_a h_a hd_
 refine WC.r1 I [] rfl (WC.seq (fun K2 a6=>WC.r1 I [] rfl (WC.block ?_)))
 refine WC.lO [4] rfl I (fun k_ f L_=>∃ (i:Nat),k_=a.length-i∧(i≤a.length)∧cv ci hX 72 (.slice A_a (a.length) c_a) (dD fL de k a i) L_∧cC [(0,.slice A_a (a.length) c_a),(5,.int .i64 i),(1,.int .i64 (k+dm de (a.take i)))] f) (((fun (i:Nat)=>a.length-i) (0))) ?_ ?_
 ·refine ⟨0,rfl,?_,(mp.symm ▸ o_a),⟨rfl,rfl,?_,trivial⟩⟩
  · exact Nat.zero_le _
  · (refine congrArg some (congrArg (Value.int _) ?_);simp [dm])
 clear I
 rintro _ f w L5 ⟨i,rfl,p0,V,hG⟩ hF G
 refine WC.sub _ (hG.app hF) ?_
 clear hG hF
 have a8:(dD fL de k a i).length=a.length:=gj p0
 have dj:=dJ (c:=de) U (a.take i)
 have dn:=eJ U a i
 refine WC.seq (fun K8 ba=>WC.r1 G [] rfl ?_)
 refine WC.cq rfl (fun h9 bc=>?_) (fun h9 bc=>?_)
 ·have J:=ni (mk:=fL) (c:=de) (F:=ci) (k:=k) (xs:=a) (i:=i) (by omega)
  have bd:=fM (c:=de) (F:=ci) (xs:=a) (i:=i) (by omega)
  have d0:=eJ U a (i+1)
  have bg:=bd
  simp only [de,← J] at bg
  refine WC.skip (ba _ _ (WC.seq (fun d1 bo=>WC.block (WC.sr (WL.r 3 G [] rfl ?_)))))
  refine WL.c0 G Tryz.call98 rfl (nl _ _ ?_) (fun _ al=>?_)
  · first | assumption | rfl | omega
  refine WL.ix aF ax rfl rfl rfl rfl rfl rfl (cv.sl V (al.ow L5)) ?_
  refine WL.fs 0 rfl ?_
  obtain ⟨d2,bx,b0,b1,b2⟩:=cv.open_ al V
  refine WL.sF Value.string (fun z_=>({(bO ci (dD fL de k a i) i) with Name:=z_}:da)) b0 b1 aK rfl rfl rfl rfl rfl rfl rfl rfl rfl (fun M d3 b3 Z E N=>WL.nil (WC.r1 E [] rfl (WC.sr (WL.r 2 E [] rfl ?_))))
  refine WL.ix aF ax rfl rfl rfl rfl rfl rfl (bN.ofOwn N (E.ow M)) ?_
  refine WL.fs 0 rfl (WL.val rfl rfl rfl (bP.load be rfl rfl (bN.fld (v:=.slice (bO ci (dD fL de k a i) i).Wins.A (bO ci (dD fL de k a i) i).Wins.n (bO ci (dD fL de k a i) i).Wins.c) (bN.ofOwn N (E.ow M)) ?_ ?_)) ?_)
  · omega
  · first | (rw [eK (by (try simp only [List.length_set]);omega) rfl];simp only [Z];done) | (rw [eK (by (try simp only [List.length_set]);omega) rfl];simp only [Z];rfl) | rfl
  refine WL.r 1 E [] rfl ?_
  obtain ⟨b4,b5,b6,aB,b7,b8⟩:=ew.out (F:=ci) (i:=i) (E.fr bx) b2 (by rw [gj (by omega)];omega)
  refine WL.l1 aB Tryz.call99 rfl (xL _ _ _ _ _ b7 (aB.ow b5) ?_ ?_ ?_) (fun _ b9 ck O=>?_)
  iterate 3 first | assumption | rfl | omega
  refine WL.r 1 O [] rfl (WL.nil (WC.sr (WL.r 3 O [] rfl (WL.ix aF ax rfl rfl rfl rfl rfl rfl (bN.ofOwn N (O.ow M)) ?_))))
  refine WL.fs 0 rfl (WL.sF i64 (fun z_=>({b3 with Active:=z_}:da)) (O.fr M) N aa rfl rfl rfl rfl rfl rfl rfl rfl rfl (fun cD d4 d5 cN ad c1=>WL.nil (WC.region (WL.r 3 ad [] rfl (WL.nil (bo _ _ (WC.region ?_)))))))
  refine WL.r 3 ad [] rfl (WL.nil (cQ ?_))
  obtain ⟨d6,c2,a1⟩:=b8 (fL (k+dm de (a.take i)) (bO ci a i)) _ ((ad.fr (b4++b6)).fr b9) (by have h_:=ck;first | exact h_ | (simp only [J] at h_;exact h_))
  rw [jl (F:=ci) (by omega) rfl] at a1
  have c3:=bS.recast (ys:=dD fL de k a (i+1)) c1 (by rw [gj (by omega)];(try simp only [List.length_set]);exact a8.symm) (by rw [← jl (F:=ci) (i:=i) (by omega) rfl];try simp only [List.set_set];exact mO (by simp only [cN,Z,J];rfl))
  obtain ⟨d7,c4,c5⟩:=cv.fold (c2.fr cD) c3 a1
  refine ⟨cR rfl,_,c4,_,?_,i+1,rfl,?_,c5,⟨rfl,rfl,?_,trivial⟩⟩
  · omega
  · omega
  · (refine congrArg some (congrArg (Value.int _) ?_);rw [fM (F:=ci) (by omega)];simp only [de,J];omega)
 refine WC.exit (a6 _ _ (WC.r1 G [] rfl (WC.ret (cO rfl (cb.tmp rfl) ?_))))
 have c6:i=a.length:=by omega
 have a2:=V
 rw [mn (by omega)] at a2
 refine ⟨_,?_,(St.keep1 G),a2⟩
 rw [c6,List.take_of_length_le (Nat.le_refl _)]
theorem Ev (A_a:Option Addr) (n_a c_a:Nat) (a:List da) (k:Int) (w:World) (f_a:cT ci (ep 549755813888) w A_a n_a (ex fL de k a)) (h1:0≤k) (h2:k+dm de a≤549755813888) (h3:n_a≤549755813888) :
    Calls Tryz.prog 47 #[.slice A_a n_a c_a,i64 k] w fun e w'=>e = .returned (.int .i64 (k+dm de a))∧St w [] [] w':=by
 have hl:a.length=n_a:=by have U:=f_a.sl.len;simpa [eW] using U
 have N:∀ x,0≤de x:=fun x=>by simp only [de];omega
 refine enter 41 Tryz.func47 rfl Tryz.ntmps47 rfl rfl ?_
 have J:=St.init w
 refine WC.r1 J [] rfl (WC.seq (fun K2 V=>WC.r1 J [] rfl (WC.block ?_)))
 refine WC.lS [0] rfl J (fun k_ f w'=>∃ (i:Nat),k_=n_a-i∧(i≤n_a)∧cC [(5,.int .i64 i),(1,.int .i64 (k+dm de (a.take i)))] f) ((fun (i:Nat)=>n_a-i) (0)) ?_ ?_
 ·refine ⟨0,rfl,?_,⟨rfl,?_,trivial⟩⟩
  · exact Nat.zero_le _
  · (refine congrArg some (congrArg (Value.int _) ?_);simp [dm])
 clear J
 rintro _ f w ⟨i,rfl,p0,hG⟩ hF M
 refine WC.sub _ (hG.app hF) ?_
 clear hG hF
 have bo:=dJ (c:=de) N (a.take i)
 have bx:=eJ N a i
 refine WC.seq (fun K4 Z=>WC.r1 M [] rfl ?_)
 refine WC.cD rfl (fun ad=>?_) (fun ad=>?_)
 ·have G:=nf (mk:=fL) (c:=de) (F:=ci) (k:=k) (xs:=a) (i:=i) (by omega)
  have ag:=fM (c:=de) (F:=ci) (xs:=a) (i:=i) (by omega)
  have b1:=eJ N a (i+1)
  simp only [de] at ag
  have O:=(cT.nth f_a (show i<n_a by omega))
  rw [G] at O
  have al:=O.Wins.len
  have aB:=O.Wins_n
  simp only [fL,er,eW] at al aB
  have b2:(bO ci (ex fL de k a) i).Wins.n=(bO ci a i).Wins.n:=by rw [G];rfl
  have a1:(bO ci (ex fL de k a) i).Wins.xs=eP (fun k=>k) 1 ((k+dm de (a.take i))+1) (bO ci a i).Wins.xs.length:=by rw [G];rfl
  refine WC.skip (Z _ _ (WC.seq (fun K6 a2=>WC.block (WC.seq (fun K7 a6=>WC.sq1 M (WQ.r 2 [] rfl ?_))))))
  refine WQ.val rfl rfl rfl (fun w_ hs_=>(bP.idxN aF ax rfl rfl rfl ?_ ?_ ?_)) ?_
  · exact bN.some_ (bN.st0 f_a.sl (hs_:St _ _ _ _))
  · omega
  · omega
  refine WQ.val rfl rfl rfl (fun w_ hs_=>(bP.fieldO Tryz.runUnderlying72 rfl rfl rfl aK rfl)) ?_
  refine WQ.val rfl rfl rfl (fun w_ hs_=>(bP.load bj rfl rfl (bN.fld (bN.st0 f_a.sl (hs_:St _ _ _ _)) ?_ rfl))) ?_
  · omega
  refine WQ.r 1 [] rfl ?_
  refine WQ.c0 Tryz.call98 rfl (fun w_ hs_=>nl _ _ ?_) ?_
  · first | assumption | rfl | omega
  refine WQ.r 1 [] rfl (WQ.nil (fun _ (I:St _ _ _ _)=>WC.condF rfl (by simp [G,fL]) (WC.skip (a6 _ _ (WC.r1 I [] rfl (WC.sr (WL.r 2 I [] rfl ?_)))))))
  refine WL.ix aF ax rfl rfl rfl rfl rfl rfl (bN.st0 f_a.sl I) ?_
  refine WL.fs 0 rfl (WL.val rfl rfl rfl (bP.load be rfl rfl (bN.fld (bN.st0 f_a.sl I) ?_ rfl)) ?_)
  · omega
  refine WL.r 1 I [] rfl (WL.c0 I Tryz.call103 rfl (xF _ _ _ _ _ _ _ (bN.st0 (cT.nth f_a (by omega)).Wins I) a1 ?_ ?_ ?_) (fun _ E=>?_))
  iterate 3 first | assumption | rfl | omega
  refine WL.r 1 E [] rfl (WL.nil (WC.seq (fun b5 a7=>WC.r1 E [] rfl ?_)))
  refine WC.condF rfl (by first | (simp [G,fL];done) | (simp [G,fL];omega)) (WC.skip (a7 _ _ (WC.seq (fun b6 a8=>WC.sr (WL.r 2 E [] rfl ?_)))))
  refine WL.ix aF ax rfl rfl rfl rfl rfl rfl (bN.st0 f_a.sl E) ?_
  refine WL.fs 0 rfl (WL.val rfl rfl rfl (bP.load ac rfl rfl (bN.fld (bN.st0 f_a.sl E) ?_ rfl)) ?_)
  · omega
  refine WL.r 2 E [] rfl (WL.nil (WC.condF rfl (by simp [G,fL]) (WC.skip (a8 _ _ (WC.region (WL.r 3 E [] rfl (WL.nil ?_)))))))
  refine a2 _ _ (WC.region (WL.r 3 E [] rfl (WL.nil (cQ ?_))))
  refine ⟨cR rfl,E,_,?_,i+1,rfl,?_,⟨rfl,?_,trivial⟩⟩
  · omega
  · omega
  · (refine congrArg some (congrArg (Value.int _) ?_);rw [fM (F:=ci) (by omega)];simp only [de];omega)
 refine WC.exit (V _ _ (WC.r1 M [] rfl (WC.ret (rtv rfl rfl M ?_))))
 rw [show i=a.length from by omega,List.take_of_length_le (Nat.le_refl _)]
set_option maxHeartbeats 16000000 in
set_option maxRecDepth 20000 in
theorem Ff (v_a:Value) (a:List dd) (L_a:Hp) (k:Int) (w:World) (o_a:cv bY gH 62 v_a a L_a) (h_a:Hh w L_a) (hd_:((L_a).map (·.1)).Nodup) (h1:0≤k) (h2:k+dm dl a≤549755813888) (h3:a.length≤549755813888) :
    Calls Tryz.prog 43 #[v_a,i64 k] w fun e w'=>∃ L1,e = .returned (.int .i64 (k+dm dl a))∧St w (L_a.map (·.1)) L1 w'∧cv bY gH 62 v_a (ex fU dl k a) L1:=by
 obtain ⟨A_a,c_a,rfl⟩:=o_a.shape
 have V:∀ x,0≤dl x:=sI
 refine enter 51 Tryz.func43 rfl Tryz.ntmps43 rfl rfl ?_
 have J:=St.takes1 w L_a h_a hd_
 refine WC.r1 J [] rfl (WC.seq (fun K2 bc=>WC.r1 J [] rfl (WC.block ?_)))
 refine WC.lO [4] rfl J (fun k_ f L_=>∃ (i:Nat),k_=a.length-i∧(i≤a.length)∧cv bY gH 62 (.slice A_a (a.length) c_a) (dD fU dl k a i) L_∧cC [(0,.slice A_a (a.length) c_a),(5,.int .i64 i),(1,.int .i64 (k+dm dl (a.take i)))] f) (((fun (i:Nat)=>a.length-i) (0))) ?_ ?_
 ·refine ⟨0,rfl,?_,(mp.symm ▸ o_a),⟨rfl,rfl,?_,trivial⟩⟩
  · exact Nat.zero_le _
  · (refine congrArg some (congrArg (Value.int _) ?_);simp [dm])
 clear J
 rintro _ f w L5 ⟨i,rfl,p0,Z,hG⟩ hF E
 refine WC.sub _ (hG.app hF) ?_
 clear hG hF
 have bg:(dD fU dl k a i).length=a.length:=gj p0
 have d7:=dJ (c:=dl) V (a.take i)
 have d8:=eJ V a i
 refine WC.seq (fun K8 bo=>WC.r1 E [] rfl ?_)
 refine WC.cq rfl (fun h9 b0=>?_) (fun h9 b0=>?_)
 ·have M:=ni (mk:=fU) (c:=dl) (F:=bY) (k:=k) (xs:=a) (i:=i) (by omega)
  have b1:=fM (c:=dl) (F:=bY) (xs:=a) (i:=i) (by omega)
  have ea:=eJ V a (i+1)
  have b2:=b1
  simp only [dl,← M] at b2
  refine WC.skip (bo _ _ (WC.seq (fun ec b3=>WC.block (WC.sr (WL.r 3 E [] rfl ?_)))))
  refine WL.ix au am rfl rfl rfl rfl rfl rfl (cv.sl Z (E.ow L5)) ?_
  refine WL.fs 0 rfl ?_
  obtain ⟨el,b4,b5,b6,b7⟩:=cv.open_ E Z
  refine WL.sF i64 (fun z_=>({(bO bY (dD fU dl k a i) i) with Id:=z_}:dd)) b5 b6 aa rfl rfl rfl rfl rfl rfl rfl rfl rfl (fun b8 em b9 ad ag a2=>WL.nil (WC.r1 ag [] rfl (WC.sr (WL.r 3 ag [] rfl ?_))))
  refine WL.c0 ag Tryz.call98 rfl (nl _ _ ?_) (fun _ a6=>?_)
  · first | assumption | rfl | omega
  refine WL.ix au am rfl rfl rfl rfl rfl rfl (bN.ofOwn a2 (a6.ow b8)) ?_
  refine WL.fs 0 rfl (WL.sF Value.string (fun z_=>({b9 with Name:=z_}:dd)) a6 a2 aK rfl rfl rfl rfl rfl rfl rfl rfl rfl (fun N es ck al G O=>WL.nil (WC.r1 G [] rfl (WC.sr (WL.r 2 G [] rfl ?_)))))
  refine WL.ix au am rfl rfl rfl rfl rfl rfl (bN.ofOwn O (G.ow N)) ?_
  refine WL.fs 0 rfl (WL.val rfl rfl rfl (bP.load bl rfl rfl (bN.fld (v:=.slice (bO bY (dD fU dl k a i) i).Tree.A (bO bY (dD fU dl k a i) i).Tree.n (bO bY (dD fU dl k a i) i).Tree.c) (bN.ofOwn O (G.ow N)) ?_ ?_)) ?_)
  · omega
  · first | (rw [eK (by (try simp only [List.length_set]);omega) rfl];simp only [al,ad];done) | (rw [eK (by (try simp only [List.length_set]);omega) rfl];simp only [al,ad];rfl) | rfl
  refine WL.r 1 G [] rfl ?_
  obtain ⟨cD,cN,c1,a7,c2,c3⟩:=ew.out (F:=bY) (i:=i) (G.fr b4) b7 (by rw [gj (by omega)];omega)
  refine WL.l1 a7 Tryz.call102 rfl (ER _ _ _ _ _ c2 (a7.ow cN) ?_ ?_ ?_) (fun _ c4 c5 U=>?_)
  iterate 3 first | assumption | rfl | omega
  refine WL.r 1 U [] rfl (WL.nil (WC.sr (WL.r 3 U [] rfl (WL.ix au am rfl rfl rfl rfl rfl rfl (bN.ofOwn O (U.ow N)) ?_))))
  refine WL.fs 0 rfl (WL.sF i64 (fun z_=>({ck with Active:=z_}:dd)) (U.fr N) O aa rfl rfl rfl rfl rfl rfl rfl rfl rfl (fun c6 et c7 c8 I a8=>WL.nil (WC.r1 I [] rfl (WC.sr (WL.r 3 I [] rfl ?_)))))
  refine WL.val rfl rfl rfl (bP.rem rfl rfl rfl ?_ ?_) ?_
  · omega
  · omega
  refine WL.r 1 I [] rfl (WL.ix au am rfl rfl rfl rfl rfl rfl (bN.ofOwn a8 (I.ow c6)) ?_)
  refine WL.fs 0 rfl (WL.sF Value.bool (fun z_=>({c7 with Zoom:=z_}:dd)) I a8 ap rfl rfl rfl rfl rfl rfl rfl rfl rfl (fun c9 eA eO dj aB dn=>WL.nil (WC.region (WL.r 3 aB [] rfl (WL.nil (b3 _ _ (WC.region ?_)))))))
  refine WL.r 3 aB [] rfl (WL.nil (cQ ?_))
  obtain ⟨e0,ds,ba⟩:=c3 (fU (k+dm dl (a.take i)) (bO bY a i)) _ ((aB.fr (cD++c1)).fr c4) (by have h_:=c5;first | exact h_ | (simp only [M] at h_;exact h_))
  rw [jl (F:=bY) (by omega) rfl] at ba
  have d0:=bS.recast (ys:=dD fU dl k a (i+1)) dn (by rw [gj (by omega)];(try simp only [List.length_set]);exact bg.symm) (by rw [← jl (F:=bY) (i:=i) (by omega) rfl];try simp only [List.set_set];exact mO (by simp only [dj,c8,al,ad,M];rfl))
  obtain ⟨e1,d1,d2⟩:=cv.fold (ds.fr c9) d0 ba
  refine ⟨cR rfl,_,d1,_,?_,i+1,rfl,?_,d2,⟨rfl,rfl,?_,trivial⟩⟩
  · omega
  · omega
  · (refine congrArg some (congrArg (Value.int _) ?_);rw [fM (F:=bY) (by omega)];simp only [dl,M];omega)
 refine WC.exit (bc _ _ (WC.r1 E [] rfl (WC.ret (cO rfl (cb.tmp rfl) ?_))))
 have d3:i=a.length:=by omega
 have bb:=Z
 rw [mn (by omega)] at bb
 refine ⟨_,?_,(St.keep1 E),bb⟩
 rw [d3,List.take_of_length_le (Nat.le_refl _)]
theorem EV (A_a:Option Addr) (n_a c_a:Nat) (a:List dd) (k:Int) (w:World) (f_a:cT bY (ei 549755813888) w A_a n_a (ex fU dl k a)) (h1:0≤k) (h2:k+dm dl a≤549755813888) (h3:n_a≤549755813888) :
    Calls Tryz.prog 46 #[.slice A_a n_a c_a,i64 k] w fun e w'=>e = .returned (.int .i64 (k+dm dl a))∧St w [] [] w':=by
 have hl:a.length=n_a:=by have U:=f_a.sl.len;simpa [eW] using U
 have N:∀ x,0≤dl x:=fun x=>by simp only [dl];omega
 refine enter 61 Tryz.func46 rfl Tryz.ntmps46 rfl rfl ?_
 have M:=St.init w
 refine WC.r1 M [] rfl (WC.seq (fun K2 V=>WC.r1 M [] rfl (WC.block ?_)))
 refine WC.lS [0] rfl M (fun k_ f w'=>∃ (i:Nat),k_=n_a-i∧(i≤n_a)∧cC [(5,.int .i64 i),(1,.int .i64 (k+dm dl (a.take i)))] f) ((fun (i:Nat)=>n_a-i) (0)) ?_ ?_
 ·refine ⟨0,rfl,?_,⟨rfl,?_,trivial⟩⟩
  · exact Nat.zero_le _
  · (refine congrArg some (congrArg (Value.int _) ?_);simp [dm])
 clear M
 rintro _ f w ⟨i,rfl,p0,hG⟩ hF G
 refine WC.sub _ (hG.app hF) ?_
 clear hG hF
 have b0:=dJ (c:=dl) N (a.take i)
 have b1:=eJ N a i
 refine WC.seq (fun K4 Z=>WC.r1 G [] rfl ?_)
 refine WC.cD rfl (fun ad=>?_) (fun ad=>?_)
 ·have I:=nf (mk:=fU) (c:=dl) (F:=bY) (k:=k) (xs:=a) (i:=i) (by omega)
  have ag:=fM (c:=dl) (F:=bY) (xs:=a) (i:=i) (by omega)
  have b3:=eJ N a (i+1)
  simp only [dl] at ag
  have O:=(cT.nth f_a (show i<n_a by omega))
  rw [I] at O
  have al:=O.Tree.len
  have aB:=O.Tree_n
  simp only [fU,er,eW] at al aB
  have b4:(bO bY (ex fU dl k a) i).Tree.n=(bO bY a i).Tree.n:=by rw [I];rfl
  have a1:(bO bY (ex fU dl k a) i).Tree.xs=eP iC 3 (((k+dm dl (a.take i))+1)+1) (bO bY a i).Tree.xs.length:=by rw [I];rfl
  refine WC.skip (Z _ _ (WC.seq (fun K6 a2=>WC.block (WC.seq (fun K7 a6=>WC.sr (WL.r 2 G [] rfl ?_))))))
  refine WL.ix au am rfl rfl rfl rfl rfl rfl (bN.st0 f_a.sl G) ?_
  refine WL.fs 0 rfl (WL.val rfl rfl rfl (bP.load ac rfl rfl (bN.fld (bN.st0 f_a.sl G) ?_ rfl)) ?_)
  · omega
  refine WL.r 2 G [] rfl (WL.nil (WC.condF rfl (by simp [I,fU]) (WC.skip (a6 _ _ (WC.r1 G [] rfl (WC.seq (fun K9 a7=>WC.sq1 G ?_)))))))
  refine WQ.r 2 [] rfl ?_
  refine WQ.val rfl rfl rfl (fun w_ hs_=>(bP.idxN au am rfl rfl rfl ?_ ?_ ?_)) ?_
  · exact bN.some_ (bN.st0 f_a.sl (hs_:St _ _ _ _))
  · omega
  · omega
  refine WQ.val rfl rfl rfl (fun w_ hs_=>(bP.fieldO bG rfl rfl rfl aK rfl)) ?_
  refine WQ.val rfl rfl rfl (fun w_ hs_=>(bP.load bj rfl rfl (bN.fld (bN.st0 f_a.sl (hs_:St _ _ _ _)) ?_ rfl))) ?_
  · omega
  refine WQ.r 1 [] rfl ?_
  refine WQ.c0 Tryz.call98 rfl (fun w_ hs_=>nl _ _ ?_) ?_
  · first | assumption | rfl | omega
  refine WQ.r 1 [] rfl (WQ.nil (fun _ (J:St _ _ _ _)=>WC.condF rfl (by simp [I,fU]) (WC.skip (a7 _ _ (WC.r1 J [] rfl (WC.sr (WL.r 2 J [] rfl ?_)))))))
  refine WL.ix au am rfl rfl rfl rfl rfl rfl (bN.st0 f_a.sl J) ?_
  refine WL.fs 0 rfl (WL.val rfl rfl rfl (bP.load bl rfl rfl (bN.fld (bN.st0 f_a.sl J) ?_ rfl)) ?_)
  · omega
  refine WL.r 1 J [] rfl (WL.c0 J Tryz.call107 rfl (Eh _ _ _ _ _ _ _ (bN.st0 (cT.nth f_a (by omega)).Tree J) a1 ?_ ?_ ?_) (fun _ E=>?_))
  iterate 3 first | assumption | rfl | omega
  refine WL.r 1 E [] rfl (WL.nil (WC.seq (fun b8 a8=>WC.r1 E [] rfl ?_)))
  refine WC.condF rfl (by first | (simp [I,fU];done) | (simp [I,fU];omega)) (WC.skip (a8 _ _ (WC.seq (fun b9 ba=>WC.sr (WL.r 2 E [] rfl ?_)))))
  refine WL.ix au am rfl rfl rfl rfl rfl rfl (bN.st0 f_a.sl E) ?_
  refine WL.fs 0 rfl (WL.val rfl rfl rfl (bP.load ac rfl rfl (bN.fld (bN.st0 f_a.sl E) ?_ rfl)) ?_)
  · omega
  refine WL.r 2 E [] rfl (WL.nil (WC.condF rfl (by simp [I,fU]) (WC.skip (ba _ _ (WC.r1 E [] rfl (WC.seq (fun ck bb=>WC.sr ?_)))))))
  refine WL.r 2 E [] rfl (WL.ix au am rfl rfl rfl rfl rfl rfl (bN.st0 f_a.sl E) ?_)
  refine WL.fs 0 rfl (WL.val rfl rfl rfl (bP.load aw rfl rfl (bN.fld (bN.st0 f_a.sl E) ?_ rfl)) ?_)
  · omega
  refine WL.r 1 E [] rfl (WL.val rfl rfl rfl (bP.rem rfl rfl rfl ?_ ?_) ?_)
  · omega
  · omega
  refine WL.r 2 E [] rfl (WL.nil (WC.condF rfl (by simp [I,fU]) (WC.skip (bb _ _ (WC.region (WL.r 3 E [] rfl (WL.nil ?_)))))))
  refine a2 _ _ (WC.region (WL.r 3 E [] rfl (WL.nil (cQ ?_))))
  refine ⟨cR rfl,E,_,?_,i+1,rfl,?_,⟨rfl,?_,trivial⟩⟩
  · omega
  · omega
  · (refine congrArg some (congrArg (Value.int _) ?_);rw [fM (F:=bY) (by omega)];simp only [dl];omega)
 refine WC.exit (V _ _ (WC.r1 G [] rfl (WC.ret (rtv rfl rfl G ?_))))
 rw [show i=a.length from by omega,List.take_of_length_le (Nat.le_refl _)]
set_option maxHeartbeats 4000000 in
theorem D6 (a:cu) (L_a:Hp) (k:Int) (w:World) (o_a:cz a L_a) (h_a:Hh w L_a) (hd_:((L_a).map (·.1)).Nodup) (h1:0≤k) (O:cL k a≤549755813888) (hb_Panes:a.Panes.xs.length≤549755813888) (hb_Wins:a.Wins.xs.length≤549755813888) (hb_Sess:a.Sess.xs.length≤549755813888) (hd_Panes_Term_S_Back:∀ x,x∈a.Panes.xs→x.Term.S.Back.xs.length≤549755813888) :
    Calls Tryz.prog 12 #[.agg (eH a).toArray,i64 k] w fun e w'=>∃ L1,e = .returned (.int .i64 (cL k a))∧St w (L_a.map (·.1)) L1 w'∧cz (gK k a) L1:=by
 have U:=O
 simp only [cL] at U
 have bb:=dJ (c:=cw) kq a.Panes.xs
 have bc:=dJ (c:=dl) (fun x=>by simp only [dl];omega) a.Wins.xs
 have bd:=dJ (c:=de) (fun x=>by simp only [de];omega) a.Sess.xs
 refine enter 18 Tryz.func12 rfl Tryz.ntmps12 rfl rfl ?_
 have V:=St.takes1 w L_a h_a hd_
 refine WC.sr (WL.bx V rfl (fun N _ J=>WL.r 1 J [] rfl (WL.nil (WC.sr (WL.r 3 J [0] rfl ?_)))))
 obtain ⟨L5,L6,L7,Z,ad,ag,al⟩:=cz.op J o_a
 have M:=(Z.fb N)
 refine WL.l1 (M.fr L5) Tryz.call42 rfl (EG _ _ _ _ _ ad (M.ow L5) (St.nodupL (M.fr L5)) ?_ ?_ ?_ ?_) (fun _ bg aB E=>?_)
 iterate 4 first | assumption | omega | (simp only [cL];omega)
 replace E:=St.back [_] E
 refine WL.r 1 E [] rfl (WL.nil (WC.sr (WL.r 3 E [0] rfl (WL.l1 (E.fr L6) Tryz.call43 rfl (Ff _ _ _ _ _ ag (E.ow L6) (St.nodupL (E.fr L6)) ?_ ?_ ?_) (fun _ bo a1 G=>?_)))))
 iterate 3 first | assumption | omega | (simp only [cL];omega)
 replace G:=St.back [_] G
 refine WL.r 1 G [] rfl (WL.nil (WC.sr (WL.r 3 G [0] rfl (WL.l1 (G.fr L7) Tryz.call44 rfl (Fc _ _ _ _ _ al (G.ow L7) (St.nodupL (G.fr L7)) ?_ ?_ ?_) (fun _ b0 a2 I=>?_)))))
 iterate 3 first | assumption | omega | (simp only [cL];omega)
 replace I:=St.back [_] I
 refine WL.r 1 I [] rfl (WL.nil (WC.r1 I [] rfl (WC.ret (cO rfl (cb.tmp rfl) ?_))))
 obtain ⟨a6,a7,a8⟩:=cz.fl I aB a1 a2
 have ba:=(a7.fb N)
 refine ⟨_,congrArg Ending.returned ?_,(St.keep1 (ba.fr a6)),(by exact a8)⟩
 first | rfl | (simp [cL];done) | (simp [cL];omega)
set_option maxHeartbeats 4000000 in
theorem BL (a:cu) (k:Int) (w:World) (f_a:cI 549755813888 w (gK k a)) (h1:0≤k) (N:cL k a≤549755813888) :
    Calls Tryz.prog 13 #[.agg (eH a).toArray,i64 k] w fun e w'=>e = .returned (.int .i64 (cL k a))∧St w [] [] w':=by
 have O:a.Panes.n≤549755813888:=f_a.Panes_n
 have U:a.Panes.xs.length=a.Panes.n:=by have E:=f_a.Panes.sl.len;simpa [gK,er,eW] using E
 have V:a.Wins.n≤549755813888:=f_a.Wins_n
 have Z:a.Wins.xs.length=a.Wins.n:=by have E:=f_a.Wins.sl.len;simpa [gK,er,eW] using E
 have ad:a.Sess.n≤549755813888:=f_a.Sess_n
 have ag:a.Sess.xs.length=a.Sess.n:=by have E:=f_a.Sess.sl.len;simpa [gK,er,eW] using E
 have O:a.Panes.n≤549755813888:=f_a.Panes_n
 have U:a.Panes.xs.length=a.Panes.n:=by have E:=f_a.Panes.sl.len;simpa [gK,er,eW] using E
 have V:a.Wins.n≤549755813888:=f_a.Wins_n
 have Z:a.Wins.xs.length=a.Wins.n:=by have E:=f_a.Wins.sl.len;simpa [gK,er,eW] using E
 have ad:a.Sess.n≤549755813888:=f_a.Sess_n
 have ag:a.Sess.xs.length=a.Sess.n:=by have E:=f_a.Sess.sl.len;simpa [gK,er,eW] using E
 have al:=N
 simp only [cL] at al
 have a7:=dJ (c:=cw) kq a.Panes.xs
 have a8:=dJ (c:=dl) (fun x=>by simp only [dl];omega) a.Wins.xs
 have ba:=dJ (c:=de) (fun x=>by simp only [de];omega) a.Sess.xs
 refine enter 24 Tryz.func13 rfl Tryz.ntmps13 rfl rfl ?_
 have aB:=St.init w
 refine WC.sr (WL.bx aB rfl (fun b2 _ J=>WL.r 1 J [] rfl (WL.nil (WC.sr (WL.r 3 J [0] rfl ?_)))))
 refine WL.c0 J Tryz.call45 rfl (E2 _ _ _ _ _ _ (cT.st0 dz.st0 f_a.Panes J) ?_ ?_ ?_) (fun _ G=>?_)
 iterate 3 first | assumption | omega | (simp only [cL];omega)
 refine WL.r 1 G [] rfl (WL.nil (WC.seq (fun K5 a1=>WC.r1 G [] rfl ?_)))
 refine WC.condF rfl (by first | (simp;omega) | (rw [decide_eq_false_iff_not];simp only [cL];omega)) (WC.skip (a1 _ _ (WC.sr (WL.r 3 G [0] rfl ?_))))
 refine WL.c0 G Tryz.call46 rfl (EV _ _ _ _ _ _ (cT.st0 ei.st0 f_a.Wins G) ?_ ?_ ?_) (fun _ I=>?_)
 iterate 3 first | assumption | omega | (simp only [cL];omega)
 refine WL.r 1 I [] rfl (WL.nil (WC.seq (fun K8 a2=>WC.r1 I [] rfl ?_)))
 refine WC.condF rfl (by first | (simp;omega) | (rw [decide_eq_false_iff_not];simp only [cL];omega)) (WC.skip (a2 _ _ (WC.sr (WL.r 3 I [0] rfl ?_))))
 refine WL.c0 I Tryz.call47 rfl (Ev _ _ _ _ _ _ (cT.st0 ep.st0 f_a.Sess I) ?_ ?_ ?_) (fun _ M=>?_)
 iterate 3 first | assumption | omega | (simp only [cL];omega)
 refine WL.r 1 M [] rfl (WL.nil (WC.seq (fun bg a6=>WC.r1 M [] rfl ?_)))
 refine WC.condF rfl (by first | (simp;omega) | (rw [decide_eq_false_iff_not];simp only [cL];omega)) (WC.skip (a6 _ _ (WC.r1 M [] rfl (WC.ret (rtv rfl rfl M ?_)))))
 first | rfl | (simp [cL, *];done) | (simp [cL, *];omega)
set_option maxHeartbeats 8000000 in
theorem Et (A_aB:Option Addr) (n_aB c_aB:Nat) (aB:List UInt8) (w:World) (f_aB:bN cj w A_aB n_aB aB) :
    Calls Tryz.prog 3 #[.slice A_aB n_aB c_aB] w fun e w'=>e = .returned (.bool true)∧St w [] [] w':=by
 refine enter 93 Tryz.func3 rfl Tryz.ntmps3 rfl rfl ?_
 have N:=St.init w
 refine WC.r1 N [] rfl (WC.seq (fun K2 b8=>WC.r1 N [] rfl ?_))
 refine WC.cD rfl (fun b9=>?_) (fun b9=>?_)
 ·refine WC.r1 N [] rfl (WC.ret (cd ?_))
  clear b8
  refine rtv rfl rfl N ?_
  rfl
 have hn:n_aB≤1048576:=by have h9:=b9;first | omega | (simp at h9;omega)
 have e0:=f_aB.len
 have hT:=yO (s:=aB)
 have e1:eE 549755813888 (ke aB):=vZ (by omega)
 refine WC.skip (b8 _ _ (WC.sr (WL.r 1 N [] rfl ?_)))
 refine WL.x3 N Tryz.call7 rfl (Ch _ _ _ _ _ (bN.st0 f_aB N) ?_) (fun _ A5 c6 c5 ck cq=>?_)
 · first | assumption | rfl | omega | (simp only [cL];first | done | assumption | omega)
 refine WL.x2 cq Tryz.call6 rfl (EH _ _ _ _ _ (bN.ofOwn ck (cq.ow c5)) (bS.cap ck) ?_) (fun _ b4 b5 h_ cN=>?_)
 · first | assumption | rfl | omega | (simp only [cL];first | done | assumption | omega)
 obtain ⟨b6,G⟩:=h_
 refine WL.r 3 cN [] rfl (WL.al cN bp rfl rfl (fun e4 _ c7=>WL.st bX c7 0 rfl rfl (fun _ bx=>WL.r 1 bx [] rfl (WL.nil (WC.sr (WL.r 1 bx [] rfl ?_))))))
 refine WL.x3 bx Tryz.call7 rfl (Ch _ _ _ _ _ (bN.st0 f_aB bx) ?_) (fun _ e5 e6 b0 b1 Z=>?_)
 · first | assumption | rfl | omega | (simp only [G,cL];first | done | assumption | omega)
 replace Z:=St.back [_] Z
 refine WL.r 1 Z [] rfl (WL.nil (WC.sr (WL.r 1 Z [] rfl (WL.cl Tryz.call8 rfl (Bp _ _ _ _ _ (bN.ofOwn b1 (Z.ow b0)) (bS.cap b1) ?_) ?_))))
 · first | assumption | rfl | omega | (simp only [G,cL];first | done | assumption | omega)
 rintro _ e7 ⟨I,a6,rfl,ad,b7,E⟩
 try simp only [G] at E
 replace ad:=Z.callF ad
 refine ⟨_,rfl,?_⟩
 replace ad:=St.back [_] ad
 have c8:=vU 1 I
 rw [E] at c8
 have e8:=vP 1 I
 have e9:cL 1 I≤549755813888:=by omega
 have fb:I.Panes.xs.length≤549755813888:=by have h1:=jT iw (I.Panes.xs.map cr.dat);rw [List.length_map] at h1;have O:gx I.dat≤600000:=(by rw [E];exact hT);simp only [cu.dat,gx] at O;omega
 have fd:I.Wins.xs.length≤549755813888:=by have h1:=jT jO (I.Wins.xs.map dd.dat);rw [List.length_map] at h1;have O:gx I.dat≤600000:=(by rw [E];exact hT);simp only [cu.dat,gx] at O;omega
 have fg:I.Sess.xs.length≤549755813888:=by have h1:=jT jh (I.Sess.xs.map da.dat);rw [List.length_map] at h1;have O:gx I.dat≤600000:=(by rw [E];exact hT);simp only [cu.dat,gx] at O;omega
 have fl:∀ x,x∈I.Panes.xs→x.Term.S.Back.xs.length≤549755813888:=by
   intro x hx
   have h1:=nc (f:=iw) (List.mem_map_of_mem (f:=cr.dat) hx)
   have O:gx I.dat≤600000:=(by rw [E];exact hT)
   simp only [cu.dat,gx] at O
   have h3:=jT ig (x.Term.S.Back.xs.map dq.dat)
   rw [List.length_map] at h3
   simp only [dX.dat,cr.dat,fj.dat,eL.dat,gB.dat,lH,iw,mH,kf,sO] at h1
   omega
 refine WL.r 3 ad [] rfl (WL.al ad bp rfl rfl (fun fo _ dj=>WL.st bX dj 0 rfl rfl (fun _ a7=>WL.r 1 a7 [] rfl (WL.nil (WC.seq (fun f1 dn=>WC.sr (WL.r 2 a7 [0,1] rfl ?_)))))))
 refine WL.c0 a7 Tryz.call9 rfl (wZ I b4 _ (cz.ok (B:=549755813888) b7 (a7.ow a6) (by rw [E];assumption)) (cz.ok (B:=549755813888) b6 (a7.ow b5) (by rw [G];assumption)) ?_) (fun _ a8=>?_)
 · first | assumption | rfl | omega | (simp only [G,E,cL];first | done | assumption | omega)
 refine WL.r 2 a8 [] rfl (WL.pO bX 3 bU.nil a8 [] rfl rfl rfl rfl (fun g_=>trivial) (WL.nil ?_))
 refine WC.condF rfl (by first | (simp;done) | (simp;omega) | (simp [G,E];done) | (simp [G,E];omega) | (simp only [cL];simp;omega)) (WC.skip (dn _ _ (WC.seq (fun f2 ds=>WC.sr (WL.r 2 a8 [] rfl ?_)))))
 refine WL.x3 a8 Tryz.call7 rfl (Ch _ _ _ _ _ (bN.st0 f_aB a8) ?_) (fun _ f3 f4 d0 d1 ba=>?_)
 · first | assumption | rfl | omega | (simp only [G,E,cL];first | done | assumption | omega)
 replace ba:=St.back [_,_] ba
 refine WL.c0 ba Tryz.call10 rfl (Fp _ _ _ _ _ _ _ _ _ (bN.ofOwn b1 (ba.ow b0)) (bN.ofOwn d1 (ba.ow d0)) ?_ ?_) (fun _ bb=>?_)
 iterate 2 focus first | assumption | rfl | omega | (simp only [G,E,cL];first | done | assumption | omega)
 refine WL.r 1 bb [] rfl (WL.nil ?_)
 refine WC.condF rfl (by first | (simp;done) | (simp;omega) | (simp [G,E];done) | (simp [G,E];omega) | (simp only [cL];simp;omega)) (WC.skip (ds _ _ (WC.r1 bb [] rfl (WC.sr (WL.r 2 bb [] rfl ?_)))))
 refine WL.l1 (bb.fr b0) Tryz.call11 rfl (B5 _ _ _ _ _ b1 (bb.ow b0) ?_ ?_ ?_) (fun _ f5 ga M=>?_)
 iterate 3 focus first | assumption | rfl | omega | (simp only [G,E,cL];first | done | assumption | omega)
 replace M:=St.back [_,_] M
 refine WL.r 1 M [] rfl (WL.nil (WC.seq (fun gb d2=>WC.sr (WL.r 3 M [] rfl ?_))))
 apply WL.gO 4 bU.nil M rfl
 ·intro bc d3
  have d4:=bc
  try simp only [bf,bZ,ca] at d4
  refine WL.runA bX 2 (bU.nil.cons (j:=2) rfl bc) M [0,1] rfl ⟨rfl,rfl,trivial⟩ ?_
  refine WL.call (cX rfl bc) rfl rfl (bP.call Tryz.call9 rfl rfl rfl) (wZ I b4 _ (cz.ok (B:=549755813888) b7 (M.ow a6) (by rw [E];assumption)) (cz.ok (B:=549755813888) b6 (M.ow b5) (by rw [G];assumption)) ?_) ?_
  · first | assumption | rfl | omega | (simp only [G,E,cL];first | done | assumption | omega)
  rintro _ gc ⟨rfl,b2⟩
  replace b2:=M.call0 b2
  refine ⟨_,rfl,WL.runA bX 1 (bU.nil.cons (j:=2) rfl bc) b2 [] rfl trivial (WL.eO 4 bU.nil d3 b2 bc rfl rfl)⟩
 intro _ U
 refine WL.r 1 U [] rfl (WL.pO bX 3 bU.nil U [] rfl rfl rfl rfl (fun g_=>trivial) (WL.nil ?_))
 refine WC.condF rfl (by first | (simp;done) | (simp;omega) | (simp [G,E];done) | (simp [G,E];omega) | (simp only [cL];simp;omega)) (WC.skip (d2 _ _ (WC.r1 U [] rfl (WC.sr (WL.r 2 U [0] rfl ?_)))))
 refine WL.l1 (U.fr a6) Tryz.call12 rfl (D6 I _ _ _ b7 (U.ow a6) (St.nodupL (U.fr a6)) ?_ ?_ ?_ ?_ ?_ ?_) (fun _ c1 c2 V=>?_)
 · first | assumption | omega | (simp only [G,E,cL];first | done | assumption | omega)
 · first | assumption | omega | (simp only [cL];omega) | (simp only [G,E,cL];first | done | assumption | omega)
 iterate 4 focus first | assumption | omega | (simp only [G,E,cL];first | done | assumption | omega)
 replace V:=St.back [_,_] V
 refine WL.r 1 V [] rfl (WL.nil (WC.r1 V [] rfl (WC.sr (WL.r 2 V [0] rfl ?_))))
 refine WL.c0 V Tryz.call13 rfl (BL _ _ _ (cz.ok (B:=549755813888) c2 (V.ow c1) (p9 (by rw [E];assumption))) ?_ ?_) (fun _ ag=>?_)
 · first | assumption | omega | (simp only [G,E,cL];first | done | assumption | omega)
 · first | assumption | omega | (simp only [cL];omega) | (simp only [G,E,cL];first | done | assumption | omega)
 refine WL.r 1 ag [] rfl (WL.nil (WC.seq (fun gm d5=>WC.r1 ag [] rfl ?_)))
 refine WC.condF rfl (by first | (simp;done) | (simp;omega) | (simp [G,E];done) | (simp [G,E];omega) | (simp only [cL];simp;omega)) (WC.skip (d5 _ _ (WC.seq (fun gs d6=>WC.r1 ag [] rfl ?_))))
 refine WC.condF rfl (by first | (simp;done) | (simp;omega) | (simp [G,E];done) | (simp [G,E];omega) | (simp only [cL];simp;omega)) (WC.skip (d6 _ _ (WC.sr (WL.r 1 ag [] rfl ?_))))
 refine WL.x3 ag Tryz.call7 rfl (Ch _ _ _ _ _ (bN.st0 f_aB ag) ?_) (fun _ gL g0 d7 c3 b3=>?_)
 · first | assumption | rfl | omega | (simp only [G,E,cL];first | done | assumption | omega)
 replace b3:=St.back [_,_] b3
 refine WL.cl Tryz.call8 rfl (Bp _ _ _ _ _ (bN.ofOwn c3 (b3.ow d7)) (bS.cap c3) ?_) ?_
 · first | assumption | rfl | omega | (simp only [G,E,cL];first | done | assumption | omega)
 rintro _ g1 ⟨d8,d9,rfl,a1,ea,J⟩
 try simp only [G,E] at J
 replace a1:=b3.callF a1
 refine ⟨_,rfl,?_⟩
 replace a1:=St.back [_,_] a1
 refine WL.r 3 a1 [] rfl (WL.al a1 bp rfl rfl (fun g2 _ ec=>WL.st bX ec 0 rfl rfl (fun _ bd=>WL.r 1 bd [] rfl (WL.nil (WC.seq (fun g3 el=>WC.sr (WL.r 2 bd [0,2] rfl ?_)))))))
 refine WL.c0 bd Tryz.call9 rfl (wZ d8 b4 _ (cz.ok (B:=549755813888) ea (bd.ow d9) (by rw [J];assumption)) (cz.ok (B:=549755813888) b6 (bd.ow b5) (by rw [G];assumption)) ?_) (fun _ a2=>?_)
 · first | assumption | rfl | omega | (simp only [G,E,J,cL];first | done | assumption | omega)
 refine WL.r 2 a2 [] rfl (WL.pO bX 3 bU.nil a2 [] rfl rfl rfl rfl (fun g_=>trivial) (WL.nil ?_))
 refine WC.condF rfl (by first | (simp;done) | (simp;omega) | (simp [G,E,J];done) | (simp [G,E,J];omega) | (simp only [cL];simp;omega)) (WC.skip (el _ _ (WC.r1 a2 [] rfl (WC.sr (WL.r 2 a2 [1] rfl ?_)))))
 refine WL.c0 a2 Tryz.call13 rfl (BL _ _ _ (cz.ok (B:=549755813888) c2 (a2.ow c1) (p9 (by rw [E];assumption))) ?_ ?_) (fun _ bg=>?_)
 · first | assumption | omega | (simp only [G,E,J,cL];first | done | assumption | omega)
 · first | assumption | omega | (simp only [cL];omega) | (simp only [G,E,J,cL];first | done | assumption | omega)
 refine WL.r 1 bg [] rfl (WL.nil (WC.seq (fun g4 em=>WC.r1 bg [] rfl ?_)))
 refine WC.condF rfl (by first | (simp;done) | (simp;omega) | (simp [G,E,J];done) | (simp [G,E,J];omega) | (simp only [cL];simp;omega)) (WC.skip (em _ _ (WC.seq (fun g5 es=>WC.r1 bg [] rfl ?_))))
 refine WC.condF rfl (by first | (simp;done) | (simp;omega) | (simp [G,E,J];done) | (simp [G,E,J];omega) | (simp only [cL];simp;omega)) (WC.skip (es _ _ (WC.r1 bg [] rfl (WC.ret (rtv rfl rfl bg ?_)))))
 rfl
open Go Go.RowKit Go.ChangeShapes Go.WideShapes Go.ChangeAt Go.Deep
section
variable {H:Type} {enc:TypeId×Value→H} {P:Program} {w:World} {base:Nat} {spare:Nat→Bool} {held:Bool} {fuel:Nat} {t e:TypeId} {cs:List Value} {x:DataW H×List MemPlace}
theorem AS (ht:P.underlying t=some (.slice e)) (he:P.underlying e=some (.int .u8)) (hc:P.cellsOf e=1) (h:DataW.trod enc P w base spare held fuel t cs=some x) :
  ∃ A n c xs,cs=[.slice A n c]∧vo w A n xs∧n≤9223372036854775807:=by
 rcases open_ints ht he hc h with ⟨rfl,_⟩ | ⟨a,l,c,zs,rfl,_,hl,hm,hz,_,hcell,hwz⟩
 ·exact ⟨none,0,0,[],rfl,⟨rfl,iO.nil _ _ _⟩,by omega⟩
 ·have N:l≤zs.length:=by rw [hz];split<;>omega
  refine ⟨some a,l,c,(zs.take l).map (fun z=>UInt8.ofNat z.toNat),rfl,⟨by simp;omega,⟨by rw [fJ];simp [cj];omega,fun _=>rfl,fun j v hv=>?_⟩⟩,by simp only [maxLen] at hm;omega⟩
  have I:j<l:=by
   have:=(List.getElem?_eq_some_iff.1 hv).1
   simp [wY] at this;omega
  have J:=hcell j (by omega)
  have G:=hwz (zs.getD j 0) (by rw [List.getD_eq_getElem?_getD,List.getElem?_eq_getElem (show j<zs.length by omega)];exact List.getElem_mem _)
  simp [Lit.wf,IntKind.min,IntKind.max,IntKind.signed,IntKind.bits] at G
  show w.cell? (a.add j)=some v
  rw [J,← hv]
  have E:j<zs.length:=by omega
  have M:zs.getD j 0=zs[j]:=by rw [List.getD_eq_getElem?_getD,List.getElem?_eq_getElem E];rfl
  rw [M]
  simp only [List.getElem?_eq_getElem E,Option.getD_some] at G
  simp [sN,I,List.getElem?_eq_getElem E,UInt8.toNat_ofNat']
  omega
end
namespace fnExactStateRead
open Go.ChangeShapes Go.WideShapes Go.ChangeAt Go.RowKit
theorem own:ownKnob Tryz.prog.godebug=none:=by kernel_rfl
theorem laidOut:laidOutB Tryz.prog=true:=by kernel_rfl
set_option maxRecDepth 100000 in
set_option maxHeartbeats 1000000 in
theorem lifted (os:Os) (started:os.Started) (H:Type) (enc:TypeId×Value→H) :
    ReturnsInHanded {} Tryz.checked os 3 .any (Rows.fnExactStateReadSpec.pre6 enc Tryz.prog Tryz.f3 Rows.fnExactStateReadRow.domain false) (Rows.fnExactStateReadSpec.post enc Tryz.prog Tryz.f3 false true false false):=by
  refine returnsInHanded_of_change (C:=Tryz.checked) own started (by kernel_rfl) Tryz.func3
    (ChangeSpec.witness6 (enc:=enc) (C:=Tryz.checked) false ⟨#[],#[.slice none 0 0],[]⟩ 8 (by kernel_rfl) (by kernel_rfl) (by kernel_rfl) (by kernel_rfl)) ?_
  intro W base args ds gs before hval0 hW hcnd _
  have hval:∀ (j:Nat) t v,Tryz.f3.params[j]? = some t→args[j]? = some v→Value.okWide Tryz.prog W .any base t v:=hval0
  have hW':=hW
  obtain ⟨p,q,hA0,hV,rfl,hfz,hnd⟩:=hW
  have hA:DataW.TrodAll enc Tryz.prog W 0 (fun _=>true) true Tryz.f3.params.toList args.toList ds p:=hA0
  rw [Tryz.params3] at hA hval
  obtain ⟨v0,vs0,d0,ds0,p0,q0,hargs,rfl,rfl,h0,r0⟩:=trodAll_cons hA
  obtain ⟨rfl,rfl,rfl⟩:=trodAll_nil r0
  obtain rfl:args=#[v0]:=by cases args;simp_all
  obtain ⟨rfl,rfl⟩:=trodVars_none hV
  have k0:=h0
  have lt0:∀ x∈p0,x.block<W.heap.size:=by obtain ⟨m,hm⟩:=k0;exact DataW.trod_lt m _ _ _ hm
  obtain ⟨a0,l0,q0,rfl⟩:=okWide_slice ah (hval 0 22 v0 rfl rfl)
  obtain ⟨fuel0,hf0⟩:=h0
  replace hf0:DataW.trod _ _ _ _ _ _ _ 22 [.slice a0 l0 q0]=_:=hf0
  obtain ⟨A_aB,n_aB,c_aB,aB,e0,f_aB,w_aB⟩:=AS ah aH (by kernel_rfl) hf0
  obtain ⟨rfl,rfl,rfl⟩:A_aB=a0∧n_aB=l0∧c_aB=q0:=by cases e0;exact ⟨rfl,rfl,rfl⟩
  clear hA0 hval0
  refine (Et A_aB n_aB c_aB aB W f_aB).mono fun e W' ⟨he,hst⟩=>?_
  have bel:=hst.toBelow
  subst he
  exact ⟨_,rfl,_,_,_,[],_,[],hW',trodAll_mk1 (shut_bool bC _),(trodAll_cons_mk (Below.trod laidOut (by kernel_rfl) (of_decide_eq_true (by kernel_rfl)) k0 bel lt0) trodAll_mk0),rfl,bel.frame _,fun h=>by cases h⟩
theorem jq0:laidOutB Tryz.pinned.checked.prog=true:=by kernel_rfl
theorem jq1:mapsRowed Tryz.pinned.checked.prog=true:=by kernel_rfl
theorem jq2:Tryz.pinned.checked.prog.inPlace 3=Rows.fnExactStateReadRow.inPlace:=by kernel_rfl
theorem jq3:Tryz.pinned.checked.prog.unfollowed 3=Rows.fnExactStateReadRow.unfollowed:=by kernel_rfl
theorem jq4:Tryz.pinned.checked.prog.recurses 3=Rows.fnExactStateReadRow.recurses:=by kernel_rfl
theorem jq5:Tryz.pinned.checked.prog.varsNamed 3=Rows.fnExactStateReadRow.named:=by kernel_rfl
theorem closed:joinedFacts Tryz.pinned.checked.prog 3 Tryz.f3 Rows.fnExactStateReadSpec Rows.fnExactStateReadRow=true:=by
  unfold joinedFacts
  rw [jq0,jq1,jq2,jq3,jq4,jq5]
  kernel_rfl
theorem fnIs:Tryz.pinned.checked.prog.funcNamed Rows.fnExactStateReadRow.func=some 3:=by kernel_rfl
theorem instIs:Tryz.f3.isInstance Tryz.pinned.checked.prog Rows.fnExactStateReadRow.origin Rows.fnExactStateReadRow.targs:=of_decide_eq_true (by kernel_rfl)
theorem wrapIs:Tryz.f3.isWrapper Tryz.pinned.checked.prog Rows.fnExactStateReadRow.wrapper Rows.fnExactStateReadRow.mainSum:=by unfold Func.isWrapper;first | (rw [if_pos (by decide +kernel)];kernel_rfl) | (rw [if_neg (by decide +kernel)];exact ⟨rfl,rfl⟩)
theorem over:Rows.fnExactStateReadRow.holds Tryz.pinned (OpenSpec.ofChange Rows.fnExactStateReadSpec):=
  OpenClaim.holds_of_wide 3 Tryz.f3 rfl rfl rfl rfl rfl rfl rfl ⟨rfl,rfl,rfl,rfl,rfl⟩ rfl rfl rfl rfl rfl fnIs Tryz.func3 closed instIs wrapIs
    (fun os started H enc _=>lifted os started H enc)
end fnExactStateRead
theorem fnExactStateRead_holds:Rows.FnExactStateReadSaid:=fnExactStateRead.over
end Go.Proofs.YtmomhohmknlmkaaGreat
